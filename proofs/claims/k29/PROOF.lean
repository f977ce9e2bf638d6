import PyProof.Rows.All
import Wide.All
import OpenK.AllK
import Wide.FinOn
import KE.KStateDown
import HandS.Base
import HandS.Call
import HandS.Ends
import HandS.More
import HandS.Words
import HandS.WordsExc
import HandS.Defaults
import HandS.ExcInit
import HandS.ExcIs
import HandS.Head0
import HandS.Head1
import HandS.Head2
import HandS.HeadEnd
import HandS.HeadHook1
import HandS.HeadHook2
import HandS.HeadHook3
import HandS.ForMost
import HandS.Exc
import HandS.ExcOwn
import HandS.TryOnly
import HandS.IsInst
import HandS.StrMore
import HandS.Replace
import HandS.ReplaceDef
import HandS.HotCalls
import HandS.ExcInitHot
import HandS.ExcField
import HandS.Style
import HandS.FStr
import HandS.Deep
import HandS.Dict
import HandS.DictTup
import HandS.Conv
import HandS.Finally
import PyProof.DictMoreH
import HandS.Walk
import HandS.TryMany
import PySem.Challenge.RW_samenames_k29_undo_and_redo
set_option Elab.async false
set_option linter.all false
set_option maxRecDepth 100000
set_option maxHeartbeats 4000000
/-! the head by facts: the written part made by force -/
namespace DL
open PySem PySem.Spec PyProof.Rows L2
/-! ### a part of the heap, made by force -/
def frcK {α : Type} (g : Addr → Option Obj) : List Addr → PySem.W.Frag → (PySem.W.Frag → α) → α
  | [], K, k => k K
  | a :: r, K, k => HandSHeadRun.frNat a fun a => match g a with
    | some o => frcK g r ((a, o) :: K) k
    | none => frcK g r K k
def SubG (g : Addr → Option Obj) (K : PySem.W.Frag) : Prop := ∀ a o, K.lookup a = some o → g a = some o
theorem SubG.cons {g : Addr → Option Obj} {K : PySem.W.Frag} (h : SubG g K) {a : Addr} {o : Obj} (e : g a = some o) : SubG g ((a, o) :: K) := fun b ob q => by
  have q2 : (match b == a with | true => some o | false => K.lookup b) = some ob := q
  cases z : (b == a) with
  | true =>
    rw [z] at q2
    cases q2
    rw [beq_iff_eq.mp z]
    exact e
  | false =>
    rw [z] at q2
    exact h b ob q2
theorem frcK_ok {α : Type} {g : Addr → Option Obj} {k : PySem.W.Frag → α} {v : α} : ∀ {as : List Addr} {K : PySem.W.Frag}, SubG g K → frcK g as K k = v → ∃ K', SubG g K' ∧ k K' = v
  | [], K, h, e => ⟨K, h, e⟩
  | a :: r, K, h, e => by
    unfold frcK at e
    rw [HandSHeadRun.frNat_eq] at e
    cases q : g a with
    | none =>
      rw [q] at e
      exact frcK_ok h e
    | some o =>
      rw [q] at e
      exact frcK_ok (h.cons q) e
/-- what the objects at as name, as far as K does not hold it -/
def nextK (g : Addr → Option Obj) (K : PySem.W.Frag) (as : List Addr) : List Addr := (as.flatMap fun a => match g a with
  | some o => He.refsD o
  | none => []).filter fun a => !(K.any fun p => Nat.beq p.1 a)
/-- so many rounds -/
def rchK {α : Type} (g : Addr → Option Obj) : Nat → List Addr → PySem.W.Frag → (PySem.W.Frag → α) → α
  | 0, _, K, k => k K
  | n + 1, as, K, k => frcK g as K fun K' => rchK g n (nextK g K' as) K' k
theorem rchK_ok {α : Type} {g : Addr → Option Obj} {k : PySem.W.Frag → α} {v : α} : ∀ {n : Nat} {as : List Addr} {K : PySem.W.Frag}, SubG g K → rchK g n as K k = v → ∃ K', SubG g K' ∧ k K' = v
  | 0, _, K, h, e => ⟨K, h, e⟩
  | n + 1, as, K, h, e => by
    unfold rchK at e
    obtain ⟨K1, h1, e1⟩ := frcK_ok h e
    exact rchK_ok h1 e1
/-- the roots: what the module's names stand for -/
def rootK (K : PySem.W.Frag) : List Str → List Addr
  | [] => []
  | x :: r => match PySem.W.nsIn K mainGlobals x with
    | some (some (.ref a)) => a :: rootK K r
    | _ => rootK K r
def writK {α : Type} (g : Addr → Option Obj) (roots : List Str) (k : PySem.W.Frag → α) : α := frcK g [mainGlobals] [] fun K => rchK g 4 (rootK K roots) K k
theorem writK_ok {α : Type} {g : Addr → Option Obj} {roots : List Str} {k : PySem.W.Frag → α} {v : α} (e : writK g roots k = v) : ∃ K', SubG g K' ∧ k K' = v := by
  obtain ⟨K1, h1, e1⟩ := frcK_ok (K := []) (fun _ _ q => nomatch (show (none : Option Obj) = some _ from q)) e
  exact rchK_ok h1 e1
/-! ### the Hook -/
abbrev HdA : Type := Bool × List He.FnW × List (Option (List (Option (Str × Int))))
def obH (fs : List (PySem.W.Frag → Bool)) (fn : List He.DefD) (ds : List (Str × List Str)) (K : PySem.W.Frag) : HdA :=
  ((fs.all fun f => f K) && fn.all fun d => d.ok K, fn.map fun d => He.fnW K d.at_, ds.map fun d => He.dicW K (He.ga K d.1))
def vlH (fn : List He.DefD) (ds : List (Str × List Str)) (w : World) : HdA := (true, fn.map He.DefD.val, ds.map fun d => some (He.keysIn w.params d.2))
def hkH (roots : List Str) (fs : List (PySem.W.Frag → Bool)) (fn : List He.DefD) (ds : List (Str × List Str)) : PySem.W.Hook where
  α := HdA
  obs := fun s => writK s.heap.get? roots (obH fs fn ds)
  val := fun w => vlH fn ds w
  says := fun w h => ∃ K : PySem.W.Frag, K.In h ∧ obH fs fn ds K = vlH fn ds w
  of := fun _ _ e => by
    obtain ⟨K, h, q⟩ := writK_ok e
    exact ⟨K, h, q⟩
  keeps := fun _ _ _ ⟨K, hK, c⟩ k => ⟨K, PySem.W.Frag.In.keeps hK k, c⟩
def obT (roots : List Str) (fs : List (PySem.W.Frag → Bool)) (fn : List He.DefD) (ds : List (Str × List Str)) (s : PySem.W.SharedT) : HdA := writK (HandSHeadRun.getT s) roots (obH fs fn ds)
theorem obT_eq {roots : List Str} {fs : List (PySem.W.Frag → Bool)} {fn : List He.DefD} {ds : List (Str × List Str)} (s : PySem.W.SharedT) : obT roots fs fn ds s = (hkH roots fs fn ds).obs s.abs := by
  have e : HandSHeadRun.getT s = s.abs.heap.get? := funext (HandSHeadRun.getT_eq s)
  unfold obT
  rw [e]
  rfl
section
variable {fs : List (PySem.W.Frag → Bool)} {fn : List He.DefD} {ds : List (Str × List Str)} {K : PySem.W.Frag} {w : World}
theorem sh_fact (c : obH fs fn ds K = vlH fn ds w) (i : Nat) {f : PySem.W.Frag → Bool} (h : fs[i]? = some f := by rfl) : f K = true := by
  have c1 := (He.ba (show ((fs.all fun f => f K) && fn.all fun d => d.ok K) = true from congrArg (fun z : HdA => z.1) c)).1
  exact List.all_eq_true.mp c1 f (List.mem_of_getElem? h)
theorem sh_def (c : obH fs fn ds K = vlH fn ds w) (i : Nat) {d : He.DefD} (h : fn[i]? = some d := by rfl) : ∃ fd, FunD K d.name d.qual d.params d.body d.scope (d.dvs K) (d.kws K) (He.fAd K d.at_) fd := by
  have c2 := (He.ba (show ((fs.all fun f => f K) && fn.all fun d => d.ok K) = true from congrArg (fun z : HdA => z.1) c)).2
  have e : fn.map (fun d => He.fnW K d.at_) = fn.map He.DefD.val := congrArg (fun z : HdA => z.2.1) c
  have e2 : (fn.map fun d => He.fnW K d.at_)[i]? = (fn.map He.DefD.val)[i]? := by rw [e]
  rw [List.getElem?_map, List.getElem?_map, h] at e2
  exact He.DefD.funD (Option.some.inj e2) (List.all_eq_true.mp c2 d (List.mem_of_getElem? h))
/-- a def without defaults -/
theorem sh_fun {x qual : Str} {st : Stmt} {f : Addr} (h : ∃ fd, FunD K x qual (defArgs st) (defBody st) (defScope st) [] [] f fd) : ∃ fd, Fun K x qual st f fd := by
  obtain ⟨fd, F⟩ := h
  obtain ⟨oc, od, dV, kV, doc, pm, an, cdv, ct, osl, e, l, c, hd, _⟩ := F.ex
  rcases hd with ⟨_, e2⟩ | ⟨e2, _⟩
  · subst e2
    exact ⟨fd, ⟨oc, od, kV, doc, pm, an, cdv, ct, osl, e, l, c⟩, F.kp⟩
  · exact absurd rfl e2
end
/-! ### facts -/
def fGlo (x : Str) (K : PySem.W.Frag) : Bool := He.eqO (PySem.W.nsIn K mainGlobals x) (some (some (.ref (He.ga K x))))
def fFree (x : Str) (K : PySem.W.Frag) : Bool := He.eqO (PySem.W.nsIn K mainGlobals x) (some none)
def fMeth (c m : Str) (K : PySem.W.Frag) : Bool := He.eqO (PySem.W.findIn K (.ref (He.ga K c)) m) (some (some (.ref (He.ma K (He.ga K c) m)))) && PySem.W.isFn K (.ref (He.ma K (He.ga K c) m))
def fMethT (c m : Str) (K : PySem.W.Frag) : Bool := He.eqO (PySem.W.findIn K (.ref (He.ga K c)) m) (some (some (.ref (He.ma K (He.ga K c) m)))) && decide (PySem.W.typeIn K (.ref (He.ma K (He.ga K c) m)) = some (.type "function"))
def fCls (x : Str) (K : PySem.W.Frag) : Bool := fGlo x K && ((He.Fa.cls x).ok K && (PySem.W.makesIn K (He.ga K x) && PySem.W.keepIn K (.ref (He.ga K x))))
def fNo (c f : Str) (K : PySem.W.Frag) : Bool := He.eqO (PySem.W.findIn K (.ref (He.ga K c)) f) (some none)
def fNos (c : Str) (fs : List Str) (K : PySem.W.Frag) : Bool := fs.all fun f => fNo c f K
theorem fNos_at {c : Str} {fs : List Str} {K : PySem.W.Frag} (h : fNos c fs K = true) (i : Nat) {f : Str} (e : fs[i]? = some f := by rfl) : PySem.W.findIn K (.ref (He.ga K c)) f = some none :=
  He.eqO_ok (List.all_eq_true.mp h f (List.mem_of_getElem? e))
/-- what every class of exceptions brings -/
def fExc (x : Str) (K : PySem.W.Frag) : Bool := fGlo x K && (PySem.W.keepIn K (.ref (He.ga K x)) && (decide (PySem.W.subIn K (.ref (He.ga K x)) (.type "BaseException") = some true) && (decide (PySem.W.typeIn K (.ref (He.ga K x)) = some (.type "type")) && PySem.W.hasDictIn K (He.ga K x))))
theorem fExc_ok {x : Str} {K : PySem.W.Frag} (h : fExc x K = true) : PySem.W.nsIn K mainGlobals x = some (some (.ref (He.ga K x))) ∧ PySem.W.keepIn K (.ref (He.ga K x)) = true ∧ PySem.W.subIn K (.ref (He.ga K x)) (.type "BaseException") = some true ∧
    PySem.W.typeIn K (.ref (He.ga K x)) = some (.type "type") ∧ PySem.W.hasDictIn K (He.ga K x) = true := by
  obtain ⟨h1, h⟩ := He.ba h
  obtain ⟨h2, h⟩ := He.ba h
  obtain ⟨h3, h⟩ := He.ba h
  obtain ⟨h4, h5⟩ := He.ba h
  exact ⟨He.eqO_ok h1, h2, of_decide_eq_true h3, of_decide_eq_true h4, h5⟩
def fExcX (x : Str) (ch : List Value) (new : String) (K : PySem.W.Frag) : Bool := fExc x K && PySem.W.excIn K (He.ga K x) ch new
/-- an exception class with an __init__ of its own -/
def mroB (C0 : Addr) : List Value → Bool
  | .ref C :: bm => decide (C = C0) && PySem.HandSPX.refsVE bm
  | _ => false
def slB : List (Option Value) → Bool
  | [_, _, _, _, some (.builtin n), _] => decide (n = "ValueError.__new__")
  | _ => false
def fOex (x : Str) (K : PySem.W.Frag) : Bool := fExc x K && (He.eqO (PySem.W.findIn K (.ref (He.ga K x)) "__setattr__") (some (some (.builtin "object.__setattr__"))) && match K.lookup (He.ga K x) with
  | some ⟨oc, _, .cls cd, sl⟩ => decide (oc = .type "type") && (cd.hasDict && (!cd.hasDel && (mroB (He.ga K x) cd.mro && slB sl.toList)))
  | _ => false)
def fIsc (x : Str) (K : PySem.W.Frag) : Bool := He.eqO (PySem.W.findIn K (.ref (He.ga K x)) "__getattribute__") (some (some (.builtin "BaseException.__getattribute__"))) && (He.eqO (PySem.W.findIn K (.ref (He.ga K x)) "__getattr__") (some none) &&
  (He.eqO (PySem.W.findIn K (.ref (He.ga K x)) "__class__") (some (some (.builtin "object.__class__"))) && (He.eqO (PySem.W.specialIn K (.builtin "object.__class__") "__get__") (some (some (.builtin "getset_descriptor.__get__"))) &&
  (decide (PySem.W.takesIn K (.builtin "object.__class__") = some true) && decide (PySem.W.mroIn K (He.ga K x) (.type "object") = some true)))))
theorem fIsc_ok {x : Str} {K : PySem.W.Frag} (h : fIsc x K = true) (h0 : PySem.W.subIn K (.ref (He.ga K x)) (.type "BaseException") = some true ∧ PySem.W.hasDictIn K (He.ga K x) = true) : ExcC K (He.ga K x) := by
  obtain ⟨h1, h⟩ := He.ba h
  obtain ⟨h2, h⟩ := He.ba h
  obtain ⟨h3, h⟩ := He.ba h
  obtain ⟨h4, h⟩ := He.ba h
  obtain ⟨h5, h6⟩ := He.ba h
  exact ⟨He.eqO_ok h1, He.eqO_ok h2, h0.1, h0.2, He.eqO_ok h3, He.eqO_ok h4, of_decide_eq_true h5, of_decide_eq_true h6⟩
def fSub (x y : Str) (b : Bool) (K : PySem.W.Frag) : Bool := decide (PySem.W.subIn K (.ref (He.ga K x)) (.ref (He.ga K y)) = some b)
def fSubT (x : Str) (t : String) (K : PySem.W.Frag) : Bool := decide (PySem.W.subIn K (.ref (He.ga K x)) (.type t) = some true)
theorem fSub_ok {x y : Str} {b : Bool} {K : PySem.W.Frag} (h : fSub x y b K = true) : PySem.W.subIn K (.ref (He.ga K x)) (.ref (He.ga K y)) = some b := of_decide_eq_true h
/-- tuples -/
def tupSB (K : PySem.W.Frag) (a : Addr) (vs : List V) : Bool := match K.lookup a with
  | some ⟨oc, _, .seq its _, _⟩ => decide (oc = .type "tuple") && He.relAll vs its.toList
  | _ => false
theorem tupSB_ok {K : PySem.W.Frag} {a : Addr} {vs : List V} (h : tupSB K a vs = true) : ∃ ob its n, K.lookup a = some ob ∧ ob.cls = .type "tuple" ∧ ob.data = .seq its n ∧ Vals vs its.toList := by
  unfold tupSB at h
  cases q : K.lookup a with
  | none => rw [q] at h; cases h
  | some o =>
    obtain ⟨oc, od, dt, sl⟩ := o
    rw [q] at h
    cases dt with
    | seq its n =>
      obtain ⟨h1, h2⟩ := He.ba (show (decide (oc = .type "tuple") && He.relAll vs its.toList) = true from h)
      exact ⟨_, its, n, rfl, of_decide_eq_true h1, rfl, He.relAll_ok h2⟩
    | _ => cases h
/-- the i-th part of the tuple at a -/
def itA (K : PySem.W.Frag) (a : Addr) (i : Nat) : Addr := match K.lookup a with
  | some ⟨_, _, .seq its _, _⟩ => (match its.toList[i]? with
    | some (.ref b) => b
    | _ => 0)
  | _ => 0
def fTup (x : Str) (ks : List Str) (K : PySem.W.Frag) : Bool := fGlo x K && tupSB K (He.ga K x) (ks.map V.str)
def fPair (x : Str) (k1 k2 : List Str) (K : PySem.W.Frag) : Bool := fGlo x K && (tupSB K (He.ga K x) [.ref (itA K (He.ga K x) 0), .ref (itA K (He.ga K x) 1)] && (tupSB K (itA K (He.ga K x) 0) (k1.map V.str) && tupSB K (itA K (He.ga K x) 1) (k2.map V.str)))
/-- the value under a dict's key -/
def dvA (K : PySem.W.Frag) (x k : Str) : Addr := match PySem.W.nsIn K (He.ga K x) k with
  | some (some (.ref b)) => b
  | _ => 0
def fDvG (x k y : Str) (K : PySem.W.Frag) : Bool := He.eqO (PySem.W.nsIn K (He.ga K x) k) (some (some (.ref (He.ga K y))))
def fDvT (x k : Str) (ns : List Int) (K : PySem.W.Frag) : Bool := He.eqO (PySem.W.nsIn K (He.ga K x) k) (some (some (.ref (dvA K x k)))) && tupSB K (dvA K x k) (ns.map V.int)
def fDvI (x k : Str) (i : Int) (K : PySem.W.Frag) : Bool := match PySem.W.nsIn K (He.ga K x) k with
  | some (some (.int j _)) => decide (j = i)
  | _ => false
section
variable {K : PySem.W.Frag} {h : Heap} {mg : Str → Option Value}
theorem fGlo_at {x : Str} (c : fGlo x K = true) : PySem.W.nsIn K mainGlobals x = some (some (.ref (He.ga K x))) := He.eqO_ok c
theorem fGlo_ok (X : K.In h) (G : h.Ns mainGlobals mg) {x : Str} (c : fGlo x K = true) : mg x = some (.ref (He.ga K x)) := PySem.W.mg_of X G (He.eqO_ok c)
theorem fFree_ok (X : K.In h) (G : h.Ns mainGlobals mg) {x : Str} (c : fFree x K = true) : mg x = none := PySem.W.mg_none_of X G (He.eqO_ok c)
theorem fCls_ok (X : K.In h) (G : h.Ns mainGlobals mg) {x : Str} (c : fCls x K = true) : mg x = some (.ref (He.ga K x)) ∧ PySem.W.nsIn K mainGlobals x = some (some (.ref (He.ga K x))) ∧ Cls K (He.ga K x) ∧ PySem.W.makesIn K (He.ga K x) = true ∧ PySem.W.keepIn K (.ref (He.ga K x)) = true := by
  obtain ⟨h1, c⟩ := He.ba c
  obtain ⟨h2, c⟩ := He.ba c
  obtain ⟨h3, h4⟩ := He.ba c
  exact ⟨fGlo_ok X G h1, fGlo_at h1, He.cls_ok h2, h3, h4⟩
theorem fMeth_ok {c m : Str} {fd : FuncData} {st : Stmt} {x q : Str} (h : fMeth c m K = true) (F : Fun K x q st (He.ma K (He.ga K c) m) fd) : Meth K (He.ga K c) m (He.ma K (He.ga K c) m) := by
  obtain ⟨h1, h2⟩ := He.ba h
  exact ⟨He.eqO_ok h1, h2, F.kp⟩
theorem fMk_ok {c : Str} (h : fMeth c "__init__" K = true) (hm : PySem.W.makesIn K (He.ga K c) = true) (hk : PySem.W.keepIn K (.ref (He.ga K c)) = true) : Mk K (He.ga K c) (He.ma K (He.ga K c) "__init__") := by
  obtain ⟨h1, h2⟩ := He.ba h
  exact ⟨hm, He.eqO_ok h1, h2, hk⟩
end
/-! ### the run's equation in three parts -/
section
open HandSHeadRun
abbrev RunP {α : Type} (r : PySem.W.OpenRow) (M : Nat) (f : World → PySem.W.SharedT → α) (v : World → α) (w : World) : Prop := ∀ os : OsState, (endF (stepQ (denQ tabQ) r.prog w) M r.prog w os).map (f w) = some (v w)
theorem run_of {r : PySem.W.OpenRow} {q : Program} {H : PySem.W.Hook} {ob : PySem.W.SharedT → H.α} {M : Nat} {loose : List PySem.Str} {w : World}
    (h1 : RunP r M (fun w s => looksF r.prog (PySem.W.boot_heap w.params) s.abs) (fun _ => true) w)
    (h2 : RunP r M (fun _ s => seenQ q loose (importedModules r.prog.main.body) (fun s => PySem.W.xlAt q [] s && PySem.W.recOk r.toRowW.records s) s.abs) (fun _ => PySem.W.openGood q loose) w)
    (h3 : RunP r M (fun _ s => ob s) (fun w => H.val w) w) : RunEq r q H ob M loose w := by
  intro os
  have e1 := h1 os
  have e2 := h2 os
  have e3 := h3 os
  cases e : endF (stepQ (denQ tabQ) r.prog w) M r.prog w os with
  | none =>
    rw [e] at e1
    cases e1
  | some s =>
    rw [e] at e1 e2 e3
    have f1 := Option.some.inj e1
    have f2 := Option.some.inj e2
    have f3 := Option.some.inj e3
    exact congrArg some (Prod.ext f1 (Prod.ext f2 f3))
end
end DL

set_option Elab.async false
set_option linter.all false
set_option maxRecDepth 100000
set_option maxHeartbeats 4000000
namespace MyH
section
open PySem PySem.W PySem.Calls PyProof.Rows L2
def topS (i : Nat) : Stmt := PySem.Challenge.pw_samenames_k29_undo_and_redo.main.body.getD i (.Pass ⟨0, 0, 0, 0⟩)
abbrev s_has_right_characters : Stmt := topS 15
def d_has_right_characters : He.DefD := ⟨("has_right_characters", none), "has_right_characters", "has_right_characters", defArgs s_has_right_characters, defBody s_has_right_characters, defScope s_has_right_characters, [], []⟩
abbrev s_is_text : Stmt := topS 16
def d_is_text : He.DefD := ⟨("is_text", none), "is_text", "is_text", defArgs s_is_text, defBody s_is_text, defScope s_is_text, [], []⟩
abbrev s_apply_edit : Stmt := topS 17
def d_apply_edit : He.DefD := ⟨("apply_edit", none), "apply_edit", "apply_edit", defArgs s_apply_edit, defBody s_apply_edit, defScope s_apply_edit, [], []⟩
abbrev s_inverse : Stmt := topS 18
def d_inverse : He.DefD := ⟨("inverse", none), "inverse", "inverse", defArgs s_inverse, defBody s_inverse, defScope s_inverse, [], []⟩
abbrev s_run_end : Stmt := topS 25
def d_run_end : He.DefD := ⟨("run_end", none), "run_end", "run_end", defArgs s_run_end, defBody s_run_end, defScope s_run_end, [], []⟩
abbrev s_token_at : Stmt := topS 26
def d_token_at : He.DefD := ⟨("token_at", none), "token_at", "token_at", defArgs s_token_at, defBody s_token_at, defScope s_token_at, [], []⟩
abbrev s_tokens_between : Stmt := topS 27
def d_tokens_between : He.DefD := ⟨("tokens_between", none), "tokens_between", "tokens_between", defArgs s_tokens_between, defBody s_tokens_between, defScope s_tokens_between, [], []⟩
abbrev s_tokens : Stmt := topS 28
def d_tokens : He.DefD := ⟨("tokens", none), "tokens", "tokens", defArgs s_tokens, defBody s_tokens, defScope s_tokens, [], []⟩
abbrev s_is_name : Stmt := topS 29
def d_is_name : He.DefD := ⟨("is_name", none), "is_name", "is_name", defArgs s_is_name, defBody s_is_name, defScope s_is_name, [], []⟩
abbrev s_Keeper___init__ : Stmt := inClass (topS 110) 0
def d_Keeper___init__ : He.DefD := ⟨("Keeper", some "__init__"), "__init__", "Keeper.__init__", defArgs s_Keeper___init__, defBody s_Keeper___init__, defScope s_Keeper___init__, [], []⟩
abbrev s_Keeper_put : Stmt := inClass (topS 110) 1
def d_Keeper_put : He.DefD := ⟨("Keeper", some "put"), "put", "Keeper.put", defArgs s_Keeper_put, defBody s_Keeper_put, defScope s_Keeper_put, [], []⟩
abbrev s_Keeper_computed : Stmt := inClass (topS 110) 12
def d_Keeper_computed : He.DefD := ⟨("Keeper", some "computed"), "computed", "Keeper.computed", defArgs s_Keeper_computed, defBody s_Keeper_computed, defScope s_Keeper_computed, [], []⟩
abbrev s_compute : Stmt := topS 118
def d_compute : He.DefD := ⟨("compute", none), "compute", "compute", defArgs s_compute, defBody s_compute, defScope s_compute, [], []⟩
abbrev s_new_keeper : Stmt := topS 119
def d_new_keeper : He.DefD := ⟨("new_keeper", none), "new_keeper", "new_keeper", defArgs s_new_keeper, defBody s_new_keeper, defScope s_new_keeper, [], []⟩
abbrev s_need_module : Stmt := topS 126
def d_need_module : He.DefD := ⟨("need_module", none), "need_module", "need_module", defArgs s_need_module, defBody s_need_module, defScope s_need_module, [], []⟩
abbrev s_Server___init__ : Stmt := inClass (topS 127) 0
def d_Server___init__ : He.DefD := ⟨("Server", some "__init__"), "__init__", "Server.__init__", defArgs s_Server___init__, defBody s_Server___init__, defScope s_Server___init__, [], []⟩
abbrev s_Server_modules : Stmt := inClass (topS 127) 1
def d_Server_modules : He.DefD := ⟨("Server", some "modules"), "modules", "Server.modules", defArgs s_Server_modules, defBody s_Server_modules, defScope s_Server_modules, [], []⟩
abbrev s_Server_program : Stmt := inClass (topS 127) 2
def d_Server_program : He.DefD := ⟨("Server", some "program"), "program", "Server.program", defArgs s_Server_program, defBody s_Server_program, defScope s_Server_program, [], []⟩
abbrev s_Server_need_file : Stmt := inClass (topS 127) 3
def d_Server_need_file : He.DefD := ⟨("Server", some "need_file"), "need_file", "Server.need_file", defArgs s_Server_need_file, defBody s_Server_need_file, defScope s_Server_need_file, [], []⟩
abbrev s_Server_forget_steps : Stmt := inClass (topS 127) 5
def d_Server_forget_steps : He.DefD := ⟨("Server", some "forget_steps"), "forget_steps", "Server.forget_steps", defArgs s_Server_forget_steps, defBody s_Server_forget_steps, defScope s_Server_forget_steps, [], []⟩
abbrev s_Server_open_file : Stmt := inClass (topS 127) 6
def d_Server_open_file : He.DefD := ⟨("Server", some "open_file"), "open_file", "Server.open_file", defArgs s_Server_open_file, defBody s_Server_open_file, defScope s_Server_open_file, [], []⟩
abbrev s_Server_set_text : Stmt := inClass (topS 127) 8
def d_Server_set_text : He.DefD := ⟨("Server", some "set_text"), "set_text", "Server.set_text", defArgs s_Server_set_text, defBody s_Server_set_text, defScope s_Server_set_text, [], []⟩
abbrev s_Server_do_step : Stmt := inClass (topS 127) 9
def d_Server_do_step : He.DefD := ⟨("Server", some "do_step"), "do_step", "Server.do_step", defArgs s_Server_do_step, defBody s_Server_do_step, defScope s_Server_do_step, [], []⟩
abbrev s_Server_edit : Stmt := inClass (topS 127) 10
def d_Server_edit : He.DefD := ⟨("Server", some "edit"), "edit", "Server.edit", defArgs s_Server_edit, defBody s_Server_edit, defScope s_Server_edit, [], []⟩
abbrev s_Server_undo : Stmt := inClass (topS 127) 11
def d_Server_undo : He.DefD := ⟨("Server", some "undo"), "undo", "Server.undo", defArgs s_Server_undo, defBody s_Server_undo, defScope s_Server_undo, [], []⟩
abbrev s_Server_redo : Stmt := inClass (topS 127) 12
def d_Server_redo : He.DefD := ⟨("Server", some "redo"), "redo", "Server.redo", defArgs s_Server_redo, defBody s_Server_redo, defScope s_Server_redo, [], []⟩
abbrev s__law_tape : Stmt := topS 129
def d__law_tape : He.DefD := ⟨("_law_tape", none), "_law_tape", "_law_tape", defArgs s__law_tape, defBody s__law_tape, defScope s__law_tape, [], []⟩
abbrev s__law_take : Stmt := topS 130
def d__law_take : He.DefD := ⟨("_law_take", none), "_law_take", "_law_take", defArgs s__law_take, defBody s__law_take, defScope s__law_take, [], []⟩
abbrev s__law_is_integer : Stmt := topS 131
def d__law_is_integer : He.DefD := ⟨("_law_is_integer", none), "_law_is_integer", "_law_is_integer", defArgs s__law_is_integer, defBody s__law_is_integer, defScope s__law_is_integer, [], []⟩
abbrev s__law_same_items : Stmt := topS 132
def d__law_same_items : He.DefD := ⟨("_law_same_items", none), "_law_same_items", "_law_same_items", defArgs s__law_same_items, defBody s__law_same_items, defScope s__law_same_items, [], []⟩
abbrev s__law_same : Stmt := topS 133
def d__law_same : He.DefD := ⟨("_law_same", none), "_law_same", "_law_same", defArgs s__law_same, defBody s__law_same, defScope s__law_same, [], []⟩
abbrev s__law_snippet : Stmt := topS 134
def d__law_snippet : He.DefD := ⟨("_law_snippet", none), "_law_snippet", "_law_snippet", defArgs s__law_snippet, defBody s__law_snippet, defScope s__law_snippet, [], []⟩
abbrev s__law_edit_of : Stmt := topS 135
def d__law_edit_of : He.DefD := ⟨("_law_edit_of", none), "_law_edit_of", "_law_edit_of", defArgs s__law_edit_of, defBody s__law_edit_of, defScope s__law_edit_of, [], []⟩
abbrev s__law_do : Stmt := topS 136
def d__law_do : He.DefD := ⟨("_law_do", none), "_law_do", "_law_do", defArgs s__law_do, defBody s__law_do, defScope s__law_do, [], []⟩
abbrev s__law_expected : Stmt := topS 137
def d__law_expected : He.DefD := ⟨("_law_expected", none), "_law_expected", "_law_expected", defArgs s__law_expected, defBody s__law_expected, defScope s__law_expected, [], []⟩
abbrev s__law_act : Stmt := topS 138
def d__law_act : He.DefD := ⟨("_law_act", none), "_law_act", "_law_act", defArgs s__law_act, defBody s__law_act, defScope s__law_act, [], []⟩
abbrev s_law : Stmt := topS 139
def d_law : He.DefD := ⟨("law", none), "law", "law", defArgs s_law, defBody s_law, defScope s_law, [], []⟩
def fn : List He.DefD := [d_has_right_characters, d_is_text, d_apply_edit, d_inverse, d_run_end, d_token_at, d_tokens_between, d_tokens, d_is_name, d_Keeper___init__, d_Keeper_put, d_Keeper_computed, d_compute, d_new_keeper, d_need_module, d_Server___init__, d_Server_modules, d_Server_program, d_Server_need_file, d_Server_forget_steps, d_Server_open_file, d_Server_set_text, d_Server_do_step, d_Server_edit, d_Server_undo, d_Server_redo, d__law_tape, d__law_take, d__law_is_integer, d__law_same_items, d__law_same, d__law_snippet, d__law_edit_of, d__law_do, d__law_expected, d__law_act, d_law]
def q_0 : Frag → Bool := DL.fCls "Entry"
def q_1 : Frag → Bool := DL.fNos "Entry" ["value", "used", "checked", "changed"]
def q_2 : Frag → Bool := DL.fCls "Keeper"
def q_3 : Frag → Bool := DL.fNos "Keeper" ["_compute", "_inputs", "_entries", "_revision", "_left", "_going", "_asked", "_done"]
def q_4 : Frag → Bool := DL.fCls "Server"
def q_5 : Frag → Bool := DL.fNos "Server" ["_texts", "_keeper", "_done", "_undone"]
def q_6 : Frag → Bool := DL.fGlo "has_right_characters"
def q_7 : Frag → Bool := DL.fGlo "is_text"
def q_8 : Frag → Bool := DL.fGlo "apply_edit"
def q_9 : Frag → Bool := DL.fGlo "inverse"
def q_10 : Frag → Bool := DL.fGlo "run_end"
def q_11 : Frag → Bool := DL.fGlo "token_at"
def q_12 : Frag → Bool := DL.fGlo "tokens_between"
def q_13 : Frag → Bool := DL.fGlo "tokens"
def q_14 : Frag → Bool := DL.fGlo "is_name"
def q_15 : Frag → Bool := DL.fMeth "Keeper" "__init__"
def q_16 : Frag → Bool := DL.fMeth "Keeper" "put"
def q_17 : Frag → Bool := DL.fMeth "Keeper" "computed"
def q_18 : Frag → Bool := DL.fGlo "compute"
def q_19 : Frag → Bool := DL.fGlo "new_keeper"
def q_20 : Frag → Bool := DL.fGlo "need_module"
def q_21 : Frag → Bool := DL.fMeth "Server" "__init__"
def q_22 : Frag → Bool := DL.fMeth "Server" "modules"
def q_23 : Frag → Bool := DL.fMeth "Server" "program"
def q_24 : Frag → Bool := DL.fMeth "Server" "need_file"
def q_25 : Frag → Bool := DL.fMeth "Server" "forget_steps"
def q_26 : Frag → Bool := DL.fMeth "Server" "open_file"
def q_27 : Frag → Bool := DL.fMeth "Server" "set_text"
def q_28 : Frag → Bool := DL.fMeth "Server" "do_step"
def q_29 : Frag → Bool := DL.fMeth "Server" "edit"
def q_30 : Frag → Bool := DL.fMeth "Server" "undo"
def q_31 : Frag → Bool := DL.fMeth "Server" "redo"
def q_32 : Frag → Bool := DL.fGlo "_law_tape"
def q_33 : Frag → Bool := DL.fGlo "_law_take"
def q_34 : Frag → Bool := DL.fGlo "_law_is_integer"
def q_35 : Frag → Bool := DL.fGlo "_law_same_items"
def q_36 : Frag → Bool := DL.fGlo "_law_same"
def q_37 : Frag → Bool := DL.fGlo "_law_snippet"
def q_38 : Frag → Bool := DL.fGlo "_law_edit_of"
def q_39 : Frag → Bool := DL.fGlo "_law_do"
def q_40 : Frag → Bool := DL.fGlo "_law_expected"
def q_41 : Frag → Bool := DL.fGlo "_law_act"
def q_42 : Frag → Bool := DL.fGlo "law"
def q_43 : Frag → Bool := DL.fFree "abs"
def q_44 : Frag → Bool := DL.fFree "bool"
def q_45 : Frag → Bool := DL.fFree "dict"
def q_46 : Frag → Bool := DL.fFree "int"
def q_47 : Frag → Bool := DL.fFree "isinstance"
def q_48 : Frag → Bool := DL.fFree "len"
def q_49 : Frag → Bool := DL.fFree "list"
def q_50 : Frag → Bool := DL.fFree "min"
def q_51 : Frag → Bool := DL.fFree "range"
def q_52 : Frag → Bool := DL.fFree "sorted"
def q_53 : Frag → Bool := DL.fFree "str"
def q_54 : Frag → Bool := DL.fFree "tuple"
def q_55 : Frag → Bool := fun K => (He.Fa.int "MOST" 4000).ok K
def q_56 : Frag → Bool := fun K => (He.Fa.str "CHARACTERS" " !\"#$&'()*+,-./0123456789:;<=>?@ABCDEFGHIJKLMNOPQRSTUVWXYZ[\\]^_`abcdefghijklmnopqrstuvwxyz{|}~\n").ok K
def q_57 : Frag → Bool := fun K => (He.Fa.str "LETTERS" "abcdefghijklmnopqrstuvwxyzABCDEFGHIJKLMNOPQRSTUVWXYZ").ok K
def q_58 : Frag → Bool := fun K => (He.Fa.str "DIGITS" "0123456789").ok K
def q_59 : Frag → Bool := fun K => (He.Fa.str "NAME_CHARACTERS" "abcdefghijklmnopqrstuvwxyzABCDEFGHIJKLMNOPQRSTUVWXYZ0123456789_").ok K
def q_60 : Frag → Bool := fun K => (He.Fa.str "SIGNS" "()[],:.=<+-*/").ok K
def q_61 : Frag → Bool := fun K => (He.Fa.int "MOST_MODULES" 6).ok K
def q_62 : Frag → Bool := DL.fExcX "ServerError" [.type "ValueError", .type "Exception", .type "BaseException", .type "object"] "ValueError.__new__"
def q_63 : Frag → Bool := DL.fExcX "InvalidEdit" [.type "ValueError", .type "Exception", .type "BaseException", .type "object"] "ValueError.__new__"
def q_64 : Frag → Bool := DL.fExcX "UnknownFile" [.type "ValueError", .type "Exception", .type "BaseException", .type "object"] "ValueError.__new__"
def q_65 : Frag → Bool := DL.fExcX "FileExists" [.type "ValueError", .type "Exception", .type "BaseException", .type "object"] "ValueError.__new__"
def q_66 : Frag → Bool := DL.fExcX "NothingToUndo" [.type "ValueError", .type "Exception", .type "BaseException", .type "object"] "ValueError.__new__"
def q_67 : Frag → Bool := DL.fSub "InvalidEdit" "InvalidEdit" true
def q_68 : Frag → Bool := DL.fSub "UnknownFile" "UnknownFile" true
def q_69 : Frag → Bool := DL.fSub "NothingToUndo" "NothingToUndo" true
def q_70 : Frag → Bool := DL.fSub "NothingToUndo" "ServerError" true
def q_71 : Frag → Bool := DL.fIsc "NothingToUndo"
def q_72 : Frag → Bool := DL.fSub "InvalidEdit" "NothingToUndo" false
def q_73 : Frag → Bool := DL.fSub "UnknownFile" "NothingToUndo" false
def q_74 : Frag → Bool := DL.fSub "UnknownFile" "InvalidEdit" false
def q_75 : Frag → Bool := DL.fTup "WORDS" ["import", "data", "trait", "with", "impl", "for", "def", "let", "in", "if", "then", "else", "loop", "times", "do", "not", "and", "or", "True", "False"]
def fs : List (Frag → Bool) := [q_0, q_1, q_2, q_3, q_4, q_5, q_6, q_7, q_8, q_9, q_10, q_11, q_12, q_13, q_14, q_15, q_16, q_17, q_18, q_19, q_20, q_21, q_22, q_23, q_24, q_25, q_26, q_27, q_28, q_29, q_30, q_31, q_32, q_33, q_34, q_35, q_36, q_37, q_38, q_39, q_40, q_41, q_42, q_43, q_44, q_45, q_46, q_47, q_48, q_49, q_50, q_51, q_52, q_53, q_54, q_55, q_56, q_57, q_58, q_59, q_60, q_61, q_62, q_63, q_64, q_65, q_66, q_67, q_68, q_69, q_70, q_71, q_72, q_73, q_74, q_75]
def ds : List (PySem.Str × List PySem.Str) := []
def roots0 : List PySem.Str := ["has_right_characters", "is_text", "apply_edit", "inverse", "run_end", "token_at", "tokens_between", "tokens", "is_name", "compute", "new_keeper", "need_module", "_law_tape", "_law_take", "_law_is_integer", "_law_same_items", "_law_same", "_law_snippet", "_law_edit_of", "_law_do"]
def roots1 : List PySem.Str := ["_law_expected", "_law_act", "law", "Entry", "Keeper", "Server", "ServerError", "InvalidEdit", "UnknownFile", "FileExists", "NothingToUndo", "WORDS"]
def roots : List PySem.Str := roots0 ++ roots1
def names0 : List PySem.Str := ["_wall", "__name__", "chunks", "ServerError", "InvalidEdit", "UnknownFile", "FileExists", "NothingToUndo", "Cancelled", "CyclicKey", "SyntaxProblem", "MOST", "CHARACTERS", "has_right_characters", "is_text", "apply_edit", "inverse", "LETTERS", "DIGITS", "NAME_CHARACTERS"]
def names1 : List PySem.Str := ["SIGNS", "WORDS", "run_end", "token_at", "tokens_between", "tokens", "is_name", "number_value", "MOST_TOKENS", "MOST_DEPTH", "LEVELS", "SUMS", "PRODUCTS", "Reader", "read_import", "read_data", "read_trait", "read_impl", "read_bounds", "read_def"]
def names2 : List PySem.Str := ["ITEM_READERS", "read_item", "compute_chunks", "compute_chunk_count", "compute_chunk_text", "compute_item", "item_at", "introduced", "sorts_of", "compute_marks", "compute_declared", "is_doubled", "is_void", "home_of", "compute_scope", "INSIDE", "children", "nodes", "value_of_item", "INT"]
def names3 : List PySem.Str := ["BOOL", "UNKNOWN", "Kinds", "BUILTINS", "CALLED", "Namer", "inner_scopes", "nodes_inside", "method_locals", "compute_names", "bound_kind", "bounds_of", "bounds_by_name", "kind_named", "compute_shape", "bound_traits", "target_of", "compute_impls", "compute_impl_head", "compute_word"]
def names4 : List PySem.Str := ["kind_of_target", "has_body", "ARITHMETIC", "BAD_NAMES", "Judge", "trait_of", "has_trait", "body_locals", "doubled_impl", "compute_judged", "compute_result", "compute_calls", "all_bodies", "reaches_itself", "compute_cycles", "compute_below", "Entry", "Keeper", "start_of_chunk", "compute_module_problems"]
def names5 : List PySem.Str := ["compute_module_occurrences", "compute_uses", "RULES", "compute", "new_keeper", "symbol_at", "uses", "uses_questions", "MOST_MODULES", "need_module", "Server", "_law_tape", "_law_take", "_law_is_integer", "_law_same_items", "_law_same", "_law_snippet", "_law_edit_of", "_law_do", "_law_expected"]
def names6 : List PySem.Str := ["_law_act"]
def names : List PySem.Str := names0 ++ names1 ++ names2 ++ names3 ++ names4 ++ names5 ++ names6
abbrev R : OpenRow := OpenLaw.row PySem.Challenge.rw_samenames_k29_undo_and_redo
def qv : Program := view R.prog [139]
abbrev hk : PySem.W.Hook := DL.hkH roots fs fn ds
def ob (s : SharedT) : DL.HdA := DL.obT roots fs fn ds s
theorem ob_eq (s : SharedT) : ob s = hk.obs s.abs := DL.obT_eq s
set_option maxHeartbeats 0 in
theorem runl_false : ∀ w : World, DL.RunP R 20000 (fun w s => HandSHeadRun.looksF R.prog (boot_heap w.params) s.abs) (fun _ => true) (w.withFollow "special-get-raises" false) := by
  intro w os
  kernel_rfl
set_option maxHeartbeats 0 in
theorem runl_true : ∀ w : World, DL.RunP R 20000 (fun w s => HandSHeadRun.looksF R.prog (boot_heap w.params) s.abs) (fun _ => true) (w.withFollow "special-get-raises" true) := by
  intro w os
  kernel_rfl
set_option maxHeartbeats 0 in
theorem runs_false : ∀ w : World, DL.RunP R 20000 (fun _ s => HandSHeadRun.seenQ qv names (importedModules R.prog.main.body) (fun s => xlAt qv [] s && recOk R.toRowW.records s) s.abs) (fun _ => openGood qv names) (w.withFollow "special-get-raises" false) := by
  intro w os
  kernel_rfl
set_option maxHeartbeats 0 in
theorem runs_true : ∀ w : World, DL.RunP R 20000 (fun _ s => HandSHeadRun.seenQ qv names (importedModules R.prog.main.body) (fun s => xlAt qv [] s && recOk R.toRowW.records s) s.abs) (fun _ => openGood qv names) (w.withFollow "special-get-raises" true) := by
  intro w os
  kernel_rfl
set_option maxHeartbeats 0 in
theorem runo_false : ∀ w : World, DL.RunP R 20000 (fun _ s => ob s) (fun w => hk.val w) (w.withFollow "special-get-raises" false) := by
  intro w os
  kernel_rfl
set_option maxHeartbeats 0 in
theorem runo_true : ∀ w : World, DL.RunP R 20000 (fun _ s => ob s) (fun w => hk.val w) (w.withFollow "special-get-raises" true) := by
  intro w os
  kernel_rfl
theorem run (w : World) : HandSHeadRun.RunEq R qv hk ob 20000 names w := byRow2 "special-get-raises" (P := fun w => HandSHeadRun.RunEq R qv hk ob 20000 names w) (fun w => DL.run_of (runl_false w) (runs_false w) (runo_false w)) (fun w => DL.run_of (runl_true w) (runs_true w) (runo_true w)) w
set_option maxHeartbeats 0 in
theorem top (hc : WalkO qv names (XL qv []) hk.says R.toRowW (HandSHeadRun.topDef R.prog 139) [] fun f vs => PySem.call f vs) : PySem.Challenge.rw_samenames_k29_undo_and_redo.Holds := by
  w_on; o_law
  refine HandSHeadRun.head_any (r := R) (q := qv) (H := hk) (ob := ob) (M := 20000) (loose := names) (d := HandSHeadRun.topDef R.prog 139) (kwd := []) ob_eq
    (by kernel_rfl) (fun s => by kernel_rfl) run (by kernel_rfl) (by kernel_rfl) (by kernel_rfl) (by rfl) (by first | assumption | decide +kernel) (by decide +kernel) ⟨rfl, rfl, rfl, rfl, rfl, by decide +kernel⟩ ?hw hc
  case hw => w_witness2
end
end MyH

set_option Elab.async false
set_option linter.all false
set_option maxRecDepth 100000
namespace DL
open PySem PySem.Spec PyProof.Rows L2

/-! ### deep data at values -/
def kD : Key → PyData
  | .inl i => .int i
  | .inr s => .str s
/-- a dict keyed by whole numbers and texts, as data -/
def dicP (ps : List (Key × PyData)) : List (PyData × PyData) := ps.map fun p => (kD p.1, p.2)
def dicD (ps : List (Key × PyData)) : PyData := .dict (dicP ps)
mutual
inductive Rp (K : PySem.W.Frag) (G : Hp) : V → PyData → Prop
  | non : Rp K G .non .none
  | bl (b : Bool) : Rp K G (.bl b) (.bool b)
  | int (i : Int) : Rp K G (.int i) (.int i)
  | str (x : Str) : Rp K G (.str x) (.str x)
  | lst {a : Addr} {xs : List V} {ds : List PyData} : G a = some (.lst xs) → RpAll K G xs ds → Rp K G (.ref a) (.list ds)
  | tup {a : Addr} {xs : List V} {ds : List PyData} : SqT K G a xs → RpAll K G xs ds → Rp K G (.ref a) (.tuple ds)
  | dic {a : Addr} {od : Obj} {kvs : List (Key × V)} {ps : List (Key × PyData)} {x : List (PyData × PyData)} : G a = some (.frz od (.dK kvs)) → kvs.map Prod.fst = ps.map Prod.fst → RpAll K G (kvs.map Prod.snd) (ps.map Prod.snd) → x = dicP ps → Rp K G (.ref a) (.dict x)
inductive RpAll (K : PySem.W.Frag) (G : Hp) : List V → List PyData → Prop
  | nil : RpAll K G [] []
  | cons {v : V} {vs : List V} {d : PyData} {ds : List PyData} : Rp K G v d → RpAll K G vs ds → RpAll K G (v :: vs) (d :: ds)
end

/-- H' has all that H has -/
def Sub (H H' : Hp) : Prop := ∀ a x, H a = some x → H' a = some x
theorem Sub.refl {H : Hp} : Sub H H := fun _ _ h => h
theorem Sub.trans {A B C : Hp} (h : Sub A B) (k : Sub B C) : Sub A C := fun a x e => k a x (h a x e)
theorem Sub.upd {H : Hp} {p : Addr} {o : HO} (h : H p = none) : Sub H (upd H p o) := fun b x e => by
  rw [upd_ne (ne_of_none e h)]; exact e
theorem Rd.sub {H H' : Hp} (s : Sub H H') {a : Addr} {u : HO} (h : Rd H a u) : Rd H' a u := by
  rcases h with h | ⟨o, h⟩
  · exact .inl (s _ _ h)
  · exact .inr ⟨o, s _ _ h⟩
theorem SqT.sub {K : PySem.W.Frag} {H H' : Hp} (s : Sub H H') {a : Addr} {xs : List V} (h : SqT K H a xs) : SqT K H' a xs := by
  rcases h with h | h
  · exact .inl (Rd.sub s h)
  · exact .inr h
theorem SqL.sub {K : PySem.W.Frag} {H H' : Hp} (s : Sub H H') {a : Addr} {xs : List V} (h : SqL K H a xs) : SqL K H' a xs := by
  rcases h with h | h
  · exact .inl (Rd.sub s h)
  · exact .inr h
section
variable {K : PySem.W.Frag} {G G' : Hp}
mutual
theorem Rp.sub (s : Sub G G') : ∀ {v : V} {d : PyData}, Rp K G v d → Rp K G' v d
  | _, _, .non => .non
  | _, _, .bl b => .bl b
  | _, _, .int b => .int b
  | _, _, .str b => .str b
  | _, _, .lst h t => .lst (s _ _ h) (RpAll.sub s t)
  | _, _, .tup h t => .tup (SqT.sub s h) (RpAll.sub s t)
  | _, _, .dic h k t e => .dic (s _ _ h) k (RpAll.sub s t) e
theorem RpAll.sub (s : Sub G G') : ∀ {v : List V} {d : List PyData}, RpAll K G v d → RpAll K G' v d
  | _, _, .nil => .nil
  | _, _, .cons h t => .cons (Rp.sub s h) (RpAll.sub s t)
end
mutual
theorem Rp.dp : ∀ {v : V} {d : PyData}, Rp K G v d → d.canLay0 = true → Dp K G v d
  | _, _, .non, _ => .non
  | _, _, .bl b, _ => .bl b
  | _, _, .int b, _ => .int b
  | _, _, .str b, _ => .str b
  | _, _, .lst h t, c => .lst (.inl (.inl h)) (RpAll.dp t (by simpa [PyData.canLay0] using c))
  | _, _, .tup h t, c => .tup h (RpAll.dp t (by simpa [PyData.canLay0] using c))
  | _, _, .dic _ _ _ _, c => by simp [PyData.canLay0] at c
theorem RpAll.dp : ∀ {v : List V} {d : List PyData}, RpAll K G v d → PyData.canLayAll0 d = true → DpAll K G v d
  | _, _, .nil, _ => .nil
  | _, _, .cons h t, c => by
    simp only [PyData.canLayAll0, Bool.and_eq_true] at c
    exact .cons (Rp.dp h c.1) (RpAll.dp t c.2)
end
theorem RpAll.len : ∀ {v : List V} {d : List PyData}, RpAll K G v d → v.length = d.length
  | _, _, .nil => rfl
  | _, _, .cons _ t => congrArg (· + 1) (RpAll.len t)
theorem RpAll.get : ∀ {v : List V} {d : List PyData} {i : Nat} {x : V}, RpAll K G v d → v[i]? = some x → ∃ y, d[i]? = some y ∧ Rp K G x y
  | _, _, _, _, .nil, e => by simp at e
  | _, _, 0, _, .cons r _, e => by simp at e; subst e; exact ⟨_, rfl, r⟩
  | _, _, i + 1, x, .cons _ t, e => by
    obtain ⟨u, h1, h2⟩ := RpAll.get (i := i) (x := x) t (by simpa using e)
    exact ⟨u, by simpa using h1, h2⟩
theorem RpAll.get' : ∀ {v : List V} {d : List PyData} {i : Nat} {y : PyData}, RpAll K G v d → d[i]? = some y → ∃ x, v[i]? = some x ∧ Rp K G x y
  | _, _, _, _, .nil, e => by simp at e
  | _, _, 0, _, .cons r _, e => by simp at e; subst e; exact ⟨_, rfl, r⟩
  | _, _, i + 1, x, .cons _ t, e => by
    obtain ⟨u, h1, h2⟩ := RpAll.get' (i := i) (y := x) t (by simpa using e)
    exact ⟨u, by simpa using h1, h2⟩
theorem RpAll.append : ∀ {v w : List V} {d e : List PyData}, RpAll K G v d → RpAll K G w e → RpAll K G (v ++ w) (d ++ e)
  | _, _, _, _, .nil, s => s
  | _, _, _, _, .cons r t, s => .cons r (RpAll.append t s)
theorem RpAll.take : ∀ {v : List V} {d : List PyData} (n : Nat), RpAll K G v d → RpAll K G (v.take n) (d.take n)
  | _, _, 0, _ => .nil
  | _, _, _ + 1, .nil => .nil
  | _, _, n + 1, .cons r t => .cons r (RpAll.take n t)
theorem RpAll.drop : ∀ {v : List V} {d : List PyData} (n : Nat), RpAll K G v d → RpAll K G (v.drop n) (d.drop n)
  | _, _, 0, r => r
  | _, _, _ + 1, .nil => .nil
  | _, _, n + 1, .cons _ t => RpAll.drop n t
theorem RpAll.set {x : V} {u : PyData} (r : Rp K G x u) : ∀ {xs : List V} {us : List PyData} (i : Nat), RpAll K G xs us → RpAll K G (xs.set i x) (us.set i u)
  | _, _, _, .nil => .nil
  | _, _, 0, .cons _ t => .cons r t
  | _, _, i + 1, .cons q t => .cons q (RpAll.set r i t)
theorem RpAll.strs : ∀ {ns : List Str}, RpAll K G (ns.map V.str) (ns.map PyData.str)
  | [] => .nil
  | _ :: _ => .cons (.str _) RpAll.strs
theorem RpAll.of_strs : ∀ {ns : List Str} {v : List V}, RpAll K G v (ns.map PyData.str) → v = ns.map V.str
  | [], _, .nil => rfl
  | _ :: _, _, .cons h t => by cases h; rw [RpAll.of_strs t]; rfl
end

/-! ### owned contents, slots, objects -/
/-- what an owned thing of a name holds -/
inductive Cont where
  | lst (ds : List PyData)
  | dic (kvs : List (Key × PyData))
def COk (K : PySem.W.Frag) (G : Hp) : HO → Cont → Prop
  | .lst xs, .lst ds => RpAll K G xs ds
  | .dK kvs, .dic ps => Paired (fun (p : Key × V) (q : Key × PyData) => p.1 = q.1 ∧ Rp K G p.2 q.2) kvs ps
  | _, _ => False
theorem COk.sub {K : PySem.W.Frag} {G G' : Hp} (s : Sub G G') : ∀ {h : HO} {c : Cont}, COk K G h c → COk K G' h c := fun {h c} x => by
  cases c with
  | lst ds => cases h <;> first | exact RpAll.sub s x | exact x.elim
  | dic ps => cases h <;> first | exact Paired.mapP x (fun a b z => ⟨z.1, Rp.sub s z.2⟩) | exact x.elim
/-- what a name is known to hold -/
inductive Sl where
  | no
  | val (d : PyData)
  | raw (v : V)
  | own (c : Cont)
/-- objects that others may change: their footprint, what holds of them -/
structure Ob where
  fp : Addr → Prop
  ok : Hp → Hp → Prop
  st : ∀ G H G' H', ok G H → Sub G G' → (∀ a, fp a → H' a = H a) → ok G' H'
def Ob.emp : Ob := ⟨fun _ => False, fun _ _ => True, fun _ _ _ _ _ _ _ => trivial⟩

def SlOk (K : PySem.W.Frag) (G H : Hp) (ov : Option V) : Sl → Prop
  | .no => True
  | .val d => ∃ v, ov = some v ∧ Rp K G v d
  | .raw u => ov = some u
  | .own c => ∃ p h, ov = some (.ref p) ∧ G p = none ∧ H p = some h ∧ COk K G h c
def OwnAt (ρ : List Sl) (σ : L2.St) (i : Nat) (p : Addr) : Prop := (∃ c, ρ[i]? = some (.own c)) ∧ σ[i]? = some (some (.ref p))
def Own (ρ : List Sl) (σ : L2.St) (p : Addr) : Prop := ∃ i, OwnAt ρ σ i p

/-- no tuple -/
def NT : HO → Prop
  | .tup _ => False
  | _ => True
theorem COk.nt {K : PySem.W.Frag} {G : Hp} {h : HO} {c : Cont} (x : COk K G h c) : NT h := by
  cases h <;> first | trivial | (cases c <;> exact x.elim)
structure Wd (o : Ob) (G H : Hp) : Prop where
  sub : Sub G H
  nfp : ∀ a, o.fp a → G a = none
  occ : ∀ a, o.fp a → ∃ x, H a = some x ∧ NT x
  ok : o.ok G H
structure EnB (K : PySem.W.Frag) (o : Ob) (ρ : List Sl) (G : Hp) (σ : L2.St) (H : Hp) : Prop where
  wd : Wd o G H
  len : σ.length = ρ.length
  sl : ∀ (i : Nat) (s : Sl), ρ[i]? = some s → ∃ ov, σ[i]? = some ov ∧ SlOk K G H ov s
  dis : ∀ (i j : Nat) (p : Addr), OwnAt ρ σ i p → OwnAt ρ σ j p → i = j
  onf : ∀ p, Own ρ σ p → ¬ o.fp p

/-- what a piece of the run keeps -/
structure Stp (ρ : List Sl) (σ : L2.St) (o : Ob) (G H : Hp) (ρ' : List Sl) (σ' : L2.St) (o' : Ob) (G' H' : Hp) : Prop where
  g : Sub G G'
  h : ∀ a x, H a = some x → ¬ o.fp a → ¬ Own ρ σ a → H' a = some x
  n : ∀ a, G a = none → (∃ x, H a = some x ∧ NT x) → ¬ o.fp a → ¬ Own ρ σ a → G' a = none
  f : ∀ a, o'.fp a → o.fp a ∨ H a = none ∨ Own ρ σ a
  w : ∀ a, Own ρ' σ' a → Own ρ σ a ∨ H a = none ∨ o.fp a
theorem Stp.refl {ρ : List Sl} {σ : L2.St} {o : Ob} {G H : Hp} : Stp ρ σ o G H ρ σ o G H :=
  ⟨Sub.refl, fun _ _ e _ _ => e, fun _ e _ _ _ => e, fun _ e => .inl e, fun _ e => .inl e⟩
section
variable {K : PySem.W.Frag} {ρ ρ' ρ'' : List Sl} {σ σ' σ'' : L2.St} {o o' o'' : Ob} {G H G' H' G'' H'' : Hp}
theorem Stp.trans (a : Stp ρ σ o G H ρ' σ' o' G' H') (b : Stp ρ' σ' o' G' H' ρ'' σ'' o'' G'' H'') : Stp ρ σ o G H ρ'' σ'' o'' G'' H'' := by
  have nf : ∀ c x, H c = some x → ¬ o.fp c → ¬ Own ρ σ c → ¬ o'.fp c := fun c x e h1 h2 z => by
    rcases a.f c z with q | q | q
    · exact h1 q
    · rw [q] at e; cases e
    · exact h2 q
  have nw : ∀ c x, H c = some x → ¬ o.fp c → ¬ Own ρ σ c → ¬ Own ρ' σ' c := fun c x e h1 h2 z => by
    rcases a.w c z with q | q | q
    · exact h2 q
    · rw [q] at e; cases e
    · exact h1 q
  refine ⟨a.g.trans b.g, fun c x e h1 h2 => b.h c x (a.h c x e h1 h2) (nf c x e h1 h2) (nw c x e h1 h2), fun c e ⟨x, ex, nt⟩ h1 h2 => ?_, fun c z => ?_, fun c z => ?_⟩
  · exact b.n c (a.n c e ⟨x, ex, nt⟩ h1 h2) ⟨x, a.h c x ex h1 h2, nt⟩ (nf c x ex h1 h2) (nw c x ex h1 h2)
  · by_cases h1 : o.fp c
    · exact .inl h1
    by_cases h2 : Own ρ σ c
    · exact .inr (.inr h2)
    refine .inr (.inl ?_)
    cases q : H c with
    | none => rfl
    | some x =>
      have hx := a.h c x q h1 h2
      rcases b.f c z with r | r | r
      · exact absurd r (nf c x q h1 h2)
      · rw [r] at hx; cases hx
      · exact absurd r (nw c x q h1 h2)
  · by_cases h1 : o.fp c
    · exact .inr (.inr h1)
    by_cases h2 : Own ρ σ c
    · exact .inl h2
    refine .inr (.inl ?_)
    cases q : H c with
    | none => rfl
    | some x =>
      have hx := a.h c x q h1 h2
      rcases b.w c z with r | r | r
      · exact absurd r (nw c x q h1 h2)
      · rw [r] at hx; cases hx
      · exact absurd r (nf c x q h1 h2)
end

abbrev RE := List Sl → Ob → Prop
/-- an exception: its class, its attributes -/
abbrev Ex := Value × Option (List (Str × PyData))
def EOk (K : PySem.W.Frag) (G H : Hp) : Option Addr → Option (List (Str × PyData)) → Prop
  | none, none => True
  | some d, some fs => ∃ vs : List (Str × V), G d = some (.xd vs) ∧ vs.map (·.1) = fs.map (·.1) ∧ RpAll K G (vs.map (·.2)) (fs.map (·.2))
  | _, _ => False
/-- the written part; the wish of the machine about what is raised; what is known of it -/
structure Kx where
  K : PySem.W.Frag
  W : WX
  Z : Ex → RE
instance : CoeOut Kx PySem.W.Frag := ⟨fun k => k.K⟩
def WOk (K : Kx) (o : Ob) (ρ : List Sl) (G : Hp) (σ : L2.St) (H : Hp) : Prop :=
  ∀ cls fs d ρ' o' G' σ' H', K.Z (cls, fs) ρ' o' → Stp ρ σ o G H ρ' σ' o' G' H' → EnB K o' ρ' G' σ' H' → EOk K G' H' d fs → K.W cls d σ' H'
theorem WOk.step {K : Kx} {ρ ρ' : List Sl} {σ σ' : L2.St} {o o' : Ob} {G H G' H' : Hp} (w : WOk K o ρ G σ H) (s : Stp ρ σ o G H ρ' σ' o' G' H') : WOk K o' ρ' G' σ' H' :=
  fun cls fs d ρ'' o'' G'' σ'' H'' z s' e => w cls fs d ρ'' o'' G'' σ'' H'' z (s.trans s') e
structure En (K : Kx) (o : Ob) (ρ : List Sl) (G : Hp) (σ : L2.St) (H : Hp) : Prop extends EnB K o ρ G σ H where
  wo : WOk K o ρ G σ H

/-! ### values of expressions -/
inductive DV where
  | d (x : PyData)
  | raw (v : V)
  | sl (i : Nat) (c : Cont)
  | new (c : Cont)
def VOk (K : PySem.W.Frag) (o : Ob) (ρ : List Sl) (G : Hp) (σ : L2.St) (H : Hp) (v : V) : DV → Prop
  | .d x => Rp K G v x
  | .raw u => v = u
  | .sl i c => σ[i]? = some (some v) ∧ ρ[i]? = some (.own c)
  | .new c => ∃ p h, v = .ref p ∧ G p = none ∧ H p = some h ∧ COk K G h c ∧ ¬ o.fp p ∧ ¬ Own ρ σ p
/-- a value that is still the same in another environment -/
def Kept (ρ : List Sl) : DV → Prop
  | .sl i c => ρ[i]? = some (.own c)
  | _ => True
section
variable {K : PySem.W.Frag} {ρ ρ' ρ'' : List Sl} {σ σ' σ'' : L2.St} {o o' o'' : Ob} {G H G' H' G'' H'' : Hp}
theorem VOk.step {v : V} {dv : DV} (x : VOk K o ρ G σ H v dv) (s : Stp ρ σ o G H ρ' σ o' G' H') (k : Kept ρ' dv) : VOk K o' ρ' G' σ H' v dv := by
  cases dv with
  | d x' => exact Rp.sub s.g x
  | raw u => exact x
  | sl i c => exact ⟨x.1, k⟩
  | new c =>
    obtain ⟨p, h, rfl, e1, e2, ok, h1, h2⟩ := x
    refine ⟨p, h, rfl, s.n p e1 ⟨_, e2, ok.nt⟩ h1 h2, s.h p _ e2 h1 h2, ok.sub s.g, fun z => ?_, fun z => ?_⟩
    · rcases s.f p z with r | r | r
      · exact h1 r
      · rw [r] at e2; cases e2
      · exact h2 r
    · rcases s.w p z with r | r | r
      · exact h2 r
      · rw [r] at e2; cases e2
      · exact h1 r
end

/-- a fresh thing was not there at the start -/
def VFr (ρ : List Sl) (σ : L2.St) (o : Ob) (H : Hp) (v : V) : DV → Prop
  | .new _ => ∀ p, v = .ref p → H p = none ∨ o.fp p ∨ Own ρ σ p
  | _ => True
section
variable {K : PySem.W.Frag} {ρ ρ' ρ'' : List Sl} {σ σ' σ'' : L2.St} {o o' o'' : Ob} {G H G' H' G'' H'' : Hp}
theorem Stp.old (a : Stp ρ σ o G H ρ' σ' o' G' H') {p : Addr} (h : H' p = none ∨ o'.fp p ∨ Own ρ' σ' p) : H p = none ∨ o.fp p ∨ Own ρ σ p := by
  by_cases h1 : o.fp p
  · exact .inr (.inl h1)
  by_cases h2 : Own ρ σ p
  · exact .inr (.inr h2)
  refine .inl ?_
  cases q : H p with
  | none => rfl
  | some x =>
    have hx := a.h p x q h1 h2
    rcases h with r | r | r
    · rw [r] at hx; cases hx
    · rcases a.f p r with z | z | z
      · exact absurd z h1
      · rw [z] at q; cases q
      · exact absurd z h2
    · rcases a.w p r with z | z | z
      · exact absurd z h2
      · rw [z] at q; cases q
      · exact absurd z h1
theorem VFr.back {v : V} {dv : DV} (a : Stp ρ σ o G H ρ' σ' o' G' H') (h : VFr ρ' σ' o' H' v dv) : VFr ρ σ o H v dv := by
  cases dv with
  | new c => exact fun p e => a.old (h p e)
  | _ => trivial
end
abbrev RD := DV → List Sl → Ob → Prop
/-- the end of an expression -/
def XQ (K : Kx) (ρ : List Sl) (o : Ob) (G : Hp) (σ : L2.St) (H : Hp) (R : RD) (Q : VK) : Prop :=
  ∀ v dv ρ' o' G' H', R dv ρ' o' → Stp ρ σ o G H ρ' σ o' G' H' → En K o' ρ' G' σ H' → VOk K o' ρ' G' σ H' v dv → VFr ρ σ o H v dv → Q v H'
/-- an expression, deeply -/
def XE (K : Kx) (te : TE) (ρ : List Sl) (o : Ob) (R : RD) : Prop :=
  ∀ G σ H, En K o ρ G σ H → ∀ Q : VK, XQ K ρ o G σ H R Q → te σ H Q
/-- a test -/
def XT (K : Kx) (tt : TT) (ρ : List Sl) (o : Ob) (R : Bool → RE) : Prop :=
  ∀ G σ H, En K o ρ G σ H → ∀ Q : Bool → Hp → Prop, (∀ b ρ' o' G' H', R b ρ' o' → Stp ρ σ o G H ρ' σ o' G' H' → En K o' ρ' G' σ H' → Q b H') → tt σ H Q
inductive VAll (K : PySem.W.Frag) (o : Ob) (ρ : List Sl) (G : Hp) (σ : L2.St) (H : Hp) : List V → List DV → Prop
  | nil : VAll K o ρ G σ H [] []
  | cons {v : V} {vs : List V} {d : DV} {ds : List DV} : VOk K o ρ G σ H v d → VAll K o ρ G σ H vs ds → VAll K o ρ G σ H (v :: vs) (d :: ds)
/-- arguments -/
def XA (K : Kx) (ta : TA) (ρ : List Sl) (o : Ob) (R : List DV → RE) : Prop :=
  ∀ G σ H, En K o ρ G σ H → ∀ Q : List V → Hp → Prop, (∀ vs dvs ρ' o' G' H', R dvs ρ' o' → Stp ρ σ o G H ρ' σ o' G' H' → En K o' ρ' G' σ H' → VAll K o' ρ' G' σ H' vs dvs → Q vs H') → ta σ H Q
/-- a statement -/
def XS (K : Kx) (ts : TS) (ρ : List Sl) (o : Ob) (N : RE) (R : RD) (B C : RE) : Prop :=
  ∀ G σ H, En K o ρ G σ H → ∀ D : Ends,
    (∀ ρ' o' G' σ' H', N ρ' o' → Stp ρ σ o G H ρ' σ' o' G' H' → En K o' ρ' G' σ' H' → D.nx σ' H') →
    (∀ v dv ρ' o' G' σ' H', R dv ρ' o' → Stp ρ σ o G H ρ' σ' o' G' H' → En K o' ρ' G' σ' H' → VOk K o' ρ' G' σ' H' v dv → VFr ρ σ o H v dv → D.rt v H') →
    (∀ ρ' o' G' σ' H', B ρ' o' → Stp ρ σ o G H ρ' σ' o' G' H' → En K o' ρ' G' σ' H' → D.bk σ' H') →
    (∀ ρ' o' G' σ' H', C ρ' o' → Stp ρ σ o G H ρ' σ' o' G' H' → En K o' ρ' G' σ' H' → D.ct σ' H') → ts D σ H
/-- a target -/
def XG (K : Kx) (tg : TG) (dv : DV) (ρ : List Sl) (o : Ob) (N : RE) : Prop :=
  ∀ G σ H v, En K o ρ G σ H → VOk K o ρ G σ H v dv → ∀ Q : L2.St → Hp → Prop,
    (∀ ρ' o' G' σ' H', N ρ' o' → Stp ρ σ o G H ρ' σ' o' G' H' → En K o' ρ' G' σ' H' → Q σ' H') → tg v σ H Q
def XGs (K : Kx) (tg : TGs) (dvs : List DV) (ρ : List Sl) (o : Ob) (N : RE) : Prop :=
  ∀ G σ H vs, En K o ρ G σ H → VAll K o ρ G σ H vs dvs → ∀ Q : L2.St → Hp → Prop,
    (∀ ρ' o' G' σ' H', N ρ' o' → Stp ρ σ o G H ρ' σ' o' G' H' → En K o' ρ' G' σ' H' → Q σ' H') → tg vs σ H Q
end DL

set_option Elab.async false
set_option linter.all false
set_option maxRecDepth 100000
namespace DL
open PySem PySem.Spec PyProof.Rows L2
section
variable {K : Kx} {ρ ρ' ρ'' : List Sl} {σ σ' σ'' : L2.St} {o o' o'' : Ob} {G H G' H' G'' H'' : Hp} {p : Addr} {x : HO}

/-! ### environments and steps -/
theorem SlOk.step {K : PySem.W.Frag} {ov : Option V} {s : Sl} (h : SlOk K G H ov s) (g : Sub G G') (k : ∀ q c, s = .own c → ov = some (.ref q) → G' q = none ∧ H' q = H q) : SlOk K G' H' ov s := by
  cases s with
  | no => trivial
  | val d => obtain ⟨v, e, r⟩ := h; exact ⟨v, e, Rp.sub g r⟩
  | raw u => exact h
  | own c =>
    obtain ⟨q, y, e, h1, h2, ok⟩ := h
    obtain ⟨k1, k2⟩ := k q c rfl e
    exact ⟨q, y, e, k1, k2.trans h2, ok.sub g⟩
theorem En.own_at (e : En K o ρ G σ H) {i : Nat} {c : Cont} (h : ρ[i]? = some (.own c)) : ∃ q y, σ[i]? = some (some (.ref q)) ∧ G q = none ∧ H q = some y ∧ COk K G y c ∧ ¬ o.fp q := by
  obtain ⟨ov, h1, h2⟩ := e.sl i _ h
  obtain ⟨q, y, rfl, g, hh, ok⟩ := h2
  exact ⟨q, y, h1, g, hh, ok, e.onf q ⟨i, ⟨c, h⟩, h1⟩⟩
theorem En.occ_own (e : En K o ρ G σ H) (h : Own ρ σ p) : G p = none ∧ ∃ y, H p = some y := by
  obtain ⟨i, ⟨c, hc⟩, hs⟩ := h
  obtain ⟨q, y, h1, h2, h3, _⟩ := e.own_at hc
  rw [hs] at h1
  cases h1
  exact ⟨h2, y, h3⟩
theorem En.own_nt (e : En K o ρ G σ H) (h : Own ρ σ p) {y : HO} (hy : H p = some y) : NT y := by
  obtain ⟨i, ⟨c, hc⟩, hs⟩ := h
  obtain ⟨q, z, h1, h2, h3, ok, _⟩ := e.own_at hc
  rw [hs] at h1
  cases h1
  rw [hy] at h3
  cases h3
  exact ok.nt
/-- the heap moves, the names stay -/
theorem En.step (e : En K o ρ G σ H) (s : Stp ρ σ o G H ρ σ o' G' H') (w : Wd o' G' H') (k : ∀ a, Own ρ σ a → G' a = none ∧ H' a = H a ∧ ¬ o'.fp a) : En K o' ρ G' σ H' where
  wo := e.wo.step s
  wd := w
  len := e.len
  sl := fun i s' h => by
    obtain ⟨ov, h1, h2⟩ := e.sl i s' h
    refine ⟨ov, h1, h2.step s.g fun q c hs hv => ?_⟩
    subst hs
    obtain ⟨a, b, _⟩ := k q ⟨i, ⟨c, h⟩, by rw [h1, hv]⟩
    exact ⟨a, b⟩
  dis := e.dis
  onf := fun a h => (k a h).2.2
theorem Wd.newF (e : Wd o G H) (hp : H p = none) : Wd o (upd G p x) (upd H p x) where
  sub := fun b y h => by
    by_cases hb : b = p
    · subst hb; rw [upd_same] at h ⊢; exact h
    · rw [upd_ne hb] at h ⊢; exact e.sub _ _ h
  nfp := fun a h => by
    obtain ⟨y, hy, nt⟩ := e.occ a h
    rw [upd_ne (ne_of_none hy hp)]; exact e.nfp a h
  occ := fun a h => by
    obtain ⟨y, hy, nt⟩ := e.occ a h
    exact ⟨y, by rw [upd_ne (ne_of_none hy hp)]; exact hy, nt⟩
  ok := by
    have gp : G p = none := by
      cases q : G p with
      | none => rfl
      | some y => have := e.sub _ _ q; rw [hp] at this; cases this
    exact o.st _ _ _ _ e.ok (Sub.upd gp) fun a h => by
      obtain ⟨y, hy, nt⟩ := e.occ a h
      exact upd_ne (ne_of_none hy hp)
theorem Wd.newO (e : Wd o G H) (hp : H p = none) : Wd o G (upd H p x) where
  sub := e.sub.trans (Sub.upd hp)
  nfp := e.nfp
  occ := fun a h => by
    obtain ⟨y, hy, nt⟩ := e.occ a h
    exact ⟨y, by rw [upd_ne (ne_of_none hy hp)]; exact hy, nt⟩
  ok := o.st _ _ _ _ e.ok Sub.refl fun a h => by
      obtain ⟨y, hy, nt⟩ := e.occ a h
      exact upd_ne (ne_of_none hy hp)
theorem Wd.gnone (e : Wd o G H) (hp : H p = none) : G p = none := by
  cases q : G p with
  | none => rfl
  | some y => have := e.sub _ _ q; rw [hp] at this; cases this
theorem Stp.newF (w : Wd o G H) (hp : H p = none) : Stp ρ σ o G H ρ σ o (upd G p x) (upd H p x) where
  g := Sub.upd (w.gnone hp)
  h := fun a y e _ _ => by rw [upd_ne (ne_of_none e hp)]; exact e
  n := fun a e ⟨y, hy, _⟩ _ _ => by rw [upd_ne (ne_of_none hy hp)]; exact e
  f := fun a e => .inl e
  w := fun a e => .inl e
theorem Stp.newO (hp : H p = none) : Stp ρ σ o G H ρ σ o G (upd H p x) where
  g := Sub.refl
  h := fun a y e _ _ => by rw [upd_ne (ne_of_none e hp)]; exact e
  n := fun a e _ _ _ => e
  f := fun a e => .inl e
  w := fun a e => .inl e
theorem En.newF (e : En K o ρ G σ H) (hp : H p = none) : En K o ρ (upd G p x) σ (upd H p x) :=
  e.step (Stp.newF e.wd hp) (e.wd.newF hp) fun a h => by
    obtain ⟨g, y, hy⟩ := e.occ_own h
    have n := ne_of_none hy hp
    exact ⟨by rw [upd_ne n]; exact g, upd_ne n, e.onf a h⟩
theorem En.newO (e : En K o ρ G σ H) (hp : H p = none) : En K o ρ G σ (upd H p x) :=
  e.step (Stp.newO hp) (e.wd.newO hp) fun a h => by
    obtain ⟨g, y, hy⟩ := e.occ_own h
    exact ⟨g, upd_ne (ne_of_none hy hp), e.onf a h⟩
/-- an untouched object is frozen -/
theorem En.frz (e : En K o ρ G σ H) (hG : G p = none) (hH : H p = some x) (nf : ¬ o.fp p) (no : ¬ Own ρ σ p) (wo : WOk K o ρ (upd G p x) σ H) : En K o ρ (upd G p x) σ H := by
  have s : Sub G (upd G p x) := Sub.upd hG
  have wd : Wd o (upd G p x) H := by
    refine ⟨fun b y h => ?_, fun a h => ?_, e.wd.occ, o.st _ _ _ _ e.wd.ok s fun _ _ => rfl⟩
    · by_cases hb : b = p
      · subst hb; rw [upd_same] at h; rw [hH]; exact h
      · rw [upd_ne hb] at h; exact e.wd.sub _ _ h
    · rw [upd_ne (show a ≠ p from fun z => nf (by rw [← z]; exact h))]; exact e.wd.nfp a h
  refine ⟨⟨wd, e.len, fun i s' h => ?_, e.dis, e.onf⟩, wo⟩
  obtain ⟨ov, h1, h2⟩ := e.sl i s' h
  refine ⟨ov, h1, h2.step s fun q c hs hv => ⟨?_, rfl⟩⟩
  subst hs
  have ow : Own ρ σ q := ⟨i, ⟨c, h⟩, by rw [h1, hv]⟩
  rw [upd_ne (show q ≠ p from fun z => no (by rw [← z]; exact ow))]
  exact (e.occ_own ow).1
theorem Stp.frz (s : Stp ρ σ o G H ρ' σ' o' G' H') (hG : G' p = none) (fr : H p = none ∨ o.fp p ∨ Own ρ σ p) : Stp ρ σ o G H ρ' σ' o' (upd G' p x) H' := by
  refine ⟨s.g.trans (Sub.upd hG), s.h, fun a h ⟨y, hy, nt⟩ h1 h2 => ?_, s.f, s.w⟩
  have n : a ≠ p := fun z => by
    subst z
    rcases fr with q | q | q
    · rw [hy] at q; cases q
    · exact h1 q
    · exact h2 q
  rw [upd_ne n]
  exact s.n a h ⟨y, hy, nt⟩ h1 h2
/-- an owned list of a name is frozen -/
theorem En.frzS (e : En K o ρ G σ H) {i : Nat} {ds : List PyData} (h : ρ[i]? = some (.own (.lst ds))) :
    ∃ p xs, σ[i]? = some (some (.ref p)) ∧ RpAll K (upd G p (.lst xs)) xs ds ∧ En K o (ρ.set i (.val (.list ds))) (upd G p (.lst xs)) σ H ∧ Stp ρ σ o G H (ρ.set i (.val (.list ds))) σ o (upd G p (.lst xs)) H := by
  obtain ⟨p, y, h1, h2, h3, ok, nf⟩ := e.own_at h
  have hi : i < ρ.length := (List.getElem?_eq_some_iff.mp h).1
  have own : Own ρ σ p := ⟨i, ⟨_, h⟩, h1⟩
  obtain ⟨xs, rfl⟩ : ∃ xs, y = .lst xs := by cases y <;> first | exact ⟨_, rfl⟩ | exact ok.elim
  have s : Sub G (upd G p (.lst xs)) := Sub.upd h2
  have back : ∀ j q, OwnAt (ρ.set i (.val (.list ds))) σ j q → OwnAt ρ σ j q ∧ j ≠ i := fun j q ⟨⟨c, hc⟩, hs⟩ => by
    by_cases hj : j = i
    · subst hj; rw [List.getElem?_set_self hi] at hc; cases hc
    · rw [List.getElem?_set_ne (Ne.symm hj)] at hc; exact ⟨⟨⟨c, hc⟩, hs⟩, hj⟩
  have stp : Stp ρ σ o G H (ρ.set i (.val (.list ds))) σ o (upd G p (.lst xs)) H := by
    refine ⟨s, fun a y h _ _ => h, fun a h he h1 h2 => ?_, fun a h => .inl h, fun a ⟨j, hq⟩ => .inl ⟨j, (back j a hq).1⟩⟩
    rw [upd_ne (show a ≠ p from fun z => h2 (by rw [z]; exact own))]; exact h
  refine ⟨p, xs, h1, RpAll.sub s ok, ⟨⟨⟨fun b z hb => ?_, fun a ha => ?_, e.wd.occ, o.st _ _ _ _ e.wd.ok s fun _ _ => rfl⟩, by simpa using e.len, fun j s' hj => ?_, fun j k q a b => e.dis j k q (back j q a).1 (back k q b).1, fun q ⟨j, hq⟩ => e.onf q ⟨j, (back j q hq).1⟩⟩, e.wo.step stp⟩, stp⟩
  · by_cases hbp : b = p
    · subst hbp; rw [upd_same] at hb; rw [h3]; exact hb
    · rw [upd_ne hbp] at hb; exact e.wd.sub _ _ hb
  · rw [upd_ne (show a ≠ p from fun z => nf (by rw [← z]; exact ha))]; exact e.wd.nfp a ha
  · by_cases hji : j = i
    · subst hji
      rw [List.getElem?_set_self hi] at hj
      cases hj
      exact ⟨_, h1, _, rfl, .lst upd_same (RpAll.sub s ok)⟩
    · rw [List.getElem?_set_ne (Ne.symm hji)] at hj
      obtain ⟨ov, k1, k2⟩ := e.sl j s' hj
      refine ⟨ov, k1, k2.step s fun q c hs hv => ⟨?_, rfl⟩⟩
      subst hs
      have oa : OwnAt ρ σ j q := ⟨⟨c, hj⟩, by rw [k1, hv]⟩
      rw [upd_ne (show q ≠ p from fun z => hji (e.dis j i p (by rw [← z]; exact oa) ⟨⟨_, h⟩, h1⟩))]
      exact (e.occ_own ⟨j, oa⟩).1
/-- an owned thing of a name changes -/
theorem En.mut (e : En K o ρ G σ H) {i : Nat} {c c' : Cont} {y : HO} (h : ρ[i]? = some (.own c)) (hs : σ[i]? = some (some (.ref p))) (ok : COk K G y c') :
    En K o (ρ.set i (.own c')) G σ (upd H p y) ∧ Stp ρ σ o G H (ρ.set i (.own c')) σ o G (upd H p y) := by
  have hi : i < ρ.length := (List.getElem?_eq_some_iff.mp h).1
  obtain ⟨q, z, h1, h2, h3, _, nf⟩ := e.own_at h
  rw [hs] at h1
  cases h1
  have own : Own ρ σ p := ⟨i, ⟨_, h⟩, hs⟩
  have back : ∀ j q, OwnAt (ρ.set i (.own c')) σ j q → OwnAt ρ σ j q := fun j q ⟨⟨c, hc⟩, hz⟩ => by
    by_cases hj : j = i
    · subst hj; exact ⟨⟨_, h⟩, hz⟩
    · rw [List.getElem?_set_ne (Ne.symm hj)] at hc; exact ⟨⟨c, hc⟩, hz⟩
  have stp : Stp ρ σ o G H (ρ.set i (.own c')) σ o G (upd H p y) := ⟨Sub.refl, fun a x hx _ h2 => by rw [upd_ne (show a ≠ p from fun z => h2 (by rw [z]; exact own))]; exact hx, fun a h _ _ _ => h, fun a h => .inl h, fun a ⟨j, hq⟩ => .inl ⟨j, back j a hq⟩⟩
  refine ⟨⟨⟨⟨fun b x hb => ?_, e.wd.nfp, fun a ha => ?_, o.st _ _ _ _ e.wd.ok Sub.refl fun a ha => upd_ne (show a ≠ p from fun z => nf (by rw [← z]; exact ha))⟩, by simpa using e.len, fun j s' hj => ?_, fun j k q a b => e.dis j k q (back j q a) (back k q b), fun q ⟨j, hq⟩ => e.onf q ⟨j, back j q hq⟩⟩, e.wo.step stp⟩, stp⟩
  · rw [upd_ne (show b ≠ p from fun w => by rw [w, h2] at hb; cases hb)]; exact e.wd.sub _ _ hb
  · rw [upd_ne (show a ≠ p from fun z => nf (by rw [← z]; exact ha))]; exact e.wd.occ a ha
  · by_cases hji : j = i
    · subst hji
      rw [List.getElem?_set_self hi] at hj
      cases hj
      exact ⟨_, hs, p, y, rfl, h2, upd_same, ok⟩
    · rw [List.getElem?_set_ne (Ne.symm hji)] at hj
      obtain ⟨ov, k1, k2⟩ := e.sl j s' hj
      refine ⟨ov, k1, k2.step Sub.refl fun q c hs' hv => ?_⟩
      subst hs'
      have oa : OwnAt ρ σ j q := ⟨⟨c, hj⟩, by rw [k1, hv]⟩
      have nq : q ≠ p := fun z => hji (e.dis j i p (by rw [← z]; exact oa) ⟨⟨_, h⟩, hs⟩)
      exact ⟨(e.occ_own ⟨j, oa⟩).1, upd_ne nq⟩
/-- a name gets a value -/
theorem En.store (e : En K o ρ G σ H) {i : Nat} (hi : i < ρ.length) {v : V} {s : Sl} (hs : SlOk K G H (some v) s) (hn : ∀ c, s ≠ .own c) :
    En K o (ρ.set i s) G (σ.set i (some v)) H ∧ Stp ρ σ o G H (ρ.set i s) (σ.set i (some v)) o G H := by
  have hσ : i < σ.length := by rw [e.len]; exact hi
  have back : ∀ j q, OwnAt (ρ.set i s) (σ.set i (some v)) j q → OwnAt ρ σ j q := fun j q ⟨⟨c, hc⟩, hs'⟩ => by
    by_cases hj : j = i
    · subst hj
      rw [List.getElem?_set_self hi] at hc
      exact absurd (Option.some.inj hc) (hn c)
    · rw [List.getElem?_set_ne (Ne.symm hj)] at hc hs'
      exact ⟨⟨c, hc⟩, hs'⟩
  have stp : Stp ρ σ o G H (ρ.set i s) (σ.set i (some v)) o G H := ⟨Sub.refl, fun _ _ h _ _ => h, fun _ h _ _ _ => h, fun _ h => .inl h, fun a ⟨j, hq⟩ => .inl ⟨j, back j a hq⟩⟩
  refine ⟨⟨⟨e.wd, by simpa using e.len, fun j s' hj => ?_, fun j k q a b => e.dis j k q (back j q a) (back k q b), fun q ⟨j, hq⟩ => e.onf q ⟨j, back j q hq⟩⟩, e.wo.step stp⟩, stp⟩
  by_cases hji : j = i
  · subst hji
    rw [List.getElem?_set_self hi] at hj
    cases hj
    exact ⟨_, List.getElem?_set_self hσ, hs⟩
  · rw [List.getElem?_set_ne (Ne.symm hji)] at hj
    obtain ⟨ov, k1, k2⟩ := e.sl j s' hj
    exact ⟨ov, by rw [List.getElem?_set_ne (Ne.symm hji)]; exact k1, k2⟩
/-- a name gets a fresh thing -/
theorem En.storeO (e : En K o ρ G σ H) {i : Nat} (hi : i < ρ.length) {y : HO} {c : Cont} (hG : G p = none) (hH : H p = some y) (ok : COk K G y c) (nf : ¬ o.fp p) (no : ¬ Own ρ σ p) (wo : WOk K o (ρ.set i (.own c)) G (σ.set i (some (.ref p))) H) :
    En K o (ρ.set i (.own c)) G (σ.set i (some (.ref p))) H := by
  have hσ : i < σ.length := by rw [e.len]; exact hi
  have back : ∀ j q, OwnAt (ρ.set i (.own c)) (σ.set i (some (.ref p))) j q → (j = i ∧ q = p) ∨ (j ≠ i ∧ OwnAt ρ σ j q) := fun j q ⟨⟨c, hc⟩, hs'⟩ => by
    by_cases hj : j = i
    · subst hj
      rw [List.getElem?_set_self hσ] at hs'
      cases hs'
      exact .inl ⟨rfl, rfl⟩
    · rw [List.getElem?_set_ne (Ne.symm hj)] at hc hs'
      exact .inr ⟨hj, ⟨c, hc⟩, hs'⟩
  refine ⟨⟨e.wd, by simpa using e.len, fun j s' hj => ?_, fun j k q a b => ?_, fun q ⟨j, hq⟩ => ?_⟩, wo⟩
  · by_cases hji : j = i
    · subst hji
      rw [List.getElem?_set_self hi] at hj
      cases hj
      exact ⟨_, List.getElem?_set_self hσ, p, y, rfl, hG, hH, ok⟩
    · rw [List.getElem?_set_ne (Ne.symm hji)] at hj
      obtain ⟨ov, k1, k2⟩ := e.sl j s' hj
      exact ⟨ov, by rw [List.getElem?_set_ne (Ne.symm hji)]; exact k1, k2⟩
  · rcases back j q a with ⟨h1, h2⟩ | ⟨h1, h2⟩
    · rcases back k q b with ⟨h3, h4⟩ | ⟨h3, h4⟩
      · rw [h1, h3]
      · exact absurd ⟨k, by rw [← h2]; exact h4⟩ no
    · rcases back k q b with ⟨h3, h4⟩ | ⟨h3, h4⟩
      · exact absurd ⟨j, by rw [← h4]; exact h2⟩ no
      · exact e.dis j k q h2 h4
  · rcases back j q hq with ⟨h1, h2⟩ | ⟨h1, h2⟩
    · rw [h2]; exact nf
    · exact e.onf q ⟨j, h2⟩
theorem Stp.storeO (s : Stp ρ σ o G H ρ' σ' o' G' H') {i : Nat} {c : Cont} (fr : H p = none ∨ o.fp p ∨ Own ρ σ p) (hσ : i < σ'.length) : Stp ρ σ o G H (ρ'.set i (.own c)) (σ'.set i (some (.ref p))) o' G' H' := by
  refine ⟨s.g, s.h, s.n, s.f, fun a ⟨j, ⟨c, hc⟩, hs'⟩ => ?_⟩
  by_cases hj : j = i
  · subst hj
    rw [List.getElem?_set_self hσ] at hs'
    cases hs'
    rcases fr with q | q | q
    · exact .inr (.inl q)
    · exact .inr (.inr q)
    · exact .inl q
  · rw [List.getElem?_set_ne (Ne.symm hj)] at hc hs'
    exact s.w a ⟨j, ⟨c, hc⟩, hs'⟩
theorem VAll.step {vs : List V} {dvs : List DV} (x : VAll K o ρ G σ H vs dvs) (s : Stp ρ σ o G H ρ' σ o' G' H') (k : ∀ d ∈ dvs, Kept ρ' d) : VAll K o' ρ' G' σ H' vs dvs := by
  induction x with
  | nil => exact .nil
  | cons h t ih => exact .cons (h.step s (k _ List.mem_cons_self)) (ih fun d hd => k d (List.mem_cons_of_mem _ hd))
end
end DL

set_option Elab.async false
set_option linter.all false
set_option maxRecDepth 100000
namespace DL
open PySem PySem.Spec PyProof.Rows L2
section
variable {K : Kx} {ρ : List Sl} {o : Ob} {R : RD} {N B C : RE} {te ta tb : TE} {tt : TT} {i : Nat} {T : TA}

/-! ### leaves -/
theorem xe_vd {d : PyData} (h : ρ[i]? = some (.val d)) (r : R (.d d) ρ o) : XE K (tVar i) ρ o R := fun G σ H e Q q => by
  obtain ⟨ov, h1, v, rfl, hv⟩ := e.sl i _ h
  exact ⟨v, h1, q v _ _ _ _ _ r Stp.refl e hv trivial⟩
theorem xe_vr {u : V} (h : ρ[i]? = some (.raw u)) (r : R (.raw u) ρ o) : XE K (tVar i) ρ o R := fun G σ H e Q q => by
  obtain ⟨ov, h1, rfl⟩ := e.sl i _ h
  exact ⟨u, h1, q u _ _ _ _ _ r Stp.refl e rfl trivial⟩
theorem xe_vo {c : Cont} (h : ρ[i]? = some (.own c)) (r : R (.sl i c) ρ o) : XE K (tVar i) ρ o R := fun G σ H e Q q => by
  obtain ⟨p, y, h1, _⟩ := e.own_at h
  exact ⟨_, h1, q _ _ _ _ _ _ r Stp.refl e ⟨h1, h⟩ trivial⟩
theorem xe_vf {ds : List PyData} (h : ρ[i]? = some (.own (.lst ds))) (r : R (.d (.list ds)) (ρ.set i (.val (.list ds))) o) : XE K (tVar i) ρ o R := fun G σ H e Q q => by
  obtain ⟨p, xs, h1, ok, e2, s⟩ := e.frzS h
  exact ⟨_, h1, q _ _ _ _ _ _ r s e2 (.lst upd_same ok) trivial⟩
theorem xe_int {n : Int} (r : R (.d (.int n)) ρ o) : XE K (tC (.int n)) ρ o R := fun G σ H e Q q => q _ _ _ _ _ _ r Stp.refl e (.int n) trivial
theorem xe_str {n : Str} (r : R (.d (.str n)) ρ o) : XE K (tC (.str n)) ρ o R := fun G σ H e Q q => q _ _ _ _ _ _ r Stp.refl e (.str n) trivial
theorem xe_bl {n : Bool} (r : R (.d (.bool n)) ρ o) : XE K (tC (.bl n)) ρ o R := fun G σ H e Q q => q _ _ _ _ _ _ r Stp.refl e (.bl n) trivial
theorem xe_non (r : R (.d .none) ρ o) : XE K (tC .non) ρ o R := fun G σ H e Q q => q _ _ _ _ _ _ r Stp.refl e .non trivial
theorem xe_raw {v : V} (r : R (.raw v) ρ o) : XE K (tC v) ρ o R := fun G σ H e Q q => q _ _ _ _ _ _ r Stp.refl e rfl trivial
/-- a constant of the module that is data -/
theorem xe_con {v : V} {d : PyData} (h : ∀ G, Rp K G v d) (r : R (.d d) ρ o) : XE K (tC v) ρ o R := fun G σ H e Q q => q _ _ _ _ _ _ r Stp.refl e (h G) trivial

/-! ### the same with the result frozen -/
def FzR (R : RD) : RD := fun dv ρ o => match dv with
  | .d x => R (.d x) ρ o
  | .raw v => R (.raw v) ρ o
  | .new (.lst ds) => R (.d (.list ds)) ρ o
  | _ => False
def XEF (K : Kx) (te : TE) (ρ : List Sl) (o : Ob) (R : RD) : Prop := XE K te ρ o R
theorem xf_vd {d : PyData} (h : ρ[i]? = some (.val d)) (r : R (.d d) ρ o) : XEF K (tVar i) ρ o R := xe_vd h r
theorem xf_vr {u : V} (h : ρ[i]? = some (.raw u)) (r : R (.raw u) ρ o) : XEF K (tVar i) ρ o R := xe_vr h r
theorem xf_vf {ds : List PyData} (h : ρ[i]? = some (.own (.lst ds))) (r : R (.d (.list ds)) (ρ.set i (.val (.list ds))) o) : XEF K (tVar i) ρ o R := xe_vf h r
theorem xf_of (h : XE K te ρ o (FzR R)) : XEF K te ρ o R := fun G σ H e Q q => h G σ H e Q fun v dv ρ' o' G' H' r s e' ok fr => by
  cases dv with
  | d x => exact q _ _ _ _ _ _ r s e' ok trivial
  | raw v => exact q _ _ _ _ _ _ r s e' ok trivial
  | sl i c => exact r.elim
  | new c =>
    cases c with
    | dic _ => exact r.elim
    | lst ds =>
      obtain ⟨p, y, rfl, g1, h1, ok, nf, no⟩ := ok
      obtain ⟨xs, rfl⟩ : ∃ xs, y = .lst xs := by cases y <;> first | exact ⟨_, rfl⟩ | exact ok.elim
      exact q _ _ _ _ _ _ r (s.frz g1 (fr p rfl)) (e'.frz g1 h1 nf no (e.wo.step (s.frz g1 (fr p rfl)))) (.lst upd_same (RpAll.sub (Sub.upd g1) ok)) trivial
theorem XE.mono {R' : RD} (h : XE K te ρ o R) (k : ∀ dv ρ o, R dv ρ o → R' dv ρ o) : XE K te ρ o R' := fun G σ H e Q q => h G σ H e Q fun v dv ρ' o' G' H' r => q v dv ρ' o' G' H' (k _ _ _ r)

/-! ### sequencing -/
/-- an expression, then what its value is for -/
theorem XE.seq {S : VK} {G : Hp} {σ : L2.St} {H : Hp} (h : XE K te ρ o R) (e : En K o ρ G σ H)
    (k : ∀ v dv ρ' o' G' H', R dv ρ' o' → Stp ρ σ o G H ρ' σ o' G' H' → En K o' ρ' G' σ H' → VOk K o' ρ' G' σ H' v dv → VFr ρ σ o H v dv → S v H') : te σ H S := h G σ H e S k
def XR (K : Kx) (r : R2) (a b : DV) (ρ : List Sl) (o : Ob) (R : RD) : Prop :=
  ∀ G σ H x y, En K o ρ G σ H → VOk K o ρ G σ H x a → VOk K o ρ G σ H y b → ∀ Q, XQ K ρ o G σ H R Q → r x y H Q
theorem xe_op {r : R2} (h : XE K ta ρ o fun a ρ1 o1 => XE K tb ρ1 o1 fun b ρ2 o2 => Kept ρ2 a ∧ XR K r a b ρ2 o2 R) : XE K (tOp r ta tb) ρ o R := fun G σ H e Q q =>
  h.seq e fun x a ρ1 o1 G1 H1 r1 s1 e1 ok1 fr1 => XE.seq r1 e1 fun y b ρ2 o2 G2 H2 ⟨kp, r2⟩ s2 e2 ok2 fr2 =>
    r2 G2 σ H2 x y e2 (ok1.step s2 kp) ok2 Q fun v dv ρ' o' G' H' r s e' ok fr => q v dv ρ' o' G' H' r ((s1.trans s2).trans s) e' ok (fr.back (s1.trans s2))
theorem xr_or1 {r r' : R2} {a b : DV} (h : XR K r a b ρ o R) : XR K (fun x y H Q => r x y H Q ∨ r' x y H Q) a b ρ o R := fun G σ H x y e h1 h2 Q q => .inl (h G σ H x y e h1 h2 Q q)
theorem xr_or2 {r r' : R2} {a b : DV} (h : XR K r' a b ρ o R) : XR K (fun x y H Q => r x y H Q ∨ r' x y H Q) a b ρ o R := fun G σ H x y e h1 h2 Q q => .inr (h G σ H x y e h1 h2 Q q)
theorem vok_int {K : PySem.W.Frag} {G σ H x} {n : Int} (h : VOk K o ρ G σ H x (.d (.int n))) : x = .int n := by cases h; rfl
theorem vok_str {K : PySem.W.Frag} {G σ H x} {n : Str} (h : VOk K o ρ G σ H x (.d (.str n))) : x = .str n := by cases h; rfl
theorem vok_bl {K : PySem.W.Frag} {G σ H x} {n : Bool} (h : VOk K o ρ G σ H x (.d (.bool n))) : x = .bl n := by cases h; rfl
theorem vok_non {K : PySem.W.Frag} {G σ H x} (h : VOk K o ρ G σ H x (.d .none)) : x = .non := by cases h; rfl
/-- the result is a datum without an address -/
theorem xq_now {G σ H} {Q : VK} (q : XQ K ρ o G σ H R Q) {v : V} {d : PyData} (e : En K o ρ G σ H) (r : R (.d d) ρ o) (ok : Rp K G v d) : Q v H := q _ _ _ _ _ _ r Stp.refl e ok trivial
theorem xr_i0 {g : Int → Int → Int} {m n : Int} (r : R (.d (.int (g m n))) ρ o) : XR K (rI0 fun i j => .int (g i j)) (.d (.int m)) (.d (.int n)) ρ o R := fun G σ H x y e h1 h2 Q q =>
  ⟨m, n, vok_int h1, vok_int h2, xq_now q e r (.int _)⟩
theorem xr_b0 {g : Int → Int → Bool} {m n : Int} (r : R (.d (.bool (g m n))) ρ o) : XR K (rI0 fun i j => .bl (g i j)) (.d (.int m)) (.d (.int n)) ρ o R := fun G σ H x y e h1 h2 Q q =>
  ⟨m, n, vok_int h1, vok_int h2, xq_now q e r (.bl _)⟩
theorem xr_iC {C : Int → Int → Prop} {g : Int → Int → Int} {m n : Int} (c : C m n) (r : R (.d (.int (g m n))) ρ o) : XR K (rI C fun i j => .int (g i j)) (.d (.int m)) (.d (.int n)) ρ o R := fun G σ H x y e h1 h2 Q q =>
  ⟨m, n, vok_int h1, vok_int h2, c, xq_now q e r (.int _)⟩
theorem xr_catS {m n : Str} (c : m.length + n.length ≤ sizeLine) (r : R (.d (.str (m ++ n))) ρ o) :
    XR K (fun x y H Q => ∃ i j, x = .str i ∧ y = .str j ∧ i.length + j.length ≤ sizeLine ∧ Q (.str (i ++ j)) H) (.d (.str m)) (.d (.str n)) ρ o R := fun G σ H x y e h1 h2 Q q =>
  ⟨m, n, vok_str h1, vok_str h2, c, xq_now q e r (.str _)⟩
/-- a list that may be read -/
def IsL (ρ : List Sl) : DV → List PyData → Prop
  | .d (.list ds), es => ds = es
  | .sl _ (.lst ds), es => ds = es
  | .new (.lst ds), es => ds = es
  | _, _ => False
theorem IsL.at {G : Hp} {σ : L2.St} {H : Hp} {x : V} {dv : DV} {ds : List PyData} (l : IsL ρ dv ds) (e : En K o ρ G σ H) (h : VOk K o ρ G σ H x dv) :
    ∃ p xs, x = .ref p ∧ H p = some (.lst xs) ∧ RpAll K G xs ds := by
  cases dv with
  | d z =>
    cases z <;> try exact l.elim
    cases l
    cases h with
    | lst h1 h2 => exact ⟨_, _, rfl, e.wd.sub _ _ h1, h2⟩
  | raw u => exact l.elim
  | sl i c =>
    cases c with
    | dic _ => exact l.elim
    | lst es =>
      cases l
      obtain ⟨p, y, h1, _, h3, ok, _⟩ := e.own_at h.2
      have hx := h.1
      rw [h1] at hx
      cases hx
      obtain ⟨xs, rfl⟩ : ∃ xs, y = .lst xs := by cases y <;> first | exact ⟨_, rfl⟩ | exact ok.elim
      exact ⟨p, xs, rfl, h3, ok⟩
  | new c =>
    cases c with
    | dic _ => exact l.elim
    | lst es =>
      cases l
      obtain ⟨p, y, rfl, _, h3, ok, _⟩ := h
      obtain ⟨xs, rfl⟩ : ∃ xs, y = .lst xs := by cases y <;> first | exact ⟨_, rfl⟩ | exact ok.elim
      exact ⟨p, xs, rfl, h3, ok⟩
theorem nofp {G σ H} (e : En K o ρ G σ H) {p : Addr} (hp : H p = none) : ¬ o.fp p := fun z => by
  obtain ⟨y, hy, _⟩ := e.wd.occ p z
  rw [hp] at hy
  cases hy
theorem noown {G σ H} (e : En K o ρ G σ H) {p : Addr} (hp : H p = none) : ¬ Own ρ σ p := fun z => by
  obtain ⟨_, y, hy⟩ := e.occ_own z
  rw [hp] at hy
  cases hy
/-- a fresh list comes -/
theorem xq_new {G σ H} {Q : VK} (q : XQ K ρ o G σ H R Q) {xs : List V} {ds : List PyData} (e : En K o ρ G σ H) (r : R (.new (.lst ds)) ρ o) (ok : RpAll K G xs ds) : ∀ p, H p = none → Q (.ref p) (upd H p (.lst xs)) := fun p hp =>
  q _ _ _ _ _ _ r (Stp.newO hp) (e.newO hp) ⟨p, _, rfl, e.wd.gnone hp, upd_same, ok, nofp e hp, noown e hp⟩ fun p' hp' => by cases hp'; exact .inl hp
/-- a fresh tuple comes -/
theorem xq_tup {G σ H} {Q : VK} (q : XQ K ρ o G σ H R Q) {xs : List V} {ds : List PyData} (e : En K o ρ G σ H) (r : R (.d (.tuple ds)) ρ o) (ok : RpAll K G xs ds) : ∀ p, H p = none → Q (.ref p) (upd H p (.tup xs)) := fun p hp =>
  q _ _ _ _ _ _ r (Stp.newF e.wd hp) (e.newF hp) (.tup (.inl (.inl upd_same)) (RpAll.sub (Sub.upd (e.wd.gnone hp)) ok)) trivial
theorem xr_catL {a b : DV} {m n : List PyData} (ha : IsL ρ a m) (hb : IsL ρ b n) (c : m.length + n.length ≤ sizeLine) (r : R (.new (.lst (m ++ n))) ρ o) : XR K rCat a b ρ o R := fun G σ H x y e h1 h2 Q q => by
  obtain ⟨p, xs, rfl, hp, ok1⟩ := ha.at e h1
  obtain ⟨p', ys, rfl, hp', ok2⟩ := hb.at e h2
  exact ⟨p, p', xs, ys, rfl, rfl, hp, hp', by rw [ok1.len, ok2.len]; exact c, xq_new q e r (ok1.append ok2)⟩

/-! ### arguments -/
theorem xa_nil {R : List DV → RE} (r : R [] ρ o) : XA K tNil ρ o R := fun G σ H e Q q => q _ _ _ _ _ _ r Stp.refl e .nil
theorem xa_cons {R : List DV → RE} (h : XE K ta ρ o fun a ρ1 o1 => XA K T ρ1 o1 fun bs ρ2 o2 => Kept ρ2 a ∧ R (a :: bs) ρ2 o2) : XA K (tCons ta T) ρ o R := fun G σ H e Q q =>
  h.seq e fun x a ρ1 o1 G1 H1 r1 s1 e1 ok1 fr1 => r1 G1 σ H1 e1 _ fun ys bs ρ2 o2 G2 H2 ⟨kp, r2⟩ s2 e2 ok2 =>
    q _ _ _ _ _ _ r2 (s1.trans s2) e2 (.cons (ok1.step s2 kp) ok2)
/-- arguments that are handed on -/
def XAF (K : Kx) (ta : TA) (ρ : List Sl) (o : Ob) (R : List DV → RE) : Prop := XA K ta ρ o fun dvs ρ' o' => (∀ d ∈ dvs, (∃ x, d = .d x) ∨ ∃ v, d = .raw v) ∧ R dvs ρ' o'
theorem XA.mono {R R' : List DV → RE} (h : XA K T ρ o R) (k : ∀ ds ρ' o', R ds ρ' o' → R' ds ρ' o') : XA K T ρ o R' := fun G σ H e Q q => h G σ H e Q fun vs ds ρ' o' G' H' r => q vs ds ρ' o' G' H' (k _ _ _ r)
theorem xaf_nil {R : List DV → RE} (r : R [] ρ o) : XAF K tNil ρ o R := xa_nil ⟨fun _ h => (nomatch h), r⟩
/-- a value that may be handed on -/
def HandR (R : DV → RE) : RD := fun dv ρ o => match dv with
  | .d x => R (.d x) ρ o
  | .raw v => R (.raw v) ρ o
  | _ => False
theorem xaf_cons {R : List DV → RE} (h : XEF K ta ρ o (HandR fun a ρ1 o1 => XAF K T ρ1 o1 fun bs ρ2 o2 => R (a :: bs) ρ2 o2)) : XAF K (tCons ta T) ρ o R := by
  refine xa_cons (XE.mono h fun dv ρ1 o1 r => ?_)
  cases dv with
  | d x => exact XA.mono r fun bs ρ2 o2 ⟨k, r⟩ => ⟨trivial, fun d hd => (List.mem_cons.mp hd).elim (fun z => .inl ⟨x, z⟩) (k d), r⟩
  | raw x => exact XA.mono r fun bs ρ2 o2 ⟨k, r⟩ => ⟨trivial, fun d hd => (List.mem_cons.mp hd).elim (fun z => .inr ⟨x, z⟩) (k d), r⟩
  | sl _ _ => exact False.elim r
  | new _ => exact False.elim r
theorem VAll.data {G σ H} : ∀ {vs : List V} {dvs : List DV} {ds : List PyData}, VAll K o ρ G σ H vs dvs → dvs = ds.map .d → RpAll K G vs ds
  | _, _, [], .nil, _ => .nil
  | _, _, _ :: _, .nil, h => nomatch h
  | _, _, [], .cons _ _, h => nomatch h
  | _, _, d :: ds, .cons a b, h => by
    injection h with h1 h2
    subst h1
    exact .cons a (VAll.data b h2)
/-- a written tuple -/
theorem xe_tup (h : XAF K T ρ o fun dvs ρ' o' => ∃ ds : List PyData, dvs = ds.map .d ∧ ds.length ≤ sizeLine ∧ R (.d (.tuple ds)) ρ' o') : XE K (tTup T) ρ o R := fun G σ H e Q q =>
  h G σ H e _ fun vs dvs ρ' o' G' H' ⟨_, ds, hd, hl, r⟩ s e' ok => by
    have ok' := ok.data hd
    exact ⟨by rw [ok'.len]; exact hl, xq_tup (fun v dv ρ2 o2 G2 H2 r2 s2 e2 ok2 fr => q v dv ρ2 o2 G2 H2 r2 (s.trans s2) e2 ok2 (fr.back s)) e' r ok'⟩
/-- a written list -/
theorem xe_lst (h : XAF K T ρ o fun dvs ρ' o' => ∃ ds : List PyData, dvs = ds.map .d ∧ ds.length ≤ sizeLine ∧ R (.new (.lst ds)) ρ' o') : XE K (tLst T) ρ o R := fun G σ H e Q q =>
  h G σ H e _ fun vs dvs ρ' o' G' H' ⟨_, ds, hd, hl, r⟩ s e' ok => by
    have ok' := ok.data hd
    exact ⟨by rw [ok'.len]; exact hl, xq_new (fun v dv ρ2 o2 G2 H2 r2 s2 e2 ok2 fr => q v dv ρ2 o2 G2 H2 r2 (s.trans s2) e2 ok2 (fr.back s)) e' r ok'⟩

/-! ### tests -/
theorem xt_b (h : XE K te ρ o fun dv ρ' o' => ∃ b, dv = .d (.bool b) ∧ R' b ρ' o') : XT K (tB te) ρ o R' := fun G σ H e Q q =>
  h.seq e fun v dv ρ' o' G' H' ⟨b, hd, r⟩ s e' ok fr => by subst hd; exact ⟨b, vok_bl ok, q _ _ _ _ _ r s e'⟩
theorem xt_test (h : XE K te ρ o fun dv ρ' o' => ∃ b, dv = .d (.bool b) ∧ R' b ρ' o') : XT K (tTest te) ρ o R' := xt_b h
theorem xt_and {t u : TT} {R' : Bool → RE} (h : XT K t ρ o fun b ρ1 o1 => (b = true → XT K u ρ1 o1 R') ∧ (b = false → R' false ρ1 o1)) : XT K (tAnd t u) ρ o R' := fun G σ H e Q q =>
  h G σ H e _ fun b ρ1 o1 G1 H1 ⟨r1, r2⟩ s e1 => by
    cases b with
    | true => exact iteT (r1 rfl G1 σ H1 e1 _ fun b ρ2 o2 G2 H2 r s2 e2 => q _ _ _ _ _ r (s.trans s2) e2)
    | false => exact iteF (q _ _ _ _ _ (r2 rfl) s e1)
theorem xt_or {t u : TT} {R' : Bool → RE} (h : XT K t ρ o fun b ρ1 o1 => (b = true → R' true ρ1 o1) ∧ (b = false → XT K u ρ1 o1 R')) : XT K (tOr t u) ρ o R' := fun G σ H e Q q =>
  h G σ H e _ fun b ρ1 o1 G1 H1 ⟨r1, r2⟩ s e1 => by
    cases b with
    | true => exact iteT (q _ _ _ _ _ (r1 rfl) s e1)
    | false => exact iteF (r2 rfl G1 σ H1 e1 _ fun b ρ2 o2 G2 H2 r s2 e2 => q _ _ _ _ _ r (s.trans s2) e2)
theorem xt_not {t : TT} {R' : Bool → RE} (h : XT K t ρ o fun b ρ1 o1 => R' (!b) ρ1 o1) : XT K (tNot t) ρ o R' := fun G σ H e Q q =>
  h G σ H e _ fun b ρ1 o1 G1 H1 r s e1 => q _ _ _ _ _ r s e1
theorem xe_and (h : XE K ta ρ o fun a ρ1 o1 => ∃ c, a = .d (.bool c) ∧ (c = true → XE K tb ρ1 o1 R) ∧ (c = false → R (.d (.bool false)) ρ1 o1)) : XE K (tAndV ta tb) ρ o R := fun G σ H e Q q =>
  h.seq e fun v dv ρ1 o1 G1 H1 ⟨c, hd, r1, r2⟩ s e1 ok fr => by
    subst hd
    refine ⟨c, vok_bl ok, ?_⟩
    cases c with
    | true => exact iteT (r1 rfl G1 σ H1 e1 _ fun v dv ρ2 o2 G2 H2 r s2 e2 ok fr => q _ _ _ _ _ _ r (s.trans s2) e2 ok (fr.back s))
    | false => exact iteF (q _ _ _ _ _ _ (r2 rfl) s e1 (.bl false) trivial)
theorem xe_or (h : XE K ta ρ o fun a ρ1 o1 => ∃ c, a = .d (.bool c) ∧ (c = true → R (.d (.bool true)) ρ1 o1) ∧ (c = false → XE K tb ρ1 o1 R)) : XE K (tOrV ta tb) ρ o R := fun G σ H e Q q =>
  h.seq e fun v dv ρ1 o1 G1 H1 ⟨c, hd, r1, r2⟩ s e1 ok fr => by
    subst hd
    refine ⟨c, vok_bl ok, ?_⟩
    cases c with
    | true => exact iteT (q _ _ _ _ _ _ (r1 rfl) s e1 (.bl true) trivial)
    | false => exact iteF (r2 rfl G1 σ H1 e1 _ fun v dv ρ2 o2 G2 H2 r s2 e2 ok fr => q _ _ _ _ _ _ r (s.trans s2) e2 ok (fr.back s))
theorem xe_not (h : XE K ta ρ o fun a ρ1 o1 => ∃ c, a = .d (.bool c) ∧ R (.d (.bool (!c))) ρ1 o1) : XE K (tNotV ta) ρ o R := fun G σ H e Q q =>
  h.seq e fun v dv ρ1 o1 G1 H1 ⟨c, hd, r1⟩ s e1 ok fr => by
    subst hd
    exact ⟨c, vok_bl ok, q _ _ _ _ _ _ r1 s e1 (.bl _) trivial⟩
theorem xe_if (h : XT K tt ρ o fun b ρ1 o1 => (b = true → XE K ta ρ1 o1 R) ∧ (b = false → XE K tb ρ1 o1 R)) : XE K (tIf tt ta tb) ρ o R := fun G σ H e Q q =>
  h G σ H e _ fun b ρ1 o1 G1 H1 ⟨r1, r2⟩ s e1 => by
    cases b with
    | true => exact iteT (r1 rfl G1 σ H1 e1 _ fun v dv ρ2 o2 G2 H2 r s2 e2 ok fr => q _ _ _ _ _ _ r (s.trans s2) e2 ok (fr.back s))
    | false => exact iteF (r2 rfl G1 σ H1 e1 _ fun v dv ρ2 o2 G2 H2 r s2 e2 ok fr => q _ _ _ _ _ _ r (s.trans s2) e2 ok (fr.back s))
end

/-! ### targets -/
section
variable {K : Kx} {ρ : List Sl} {o : Ob} {R : RD} {N B C : RE} {te ta tb : TE} {tt : TT} {i : Nat} {T : TA} {t u ts : TS}
theorem lt_of_blt {a b : Nat} (h : Nat.blt a b = true) : a < b := Nat.blt_eq.mp h
theorem xg_nd {d : PyData} (n : N (ρ.set i (.val d)) o) (hi : Nat.blt i ρ.length = true := by rfl) : XG K (gName i) (.d d) ρ o N := fun G σ H v e ok Q q =>
  q _ _ _ _ _ n (e.store (lt_of_blt hi) (s := .val d) ⟨v, rfl, ok⟩ (fun c z => nomatch z)).2 (e.store (lt_of_blt hi) (s := .val d) ⟨v, rfl, ok⟩ (fun c z => nomatch z)).1
theorem xg_nr {u : V} (n : N (ρ.set i (.raw u)) o) (hi : Nat.blt i ρ.length = true := by rfl) : XG K (gName i) (.raw u) ρ o N := fun G σ H v e ok Q q => by
  have ok' : v = u := ok
  subst ok'
  exact q _ _ _ _ _ n (e.store (lt_of_blt hi) (s := .raw v) rfl (fun c z => nomatch z)).2 (e.store (lt_of_blt hi) (s := .raw v) rfl (fun c z => nomatch z)).1
theorem xgs_nil (n : N ρ o) : XGs K gNil [] ρ o N := fun G σ H vs e ok Q q => by
  cases ok
  exact ⟨rfl, q _ _ _ _ _ n Stp.refl e⟩
theorem VAll.steps {ρ' : List Sl} {σ σ' : L2.St} {o' : Ob} {G G' H H' : Hp} {vs : List V} {ds : List PyData} (x : VAll K o ρ G σ H vs (ds.map .d)) (s : Sub G G') : VAll K o' ρ' G' σ' H' vs (ds.map .d) := by
  induction ds generalizing vs with
  | nil => cases x; exact .nil
  | cons d ds ih => cases x with
    | cons h t => exact .cons (Rp.sub s h) (ih t)
theorem xgs_cons {g : TG} {gs : TGs} {d : PyData} {ds : List PyData} (h : XG K g (.d d) ρ o fun ρ1 o1 => XGs K gs (ds.map .d) ρ1 o1 N) : XGs K (gCons g gs) ((d :: ds).map .d) ρ o N := fun G σ H vs e ok Q q => by
  cases ok with
  | cons h1 h2 =>
    exact ⟨_, _, rfl, h G σ H _ e h1 _ fun ρ1 o1 G1 σ1 H1 r s1 e1 => r G1 σ1 H1 _ e1 (VAll.steps h2 s1.g) _ fun ρ2 o2 G2 σ2 H2 r2 s2 e2 => q _ _ _ _ _ r2 (s1.trans s2) e2⟩
theorem RpAll.vall {G : Hp} {σ : L2.St} {H : Hp} : ∀ {vs : List V} {ds : List PyData}, RpAll K G vs ds → VAll K o ρ G σ H vs (ds.map .d)
  | _, _, .nil => .nil
  | _, _, .cons a b => .cons a (RpAll.vall b)
theorem xg_tup {gs : TGs} {n : Nat} {ds : List PyData} (h : XGs K gs (ds.map .d) ρ o N) (hn : ds.length = n := by rfl) : XG K (gTup K n gs) (.d (.tuple ds)) ρ o N := fun G σ H v e ok Q q => by
  cases ok with
  | tup h1 h2 => exact ⟨_, _, rfl, SqT.sub e.wd.sub h1, by rw [h2.len]; exact hn, h G σ H _ e h2.vall Q q⟩

/-! ### statements -/
theorem xs_next (n : N ρ o) : XS K tNext ρ o N R B C := fun G σ H e D qn qr qb qc => qn _ _ _ _ _ n Stp.refl e
theorem xs_break (n : B ρ o) : XS K tBreak ρ o N R B C := fun G σ H e D qn qr qb qc => qb _ _ _ _ _ n Stp.refl e
theorem xs_cont (n : C ρ o) : XS K tCont ρ o N R B C := fun G σ H e D qn qr qb qc => qc _ _ _ _ _ n Stp.refl e
theorem xs_seq (h : XS K t ρ o (fun ρ1 o1 => XS K u ρ1 o1 N R B C) R B C) : XS K (tSeq t u) ρ o N R B C := fun G σ H e D qn qr qb qc =>
  h G σ H e _ (fun ρ1 o1 G1 σ1 H1 r s1 e1 => r G1 σ1 H1 e1 D (fun _ _ _ _ _ n s e => qn _ _ _ _ _ n (s1.trans s) e) (fun _ _ _ _ _ _ _ n s e ok fr => qr _ _ _ _ _ _ _ n (s1.trans s) e ok (fr.back s1))
    (fun _ _ _ _ _ n s e => qb _ _ _ _ _ n (s1.trans s) e) (fun _ _ _ _ _ n s e => qc _ _ _ _ _ n (s1.trans s) e)) qr qb qc
theorem xs_ret (h : XE K te ρ o R) : XS K (tRet te) ρ o N R B C := fun G σ H e D qn qr qb qc => h.seq e fun v dv ρ' o' G' H' r s e' ok fr => qr _ _ _ _ _ _ _ r s e' ok fr
theorem xs_retN (r : R (.d .none) ρ o) : XS K tRetN ρ o N R B C := fun G σ H e D qn qr qb qc => qr _ _ _ _ _ _ _ r Stp.refl e .non trivial
theorem xs_drop (h : XE K te ρ o fun _ ρ' o' => N ρ' o') : XS K (tDrop te) ρ o N R B C := fun G σ H e D qn qr qb qc => h.seq e fun v dv ρ' o' G' H' r s e' ok fr => qn _ _ _ _ _ r s e'
theorem xs_if (h : XT K tt ρ o fun b ρ1 o1 => (b = true → XS K t ρ1 o1 N R B C) ∧ (b = false → XS K u ρ1 o1 N R B C)) : XS K (tIfS tt t u) ρ o N R B C := fun G σ H e D qn qr qb qc =>
  h G σ H e _ fun b ρ1 o1 G1 H1 ⟨r1, r2⟩ s1 e1 => by
    cases b with
    | true => exact iteT (r1 rfl G1 σ H1 e1 D (fun _ _ _ _ _ n s e => qn _ _ _ _ _ n (s1.trans s) e) (fun _ _ _ _ _ _ _ n s e ok fr => qr _ _ _ _ _ _ _ n (s1.trans s) e ok (fr.back s1)) (fun _ _ _ _ _ n s e => qb _ _ _ _ _ n (s1.trans s) e) (fun _ _ _ _ _ n s e => qc _ _ _ _ _ n (s1.trans s) e))
    | false => exact iteF (r2 rfl G1 σ H1 e1 D (fun _ _ _ _ _ n s e => qn _ _ _ _ _ n (s1.trans s) e) (fun _ _ _ _ _ _ _ n s e ok fr => qr _ _ _ _ _ _ _ n (s1.trans s) e ok (fr.back s1)) (fun _ _ _ _ _ n s e => qb _ _ _ _ _ n (s1.trans s) e) (fun _ _ _ _ _ n s e => qc _ _ _ _ _ n (s1.trans s) e))
/-- what a name holds behind an assignment -/
def AsR (i : Nat) (N : RE) : RD := fun dv ρ o => match dv with
  | .d x => N (ρ.set i (.val x)) o
  | .raw v => N (ρ.set i (.raw v)) o
  | .new c => N (ρ.set i (.own c)) o
  | .sl _ _ => False
theorem xs_asg (h : XE K te ρ o fun dv ρ' o' => Nat.blt i ρ'.length = true ∧ AsR i N dv ρ' o') : XS K (tAsg te (gName i)) ρ o N R B C := fun G σ H e D qn qr qb qc =>
  h.seq e fun v dv ρ' o' G' H' ⟨hi, r⟩ s e' ok fr => by
    have hi := lt_of_blt hi
    cases dv with
    | d x => exact qn _ _ _ _ _ r (s.trans (e'.store hi (s := .val x) ⟨v, rfl, ok⟩ (fun c z => nomatch z)).2) (e'.store hi (s := .val x) ⟨v, rfl, ok⟩ (fun c z => nomatch z)).1
    | raw x =>
      have ok' : v = x := ok
      subst ok'
      exact qn _ _ _ _ _ r (s.trans (e'.store hi (s := .raw v) rfl (fun c z => nomatch z)).2) (e'.store hi (s := .raw v) rfl (fun c z => nomatch z)).1
    | sl _ _ => exact False.elim r
    | new c =>
      obtain ⟨p, y, rfl, g1, h1, ok, nf, no⟩ := ok
      exact qn _ _ _ _ _ r (s.storeO (fr p rfl) (by rw [e'.len]; exact hi)) (e'.storeO hi g1 h1 ok nf no (e.wo.step (s.storeO (fr p rfl) (by rw [e'.len]; exact hi))))
/-- an assignment to a target of another form -/
theorem xs_asgG {g : TG} (h : XE K te ρ o (HandR fun dv ρ' o' => XG K g dv ρ' o' N)) : XS K (tAsg te g) ρ o N R B C := fun G σ H e D qn qr qb qc =>
  h.seq e fun v dv ρ' o' G' H' r s e' ok fr => by
    cases dv with
    | d x => exact (show XG K g (.d x) ρ' o' N from r) G' σ H' v e' ok _ fun _ _ _ _ _ n s2 e2 => qn _ _ _ _ _ n (s.trans s2) e2
    | raw x => exact (show XG K g (.raw x) ρ' o' N from r) G' σ H' v e' ok _ fun _ _ _ _ _ n s2 e2 => qn _ _ _ _ _ n (s.trans s2) e2
    | sl _ _ => exact False.elim r
    | new _ => exact False.elim r
/-! ### loops -/
/-- the state at a loop's head -/
def LoopP (K : Kx) (I : RE) (ρ : List Sl) (σ : L2.St) (o : Ob) (G H : Hp) (σ' : L2.St) (H' : Hp) : Prop :=
  ∃ ρ' o' G', I ρ' o' ∧ Stp ρ σ o G H ρ' σ' o' G' H' ∧ En K o' ρ' G' σ' H'
theorem xs_while {c : TT} {tb : TS} (I : Nat → RE) (m0 : Nat) (h0 : I m0 ρ o) (hs : ∀ m ρ' o', I m ρ' o' → XT K c ρ' o' fun b ρ1 o1 =>
      (b = true → XS K tb ρ1 o1 (fun ρ2 o2 => ∃ m', m' < m ∧ I m' ρ2 o2) R N (fun ρ2 o2 => ∃ m', m' < m ∧ I m' ρ2 o2)) ∧ (b = false → N ρ1 o1)) : XS K (tWhile c tb) ρ o N R B C := fun G σ H e D qn qr qb qc => by
  refine ⟨fun m σ' H' => LoopP K (I m) ρ σ o G H σ' H', ⟨m0, ρ, o, G, h0, Stp.refl, e⟩, ?_⟩
  rintro m σ1 H1 ⟨ρ1, o1, G1, i1, s1, e1⟩
  refine hs m ρ1 o1 i1 G1 σ1 H1 e1 _ fun b ρ2 o2 G2 H2 ⟨r1, r2⟩ s2 e2 => ?_
  have s12 := s1.trans s2
  cases b with
  | false => exact iteF (qn _ _ _ _ _ (r2 rfl) s12 e2)
  | true =>
    refine iteT ⟨fun σ' H' => ∃ m', m' < m ∧ LoopP K (I m') ρ σ o G H σ' H', fun _ _ h => h, ?_⟩
    exact r1 rfl G2 σ1 H2 e2 _ (fun _ _ _ _ _ ⟨m', hm, n⟩ s e => ⟨m', hm, _, _, _, n, s12.trans s, e⟩) (fun _ _ _ _ _ _ _ n s e ok fr => qr _ _ _ _ _ _ _ n (s12.trans s) e ok (fr.back s12))
      (fun _ _ _ _ _ n s e => qn _ _ _ _ _ n (s12.trans s) e) (fun _ _ _ _ _ ⟨m', hm, n⟩ s e => ⟨m', hm, _, _, _, n, s12.trans s, e⟩)
/-- for over a list that stands -/
theorem xs_forL {tl : TE} {g : TG} {tb : TS} (h : XEF K tl ρ o fun dv ρ1 o1 => ∃ ds, dv = .d (.list ds) ∧ ∃ I : Nat → RE, I 0 ρ1 o1 ∧
      (∀ k d ρ' o', ds[k]? = some d → I k ρ' o' → XG K g (.d d) ρ' o' fun ρ2 o2 => XS K tb ρ2 o2 (I (k + 1)) R N (I (k + 1))) ∧ ∀ ρ' o', I ds.length ρ' o' → N ρ' o') : XS K (tFor (iList K tl) g tb) ρ o N R B C := fun G σ H e D qn qr qb qc =>
  XE.seq h e fun v dv ρ1 o1 G1 H1 ⟨ds, hd, I, i0, it, ie⟩ s1 e1 ok fr => by
    subst hd
    cases ok with
    | @lst a xs _ hg hx =>
    refine ⟨a, rfl, ⟨xs, .inl (.inl (e1.wd.sub _ _ hg))⟩, ?_⟩
    refine for_list (xs := xs) (fun k σ' H' => ∃ ρ' o' G', I k ρ' o' ∧ Stp ρ σ o G H ρ' σ' o' G' H' ∧ En K o' ρ' G' σ' H' ∧ Sub G1 G') ⟨ρ1, o1, G1, i0, s1, e1, Sub.refl⟩ (fun k σ' H' _ ⟨ρ', o', G', _, _, e', sb⟩ => .inl (.inl (e'.wd.sub _ _ (sb _ _ hg)))) (fun k x σ' H' hk ⟨ρ', o', G', ik, s', e', sb⟩ => ?_) (fun σ' H' ⟨ρ', o', G', ik, s', e', sb⟩ => ?_)
    · obtain ⟨d, hd, rx⟩ := hx.get hk
      refine it k d ρ' o' hd ik G' σ' H' x e' (Rp.sub sb rx) _ fun ρ2 o2 G2 σ2 H2 r s2 e2 => ?_
      have s12 := s'.trans s2
      exact r G2 σ2 H2 e2 _ (fun _ _ _ _ _ n s e => ⟨_, _, _, n, s12.trans s, e, sb.trans (s2.g.trans s.g)⟩) (fun _ _ _ _ _ _ _ n s e ok fr => qr _ _ _ _ _ _ _ n (s12.trans s) e ok (fr.back s12))
        (fun _ _ _ _ _ n s e => qn _ _ _ _ _ n (s12.trans s) e) (fun _ _ _ _ _ n s e => ⟨_, _, _, n, s12.trans s, e, sb.trans (s2.g.trans s.g)⟩)
    · rw [hx.len] at ik
      exact qn _ _ _ _ _ (ie _ _ ik) s' e'
theorem xs_rng {lo : Int} {n : Nat} {g : TG} {tb : TS} {D : Ends} {G H : Hp} {σ : L2.St} (e : En K o ρ G σ H) (I : Nat → RE) (i0 : I 0 ρ o)
    (it : ∀ k ρ' o', k < n → I k ρ' o' → XG K g (.d (.int (lo + (k : Nat)))) ρ' o' fun ρ2 o2 => XS K tb ρ2 o2 (I (k + 1)) R N (I (k + 1))) (ie : ∀ ρ' o', I n ρ' o' → N ρ' o')
    (qn : ∀ ρ' o' G' σ' H', N ρ' o' → Stp ρ σ o G H ρ' σ' o' G' H' → En K o' ρ' G' σ' H' → D.nx σ' H')
    (qr : ∀ v dv ρ' o' G' σ' H', R dv ρ' o' → Stp ρ σ o G H ρ' σ' o' G' H' → En K o' ρ' G' σ' H' → VOk K o' ρ' G' σ' H' v dv → VFr ρ σ o H v dv → D.rt v H') :
    ∃ W : Nat → Nat → L2.St → Hp → Prop, (∃ m, W 0 m σ H) ∧ ∀ i m σ H, W i m σ H →
      ((Itr lo n).stop i H ∧ D.nx σ H) ∨ ((Itr lo n).go i H ∧ ∃ N : L2.St → Hp → Prop, (∀ σ' H', N σ' H' → ∃ m', m' < m ∧ W (i + 1) m' σ' H') ∧ ∀ x H', (Itr lo n).yld i H x H' → g x σ H' fun σ2 H2 => tb { D with nx := N, ct := N, bk := D.nx } σ2 H2) := by
  refine for_range (fun k σ' H' => LoopP K (I k) ρ σ o G H σ' H') ⟨ρ, o, G, i0, Stp.refl, e⟩ (fun k σ' H' hk ⟨ρ', o', G', ik, s', e'⟩ => ?_) (fun σ' H' ⟨ρ', o', G', ik, s', e'⟩ => qn _ _ _ _ _ (ie _ _ ik) s' e')
  refine it k ρ' o' hk ik G' σ' H' _ e' (.int _) _ fun ρ2 o2 G2 σ2 H2 r s2 e2 => ?_
  have s12 := s'.trans s2
  exact r G2 σ2 H2 e2 _ (fun _ _ _ _ _ n s e => ⟨_, _, _, n, s12.trans s, e⟩) (fun _ _ _ _ _ _ _ n s e ok fr => qr _ _ _ _ _ _ _ n (s12.trans s) e ok (fr.back s12))
        (fun _ _ _ _ _ n s e => qn _ _ _ _ _ n (s12.trans s) e) (fun _ _ _ _ _ n s e => ⟨_, _, _, n, s12.trans s, e⟩)
theorem xs_forR1 {g : TG} {tb : TS} (h : XA K T ρ o fun dvs ρ1 o1 => ∃ j : Int, dvs = [.d (.int j)] ∧ -(2 ^ 62) ≤ j ∧ j < 2 ^ 62 ∧ ∃ I : Nat → RE, I 0 ρ1 o1 ∧
      (∀ k ρ' o', k < j.toNat → I k ρ' o' → XG K g (.d (.int (0 + (k : Nat)))) ρ' o' fun ρ2 o2 => XS K tb ρ2 o2 (I (k + 1)) R N (I (k + 1))) ∧ ∀ ρ' o', I j.toNat ρ' o' → N ρ' o') : XS K (tFor (iRng1 T) g tb) ρ o N R B C := fun G σ H e D qn qr qb qc =>
  h G σ H e _ fun vs dvs ρ1 o1 G1 H1 ⟨j, hd, b1, b2, I, i0, it, ie⟩ s1 e1 ok => by
    subst hd
    cases ok with
    | cons h1 h2 =>
    cases h2
    cases h1
    exact ⟨j, rfl, b1, b2, xs_rng e1 I i0 it ie (fun _ _ _ _ _ n s e => qn _ _ _ _ _ n (s1.trans s) e) (fun _ _ _ _ _ _ _ n s e ok fr => qr _ _ _ _ _ _ _ n (s1.trans s) e ok (fr.back s1))⟩
end
end DL

set_option Elab.async false
set_option linter.all false
set_option maxRecDepth 100000
namespace DL
open PySem PySem.Spec PyProof.Rows L2

/-! ### promises -/
abbrev DS := List DV → Ob → (DV → Ob → Prop) → (Ex → Ob → Prop) → Prop
def spD (K : PySem.W.Frag) (S : DS) : Sp := fun vs H Q E => ∃ G o dvs R X, Wd o G H ∧ VAll K o [] G [] H vs dvs ∧ S dvs o R X ∧
  (∀ v dv o' G' H', R dv o' → Stp [] [] o G H [] [] o' G' H' → Wd o' G' H' → VOk K o' [] G' [] H' v dv → VFr [] [] o H v dv → Q v H') ∧
  (∀ cls fs d o' G' H', X (cls, fs) o' → Stp [] [] o G H [] [] o' G' H' → Wd o' G' H' → EOk K G' H' d fs → E cls d H')
theorem noOwn {a : Addr} : ¬ Own [] [] a := fun ⟨i, ⟨c, h⟩, _⟩ => by simp at h
def toSl : DV → Sl
  | .d x => .val x
  | .raw v => .raw v
  | _ => .no
/-- the names at the entry -/
def startD (n : Nat) (dvs : List DV) : List Sl := dvs.map toSl ++ List.replicate (n - dvs.length) .no
theorem startD_own {n : Nat} {dvs : List DV} {i : Nat} {c : Cont} : (startD n dvs)[i]? ≠ some (.own c) := fun h => by
  unfold startD at h
  by_cases hi : i < dvs.length
  · rw [List.getElem?_append_left (by simpa using hi), List.getElem?_map] at h
    cases q : dvs[i]? with
    | none => rw [q] at h; cases h
    | some d => rw [q] at h; cases d <;> cases h
  · rw [List.getElem?_append_right (by simpa using hi), List.getElem?_replicate] at h
    split at h <;> cases h
theorem noOwnS {n : Nat} {dvs : List DV} {σ : L2.St} {a : Addr} : ¬ Own (startD n dvs) σ a := fun ⟨i, ⟨c, h⟩, _⟩ => startD_own h
theorem VAll.len {K : PySem.W.Frag} {o : Ob} {ρ : List Sl} {G : Hp} {σ : L2.St} {H : Hp} : ∀ {vs : List V} {dvs : List DV}, VAll K o ρ G σ H vs dvs → vs.length = dvs.length
  | _, _, .nil => rfl
  | _, _, .cons _ t => congrArg (· + 1) (VAll.len t)
theorem VAll.at {K : PySem.W.Frag} {o : Ob} {ρ : List Sl} {G : Hp} {σ : L2.St} {H : Hp} : ∀ {vs : List V} {dvs : List DV} {i : Nat} {d : DV}, VAll K o ρ G σ H vs dvs → dvs[i]? = some d → ∃ v, vs[i]? = some v ∧ VOk K o ρ G σ H v d
  | _, _, _, _, .nil, e => by simp at e
  | _, _, 0, _, .cons r _, e => by simp at e; subst e; exact ⟨_, rfl, r⟩
  | _, _, i + 1, x, .cons _ t, e => by
    obtain ⟨u, h1, h2⟩ := VAll.at (i := i) (d := x) t (by simpa using e)
    exact ⟨u, by simpa using h1, h2⟩
theorem en_start {K : Kx} {o : Ob} {G H : Hp} {N : List Str} {vs : List V} {dvs : List DV} (w : Wd o G H) (a : VAll K o [] G [] H vs dvs) (wo : WOk K o (startD N.length dvs) G (L2.start N vs) H) : En K o (startD N.length dvs) G (L2.start N vs) H where
  wo := wo
  wd := w
  len := by
    unfold L2.start startD
    rw [List.length_append, List.length_append, List.length_map, List.length_map, List.length_replicate, List.length_replicate, a.len]
  sl := fun i s h => by
    unfold startD at h
    unfold L2.start
    by_cases hi : i < dvs.length
    · have hi' : i < vs.length := by rw [a.len]; exact hi
      rw [List.getElem?_append_left (by simpa using hi), List.getElem?_map] at h
      rw [List.getElem?_append_left (by simpa using hi'), List.getElem?_map]
      cases q : dvs[i]? with
      | none => rw [q] at h; cases h
      | some d =>
        rw [q] at h
        obtain ⟨v, hv, ok⟩ := a.at q
        rw [hv]
        cases h
        refine ⟨some v, rfl, ?_⟩
        cases d with
        | d x => exact ⟨v, rfl, ok⟩
        | raw u => have ok' : v = u := ok; subst ok'; rfl
        | sl _ _ => trivial
        | new _ => trivial
    · rw [List.getElem?_append_right (by simpa using hi), List.getElem?_replicate] at h
      split at h
      · rename_i hlt
        cases h
        have hi2 : ¬ i < vs.length := by rw [a.len]; exact hi
        rw [List.getElem?_append_right (by simpa using hi2), List.getElem?_replicate]
        have hlt' : i - (vs.map some).length < N.length - vs.length := by
          rw [List.length_map] at hlt ⊢
          rw [a.len]
          exact hlt
        rw [if_pos hlt']
        exact ⟨none, rfl, trivial⟩
      · cases h
  dis := fun i j p h _ => by obtain ⟨⟨c, h⟩, _⟩ := h; exact absurd h startD_own
  onf := fun p h => absurd h noOwnS
/-- how a value leaves a def -/
def OutR (R : DV → Ob → Prop) : RD := fun dv _ o => match dv with
  | .d x => R (.d x) o
  | .raw v => R (.raw v) o
  | .new c => R (.new c) o
  | .sl _ c => R (.new c) o
theorem Stp.bare {ρ ρ' : List Sl} {σ σ' : L2.St} {o o' : Ob} {G H G' H' : Hp} (s : Stp ρ σ o G H ρ' σ' o' G' H') (no : ∀ a, ¬ Own ρ σ a) : Stp [] [] o G H [] [] o' G' H' :=
  ⟨s.g, fun a x e h1 _ => s.h a x e h1 (no a), fun a e h h1 _ => s.n a e h h1 (no a), fun a h => (s.f a h).imp id fun q => q.imp id fun z => absurd z (no a), fun a h => absurd h noOwn⟩
section
variable {P : Program} {w : World} {K : PySem.W.Frag} {mg : Str → Option Value} {base : Heap}
/-- the body's end is the call's -/
theorem out_run {K : Kx} {N : List Str} {vs : List V} {dvs : List DV} {o : Ob} {G H : Hp} {R : DV → Ob → Prop} {Q : VK} {t : TS} (wd : Wd o G H) (a : VAll K o [] G [] H vs dvs)
    (q : ∀ v dv o' G' H', R dv o' → Stp [] [] o G H [] [] o' G' H' → Wd o' G' H' → VOk K o' [] G' [] H' v dv → VFr [] [] o H v dv → Q v H')
    (wo : WOk K o (startD N.length dvs) G (L2.start N vs) H)
    (hx : XS K t (startD N.length dvs) o (fun _ o' => R (.d .none) o') (OutR R) (fun _ _ => False) (fun _ _ => False)) : t { nx := fun _ H' => Q .non H', rt := Q } (L2.start N vs) H := by
  refine hx G (L2.start N vs) H (en_start wd a wo) _ (fun ρ' o' G' σ' H' n s e => ?_) (fun v dv ρ' o' G' σ' H' r s e ok fr => ?_) (fun _ _ _ _ _ z => z.elim) (fun _ _ _ _ _ z => z.elim)
  · exact q _ _ _ _ _ n (s.bare fun _ => noOwnS) e.wd .non trivial
  · have sb := s.bare fun _ => noOwnS
    cases dv with
    | d x => exact q _ _ _ _ _ r sb e.wd ok trivial
    | raw u => exact q _ _ _ _ _ r sb e.wd ok trivial
    | new c =>
      obtain ⟨p, y, rfl, g1, h1, ok, nf, _⟩ := ok
      exact q _ _ _ _ _ r sb e.wd ⟨p, y, rfl, g1, h1, ok, nf, noOwn⟩ fun p' hp => (fr p' hp).imp id fun z => z.imp id fun z => absurd z noOwnS
    | sl i c =>
      obtain ⟨p, y, k1, g1, h1, ok', nf⟩ := e.own_at ok.2
      have hv := ok.1
      rw [k1] at hv
      cases hv
      refine q _ _ _ _ _ r sb e.wd ⟨p, y, rfl, g1, h1, ok', nf, noOwn⟩ fun p' hp => ?_
      cases hp
      rcases s.w p ⟨i, ⟨c, ok.2⟩, k1⟩ with z | z | z
      · exact absurd z noOwnS
      · exact .inl z
      · exact .inr (.inl z)
/-- nothing is raised -/
abbrev KN (K : PySem.W.Frag) : Kx := ⟨K, fun _ _ _ _ => False, fun _ _ _ => False⟩
theorem wo_none {K : PySem.W.Frag} {W : WX} {o : Ob} {ρ : List Sl} {G : Hp} {σ : L2.St} {H : Hp} : WOk ⟨K, W, fun _ _ _ => False⟩ o ρ G σ H := fun _ _ _ _ _ _ _ _ z => z.elim
/-- THE RULE for a def, deeply -/
theorem fnD {x qual : Str} {st : Stmt} {f : Addr} {fd : FuncData} {N ps : List Str} {k : Nat} {S : DS} (F : Fun K x qual st f fd) (Sc : FnScope N ps (defScope st))
    (len : ∀ dvs o R X, S dvs o R X → dvs.length = ps.length)
    (hb : ∀ (cdv : Value) (A : Around) (outer : List Env) (s : Shared) (H : Hp) (E : XK), Room k (A.deeper (envOfC qual (defScope st) s.heap.objs.size f cdv)) →
      ∃ t, PSs (cxOf CX0 P w K mg base N qual (defScope st) f cdv A outer s H E).nox (defBody st) t ∧ ∀ dvs o R X, S dvs o R X → XS (KN K) t (startD N.length dvs) o (fun _ o' => R (.d .none) o') (OutR R) (fun _ _ => False) (fun _ _ => False)) :
    FnOk P w K mg base CX0 (k + 1) f fd ps (spD K S) := by
  refine F.ok Sc (fun vs H Q E ⟨G, o, dvs, R, X, _, a, h, _⟩ => by rw [a.len]; exact len dvs o R X h) fun cdv A outer s H vs Q E hr ⟨G, o, dvs, R, X, wd, a, h, q, _⟩ => ?_
  obtain ⟨t, ht, hx⟩ := hb cdv A outer s H E hr
  exact ⟨t, ht, out_run (K := KN K) wd a q wo_none (hx dvs o R X h)⟩
/-- .. for a def that may raise -/
theorem fnDX {x qual : Str} {st : Stmt} {f : Addr} {fd : FuncData} {N ps : List Str} {k : Nat} {S : DS} (F : Fun K x qual st f fd) (Sc : FnScope N ps (defScope st))
    (len : ∀ dvs o R X, S dvs o R X → dvs.length = ps.length)
    (hb : ∀ (cdv : Value) (A : Around) (outer : List Env) (s : Shared) (H : Hp) (E : XK), Room k (A.deeper (envOfC qual (defScope st) s.heap.objs.size f cdv)) →
      ∃ t, PSs (cxOf (L2.CX P w) P w K mg base N qual (defScope st) f cdv A outer s H E) (defBody st) t ∧ ∀ dvs o R X, S dvs o R X → XS ⟨K, fun cls d _ H => E cls d H, fun ex _ o' => X ex o'⟩ t (startD N.length dvs) o (fun _ o' => R (.d .none) o') (OutR R) (fun _ _ => False) (fun _ _ => False)) :
    FnOk P w K mg base (L2.CX P w) (k + 1) f fd ps (spD K S) := by
  refine F.okX Sc (fun vs H Q E ⟨G, o, dvs, R, X, _, a, h, _⟩ => by rw [a.len]; exact len dvs o R X h) fun cdv A outer s H vs Q E hr ⟨G, o, dvs, R, X, wd, a, h, q, qx⟩ => ?_
  obtain ⟨t, ht, hx⟩ := hb cdv A outer s H E hr
  exact ⟨t, ht, out_run (K := ⟨K, fun cls d _ H => E cls d H, fun ex _ o' => X ex o'⟩) wd a q (fun cls fs d ρ' o' G' σ' H' z s e ok => qx cls fs d o' G' H' z (s.bare fun _ => noOwnS) e.wd ok) (hx dvs o R X h)⟩
end

/-! ### calls -/
section
variable {K : Kx} {ρ : List Sl} {o : Ob} {R : RD} {N B C : RE} {te ta tb : TE} {tt : TT} {i : Nat} {T : TA}
theorem VAll.bare {G : Hp} {σ : L2.St} {H : Hp} {vs : List V} {dvs : List DV} (a : VAll K o ρ G σ H vs dvs) (h : ∀ d ∈ dvs, (∃ x, d = .d x) ∨ ∃ v, d = .raw v) : VAll K o [] G [] H vs dvs := by
  induction a with
  | nil => exact .nil
  | cons h1 _ ih =>
    refine .cons ?_ (ih fun d hd => h d (List.mem_cons_of_mem _ hd))
    rcases h _ List.mem_cons_self with ⟨x, rfl⟩ | ⟨v, rfl⟩
    · exact h1
    · exact h1
theorem call_run {S : DS} {E : XK} {Q : VK} {G H : Hp} {σ : L2.St} {G1 H1 : Hp} {ρ1 : List Sl} {o1 : Ob} {vs : List V} {dvs : List DV} (q : XQ K ρ o G σ H R Q) (hd : ∀ d ∈ dvs, (∃ x, d = .d x) ∨ ∃ v, d = .raw v) {Z : Ex → Ob → Prop}
    (r : S dvs o1 (fun dv o2 => R dv ρ1 o2) Z) (hz : ∀ cls fs d o2 G2 H2, Z (cls, fs) o2 → Stp ρ1 σ o1 G1 H1 ρ1 σ o2 G2 H2 → EnB K o2 ρ1 G2 σ H2 → EOk K G2 H2 d fs → E cls d H2)
    (s1 : Stp ρ σ o G H ρ1 σ o1 G1 H1) (e1 : En K o1 ρ1 G1 σ H1) (ok : VAll K o1 ρ1 G1 σ H1 vs dvs) : spD K S vs H1 Q E := by
    have stp : ∀ {o2 G2 H2}, Stp [] [] o1 G1 H1 [] [] o2 G2 H2 → Stp ρ1 σ o1 G1 H1 ρ1 σ o2 G2 H2 := fun {o2 G2 H2} s2 => ⟨s2.g, fun a x ex h1 _ => s2.h a x ex h1 noOwn, fun a ex h h1 _ => s2.n a ex h h1 noOwn, fun a h => (s2.f a h).imp id fun z => z.imp id fun z => absurd z noOwn, fun a h => .inl h⟩
    have en : ∀ {o2 G2 H2}, Stp [] [] o1 G1 H1 [] [] o2 G2 H2 → Wd o2 G2 H2 → En K o2 ρ1 G2 σ H2 := fun {o2 G2 H2} s2 w2 => e1.step (stp s2) w2 fun a ha => by
      obtain ⟨g, y, hy⟩ := e1.occ_own ha
      have nf := e1.onf a ha
      refine ⟨s2.n a g ⟨y, hy, e1.own_nt ha hy⟩ nf noOwn, (s2.h a y hy nf noOwn).trans hy.symm, fun z => ?_⟩
      rcases s2.f a z with q | q | q
      · exact nf q
      · rw [hy] at q; cases q
      · exact noOwn q
    refine ⟨G1, o1, dvs, _, _, e1.wd, ok.bare hd, r, fun v dv o2 G2 H2 r2 s2 w2 ok2 fr => ?_, fun cls fs d o2 G2 H2 z s2 w2 ek => hz cls fs d o2 G2 H2 z (stp s2) (en s2 w2).toEnB ek⟩
    have s2' := stp s2
    have e2 := en s2 w2
    have old : ∀ p, (H1 p = none ∨ o1.fp p ∨ Own [] [] p) → H1 p = none ∨ o1.fp p ∨ Own ρ1 σ p := fun p z => z.imp id fun z => z.imp id fun z => absurd z noOwn
    cases dv with
    | d x => exact q _ _ _ _ _ _ r2 (s1.trans s2') e2 ok2 trivial
    | raw u => exact q _ _ _ _ _ _ r2 (s1.trans s2') e2 ok2 trivial
    | sl _ _ => obtain ⟨z, _⟩ := ok2; simp at z
    | new c =>
      obtain ⟨p, y, rfl, g1, h1, ok, nf, _⟩ := ok2
      refine q _ _ _ _ _ _ r2 (s1.trans s2') e2 ⟨p, y, rfl, g1, h1, ok, nf, fun z => ?_⟩ fun p' hp => ?_
      · obtain ⟨g, y', hy⟩ := e1.occ_own z
        rcases fr p rfl with q | q | q
        · rw [hy] at q; cases q
        · exact e1.onf p z q
        · exact noOwn q
      · cases hp
        exact s1.old (old p (fr p rfl))
theorem xe_call {S : DS} {E : XK} (h : XAF K T ρ o fun dvs ρ1 o1 => S dvs o1 (fun dv o2 => R dv ρ1 o2) (fun _ _ => False)) : XE K (tCall (spD K S) [] E T) ρ o R := fun G σ H e Q q =>
  h G σ H e _ fun vs dvs ρ1 o1 G1 H1 ⟨hd, r⟩ s1 e1 ok => by
    show spD K S (vs ++ []) H1 Q E
    rw [List.append_nil]
    exact call_run q hd r (fun _ _ _ _ _ _ z => z.elim) s1 e1 ok
/-- a call that may raise -/
theorem xe_callS {S : DS} (h : XAF K T ρ o fun dvs ρ1 o1 => S dvs o1 (fun dv o2 => R dv ρ1 o2) (fun ex o2 => K.Z ex ρ1 o2)) : XE K (tCallS (spD K S) (WE K.W) T) ρ o R := fun G σ H e Q q =>
  h G σ H e _ fun vs dvs ρ1 o1 G1 H1 ⟨hd, r⟩ s1 e1 ok => call_run q hd r (fun cls fs d o2 G2 H2 z s2 e2 ek => e1.wo cls fs d ρ1 o2 G2 σ H2 z s2 e2 ek) s1 e1 ok
/-- a built-in by the values -/
def XC (K : Kx) (r : List V → Hp → VK → Prop) (dvs : List DV) (ρ : List Sl) (o : Ob) (R : RD) : Prop :=
  ∀ G σ H vs, En K o ρ G σ H → VAll K o ρ G σ H vs dvs → ∀ Q, XQ K ρ o G σ H R Q → r vs H Q
theorem xe_cb {r : List V → Hp → VK → Prop} (h : XA K T ρ o fun dvs ρ1 o1 => XC K r dvs ρ1 o1 R) : XE K (tCB r T) ρ o R := fun G σ H e Q q =>
  h G σ H e _ fun vs dvs ρ1 o1 G1 H1 r1 s1 e1 ok => r1 G1 σ H1 vs e1 ok Q fun v dv ρ2 o2 G2 H2 r s e ok fr => q _ _ _ _ _ _ r (s1.trans s) e ok (fr.back s1)
theorem va1 {G : Hp} {σ : L2.St} {H : Hp} {vs : List V} {d : DV} (a : VAll K o ρ G σ H vs [d]) : ∃ v, vs = [v] ∧ VOk K o ρ G σ H v d := by
  cases a with
  | cons h t => cases t; exact ⟨_, rfl, h⟩
theorem va2 {G : Hp} {σ : L2.St} {H : Hp} {vs : List V} {d e : DV} (a : VAll K o ρ G σ H vs [d, e]) : ∃ v u, vs = [v, u] ∧ VOk K o ρ G σ H v d ∧ VOk K o ρ G σ H u e := by
  cases a with
  | cons h t => obtain ⟨u, rfl, k⟩ := va1 t; exact ⟨_, _, rfl, h, k⟩
theorem xc_lenS {z : Str} (c : z.length ≤ sizeLine) (r : R (.d (.int z.length)) ρ o) : XC K (fun xs H Q => ∃ x n, xs = [x] ∧ LenV K x H n ∧ Q (.int (n : Nat)) H) [.d (.str z)] ρ o R := fun G σ H vs e h0 Q q => by
  obtain ⟨v, rfl, h⟩ := va1 h0
  cases vok_str h
  exact ⟨_, z.length, rfl, ⟨c, rfl⟩, xq_now q e r (.int _)⟩
theorem xc_lenL {d : DV} {ds : List PyData} (l : IsL ρ d ds) (r : R (.d (.int ds.length)) ρ o) : XC K (fun xs H Q => ∃ x n, xs = [x] ∧ LenV K x H n ∧ Q (.int (n : Nat)) H) [d] ρ o R := fun G σ H vs e h0 Q q => by
  obtain ⟨v, rfl, h⟩ := va1 h0
  obtain ⟨p, xs, rfl, hp, ok⟩ := l.at e h
  refine ⟨_, xs.length, rfl, .inl ⟨xs, .inl (.inl hp), rfl⟩, ?_⟩
  rw [ok.len]
  exact xq_now q e r (.int _)
theorem xc_lenT {ds : List PyData} (r : R (.d (.int ds.length)) ρ o) : XC K (fun xs H Q => ∃ x n, xs = [x] ∧ LenV K x H n ∧ Q (.int (n : Nat)) H) [.d (.tuple ds)] ρ o R := fun G σ H vs e h0 Q q => by
  obtain ⟨v, rfl, h⟩ := va1 h0
  cases h with
  | @tup a xs _ h1 h2 =>
  refine ⟨_, xs.length, rfl, .inr ⟨xs, SqT.sub e.wd.sub h1, rfl⟩, ?_⟩
  rw [h2.len]
  exact xq_now q e r (.int _)
theorem xc_min2 {a b : Int} (r : R (.d (.int (if b < a then b else a))) ρ o) : XC K (fun xs H Q => ∃ i j, xs = [.int i, .int j] ∧ Q (.int (if j < i then j else i)) H) [.d (.int a), .d (.int b)] ρ o R := fun G σ H vs e h Q q => by
  obtain ⟨v, u, rfl, h1, h2⟩ := va2 h
  cases vok_int h1
  cases vok_int h2
  exact ⟨a, b, rfl, xq_now q e r (.int _)⟩
theorem xc_max2 {a b : Int} (r : R (.d (.int (if b > a then b else a))) ρ o) : XC K (fun xs H Q => ∃ i j, xs = [.int i, .int j] ∧ Q (.int (if j > i then j else i)) H) [.d (.int a), .d (.int b)] ρ o R := fun G σ H vs e h Q q => by
  obtain ⟨v, u, rfl, h1, h2⟩ := va2 h
  cases vok_int h1
  cases vok_int h2
  exact ⟨a, b, rfl, xq_now q e r (.int _)⟩
/-! ### methods -/
def TyD (T : String) : DV → Prop
  | .d (.str _) => T = "str"
  | .d (.list _) => T = "list"
  | .sl _ (.lst _) => T = "list"
  | .new (.lst _) => T = "list"
  | _ => False
theorem TyD.ok {T : String} {d : DV} (t : TyD T d) {G : Hp} {σ : L2.St} {H : Hp} {x : V} (e : En K o ρ G σ H) (h : VOk K o ρ G σ H x d) : tyV K T x H := by
  have lst : ∀ {d : DV} {ds : List PyData}, IsL ρ d ds → T = "list" → VOk K o ρ G σ H x d → tyV K T x H := fun {d ds} l ht h => by
    obtain ⟨p, xs, rfl, hp, _⟩ := l.at e h
    exact .inl ⟨ht, xs, .inl (.inl hp)⟩
  cases d with
  | d z => cases z <;> first | exact t.elim | (cases vok_str h; exact t) | exact lst (d := .d (.list _)) rfl t h
  | raw _ => exact t.elim
  | sl i c => cases c <;> first | exact t.elim | exact lst (d := .sl _ (.lst _)) rfl t h
  | new c => cases c <;> first | exact t.elim | exact lst (d := .new (.lst _)) rfl t h
def XM (K : Kx) (r : V → List V → Hp → VK → Prop) (a : DV) (bs : List DV) (ρ : List Sl) (o : Ob) (R : RD) : Prop :=
  ∀ G σ H x vs, En K o ρ G σ H → VOk K o ρ G σ H x a → VAll K o ρ G σ H vs bs → ∀ Q, XQ K ρ o G σ H R Q → r x vs H Q
theorem xe_bm {Ty : String} {r : V → List V → Hp → VK → Prop} {to : TE} (h : XE K to ρ o fun a ρ1 o1 => TyD Ty a ∧ XA K T ρ1 o1 fun bs ρ2 o2 => Kept ρ2 a ∧ XM K r a bs ρ2 o2 R) : XE K (tBM K Ty r to T) ρ o R := fun G σ H e Q q =>
  h.seq e fun x a ρ1 o1 G1 H1 ⟨ty, r1⟩ s1 e1 ok1 fr1 => ⟨ty.ok e1 ok1, r1 G1 σ H1 e1 _ fun vs bs ρ2 o2 G2 H2 ⟨kp, r2⟩ s2 e2 ok2 =>
    r2 G2 σ H2 x vs e2 (ok1.step s2 kp) ok2 Q fun v dv ρ3 o3 G3 H3 r s e ok fr => q _ _ _ _ _ _ r ((s1.trans s2).trans s) e ok (fr.back (s1.trans s2))⟩
theorem xe_bmF {Ty : String} {r : V → List V → Hp → VK → Prop} {to : TE} (h : XE K to ρ o fun a ρ1 o1 => TyD Ty a ∧ XAF K T ρ1 o1 fun bs ρ2 o2 => Kept ρ2 a ∧ XM K r a bs ρ2 o2 R) : XE K (tBM K Ty r to T) ρ o R :=
  xe_bm (XE.mono h fun a ρ1 o1 ⟨ty, h⟩ => ⟨ty, XA.mono h fun bs ρ2 o2 ⟨_, h⟩ => h⟩)
theorem xe_bm0 {Ty : String} {r : V → List V → Hp → VK → Prop} {to : TE} (h : XE K to ρ o fun a ρ1 o1 => TyD Ty a ∧ XM K r a [] ρ1 o1 R) : XE K (tBM0 K Ty r to) ρ o R := fun G σ H e Q q =>
  h.seq e fun x a ρ1 o1 G1 H1 ⟨ty, r1⟩ s1 e1 ok1 fr1 => ⟨ty.ok e1 ok1, r1 G1 σ H1 x [] e1 ok1 .nil Q fun v dv ρ3 o3 G3 H3 r s e ok fr => q _ _ _ _ _ _ r (s1.trans s) e ok (fr.back s1)⟩
theorem xm_append {ds : List PyData} {d : PyData} (c : ds.length < sizeLine) (h : ρ[i]? = some (.own (.lst ds))) (r : R (.d .none) (ρ.set i (.own (.lst (ds ++ [d])))) o) : XM K rAppend (.sl i (.lst ds)) [.d d] ρ o R := fun G σ H x vs e hx hv0 Q q => by
  obtain ⟨v, rfl, hv⟩ := va1 hv0
  obtain ⟨p, y, k1, g1, h1, ok, nf⟩ := e.own_at hx.2
  have hs := hx.1
  rw [k1] at hs
  cases hs
  obtain ⟨xs, rfl⟩ : ∃ xs, y = .lst xs := by cases y <;> first | exact ⟨_, rfl⟩ | exact ok.elim
  have ok : RpAll K G xs ds := ok
  have ok2 : COk K G (.lst (xs ++ [v])) (.lst (ds ++ [d])) := ok.append (.cons hv .nil)
  exact ⟨p, xs, v, rfl, rfl, h1, by rw [ok.len]; exact c, q _ _ _ _ _ _ r (e.mut hx.2 k1 ok2).2 (e.mut hx.2 k1 ok2).1 .non trivial⟩
theorem xm_s2i {f : Str → Str → Int → Int} {a b : Str} {n : Int} (r : R (.d (.int (f a b n))) ρ o) : XM K (fun x xs H Q => ∃ (a b : Str) (i : Int), x = .str a ∧ xs = [.str b, .int i] ∧ Q (.int (f a b i)) H) (.d (.str a)) [.d (.str b), .d (.int n)] ρ o R := fun G σ H x vs e hx hv0 Q q => by
  obtain ⟨v, u, rfl, hv, hu⟩ := va2 hv0
  cases vok_str hx
  cases vok_str hv
  cases vok_int hu
  exact ⟨a, b, n, rfl, rfl, xq_now q e r (.int _)⟩

/-! ### subscripts, slices -/
theorem atI_rep {G : Hp} {xs : List V} {ds : List PyData} (ok : RpAll K G xs ds) {n : Int} {d : PyData} (h : atI ds n = some d) : ∃ x, atI xs n = some x ∧ Rp K G x d := by
  unfold atI at h ⊢
  rw [ok.len]
  cases q : ixN ds.length n with
  | none => rw [q] at h; cases h
  | some j =>
    rw [q] at h
    exact ok.get' h
theorem xr_ixL {a : DV} {ds : List PyData} {n : Int} {d : PyData} (l : IsL ρ a ds) (h : atI ds n = some d) (r : R (.d d) ρ o) : XR K (rIx K) a (.d (.int n)) ρ o R := fun G σ H x y e h1 h2 Q q => by
  obtain ⟨p, xs, rfl, hp, ok⟩ := l.at e h1
  cases vok_int h2
  obtain ⟨v, hv, rv⟩ := atI_rep ok h
  exact .inl ⟨p, xs, n, v, rfl, rfl, .inl (.inl hp), hv, xq_now q e r rv⟩
theorem xr_ixT {ds : List PyData} {n : Int} {d : PyData} (h : atI ds n = some d) (r : R (.d d) ρ o) : XR K (rIx K) (.d (.tuple ds)) (.d (.int n)) ρ o R := fun G σ H x y e h1 h2 Q q => by
  cases h1 with
  | @tup p xs _ hp ok =>
  cases vok_int h2
  obtain ⟨v, hv, rv⟩ := atI_rep ok h
  exact .inr (.inl ⟨p, xs, n, v, rfl, rfl, SqT.sub e.wd.sub hp, hv, xq_now q e r rv⟩)
theorem xr_ixS {z : Str} {n : Int} {c : Nat} (hl : z.length ≤ sizeLine) (h : atI z.cps.toList n = some c) (r : R (.d (.str ⟨#[c]⟩)) ρ o) : XR K (rIx K) (.d (.str z)) (.d (.int n)) ρ o R := fun G σ H x y e h1 h2 Q q => by
  cases vok_str h1
  cases vok_int h2
  exact .inr (.inr ⟨z, n, c, rfl, rfl, hl, h, xq_now q e r (.str _)⟩)
/-- a part of a slice -/
def XO (K : Kx) (to : TO) (ρ : List Sl) (o : Ob) (R : Option Int → RE) : Prop :=
  ∀ G σ H, En K o ρ G σ H → ∀ Q : Option Int → Hp → Prop, (∀ b ρ' o' G' H', R b ρ' o' → Stp ρ σ o G H ρ' σ o' G' H' → En K o' ρ' G' σ H' → Q b H') → to σ H Q
theorem xo_no {R : Option Int → RE} (r : R none ρ o) : XO K tNoPart ρ o R := fun G σ H e Q q => q _ _ _ _ _ r Stp.refl e
theorem xo_part {R : Option Int → RE} (h : XE K te ρ o fun dv ρ1 o1 => ∃ n, dv = .d (.int n) ∧ R (some n) ρ1 o1) : XO K (tPart te) ρ o R := fun G σ H e Q q =>
  h.seq e fun v dv ρ1 o1 G1 H1 ⟨n, hd, r⟩ s1 e1 ok fr => by subst hd; exact ⟨n, vok_int ok, q _ _ _ _ _ r s1 e1⟩
def XSl (K : Kx) (r : V → Option Int → Option Int → Hp → VK → Prop) (a : DV) (l u : Option Int) (ρ : List Sl) (o : Ob) (R : RD) : Prop :=
  ∀ G σ H x, En K o ρ G σ H → VOk K o ρ G σ H x a → ∀ Q, XQ K ρ o G σ H R Q → r x l u H Q
theorem xe_sl {r : V → Option Int → Option Int → Hp → VK → Prop} {tl th : TO} (h : XE K te ρ o fun a ρ1 o1 => XO K tl ρ1 o1 fun l ρ2 o2 => XO K th ρ2 o2 fun u ρ3 o3 => Kept ρ3 a ∧ XSl K r a l u ρ3 o3 R) : XE K (tSl r te tl th) ρ o R := fun G σ H e Q q =>
  h.seq e fun x a ρ1 o1 G1 H1 r1 s1 e1 ok1 fr1 => r1 G1 σ H1 e1 _ fun l ρ2 o2 G2 H2 r2 s2 e2 => r2 G2 σ H2 e2 _ fun u ρ3 o3 G3 H3 ⟨kp, r3⟩ s3 e3 =>
    r3 G3 σ H3 x e3 (ok1.step (s2.trans s3) kp) Q fun v dv ρ4 o4 G4 H4 r s e ok fr => q _ _ _ _ _ _ r ((s1.trans (s2.trans s3)).trans s) e ok (fr.back (s1.trans (s2.trans s3)))
theorem xsl_or1 {r r' : V → Option Int → Option Int → Hp → VK → Prop} {a : DV} {l u : Option Int} (h : XSl K r a l u ρ o R) : XSl K (fun x lo hi H Q => r x lo hi H Q ∨ r' x lo hi H Q) a l u ρ o R := fun G σ H x e h1 Q q => .inl (h G σ H x e h1 Q q)
theorem xsl_str {z : Str} {l u : Option Int} (hl : z.length ≤ sizeLine) (r : R (.d (.str (cutS z l u))) ρ o) : XSl K rSlS (.d (.str z)) l u ρ o R := fun G σ H x e h1 Q q => by
  cases vok_str h1
  exact ⟨z, rfl, hl, xq_now q e r (.str _)⟩
/-- a slice of data -/
def cutD (xs : List PyData) (lo hi : Option Int) : List PyData := (xs.drop (HT.sIx xs.length 0 lo)).take (HT.sIx xs.length xs.length hi - HT.sIx xs.length 0 lo)
/-! ### more loops -/
/-- for over a text -/
theorem xs_forS {tl : TE} {g : TG} {tb : TS} (h : XE K tl ρ o fun dv ρ1 o1 => ∃ z, dv = .d (.str z) ∧ ∃ I : Nat → RE, I 0 ρ1 o1 ∧
      (∀ k c ρ' o', z.cps[k]? = some c → I k ρ' o' → XG K g (.d (.str ⟨#[c]⟩)) ρ' o' fun ρ2 o2 => XS K tb ρ2 o2 (I (k + 1)) R N (I (k + 1))) ∧ ∀ ρ' o', I z.cps.size ρ' o' → N ρ' o') : XS K (tFor (iStr tl) g tb) ρ o N R B C := fun G σ H e D qn qr qb qc =>
  XE.seq h e fun v dv ρ1 o1 G1 H1 ⟨z, hd, I, i0, it, ie⟩ s1 e1 ok fr => by
    subst hd
    cases vok_str ok
    refine ⟨z, rfl, fun k m σ' H' => m = z.cps.size - k ∧ k ≤ z.cps.size ∧ LoopP K (I k) ρ σ o G H σ' H', ⟨_, rfl, Nat.zero_le _, ρ1, o1, G1, i0, s1, e1⟩, ?_⟩
    rintro k m σ1 H2 ⟨rfl, hk, ρ', o', G', ik, s', e'⟩
    by_cases hlt : k < z.cps.size
    · refine .inr ⟨hlt, LoopP K (I (k + 1)) ρ σ o G H, fun σ' H' p => ⟨z.cps.size - (k + 1), by omega, rfl, hlt, p⟩, fun x H3 y => ?_⟩
      obtain ⟨rfl, c, hc, rfl⟩ := y
      refine it k c ρ' o' hc ik G' σ1 _ _ e' (.str _) _ fun ρ2 o2 G2 σ2 H4 r s2 e2 => ?_
      have s12 := s'.trans s2
      exact r G2 σ2 H4 e2 _ (fun _ _ _ _ _ n s e => ⟨_, _, _, n, s12.trans s, e⟩) (fun _ _ _ _ _ _ _ n s e ok fr => qr _ _ _ _ _ _ _ n (s12.trans s) e ok (fr.back s12))
        (fun _ _ _ _ _ n s e => qn _ _ _ _ _ n (s12.trans s) e) (fun _ _ _ _ _ n s e => ⟨_, _, _, n, s12.trans s, e⟩)
    · have ek : k = z.cps.size := by omega
      subst ek
      exact .inl ⟨Nat.le_refl _, qn _ _ _ _ _ (ie _ _ ik) s' e'⟩
end
end DL

set_option Elab.async false
set_option linter.all false
set_option maxRecDepth 100000
namespace DL
open PySem PySem.Spec PyProof.Rows L2

/-! ### operators that look at their values -/
def rAddU (K : PySem.W.Frag) : R2 := fun x y H Q => rI0 (fun i j => .int (i + j)) x y H Q ∨ (fun x y H Q => (∃ i j, x = V.str i ∧ y = V.str j ∧ i.length + j.length ≤ sizeLine ∧ Q (V.str (i ++ j)) H) ∨ (rCat x y H Q ∨ rCatT K x y H Q)) x y H Q
theorem op_addU {X : Cx} : OpR X (binaryOp .Add) (rAddU X.K) := op_add.or (op_add_str.or (op_cat.or op_catT))
def rEqU (K : PySem.W.Frag) : R2 := fun x y H Q => rEq x y H Q ∨ rEqD K x y H Q
def rNeU (K : PySem.W.Frag) : R2 := fun x y H Q => rNe x y H Q ∨ rNeD K x y H Q
theorem op_eqU {X : Cx} (hu : X.A.units + 64 < cLine) : OpR X (compareOp .Eq) (rEqU X.K) := op_eq.or (op_eqD hu)
theorem op_neU {X : Cx} (hu : X.A.units + 64 < cLine) : OpR X (compareOp .NotEq) (rNeU X.K) := op_ne.or (op_neD hu)
def rLtU : R2 := fun x y H Q => rI0 (fun i j => .bl (decide (i < j))) x y H Q ∨ (∃ i j, x = V.str i ∧ y = V.str j ∧ Q (V.bl (decide (i.cps.toList < j.cps.toList))) H)
theorem op_ltU {X : Cx} : OpR X (compareOp .Lt) rLtU := op_lt.or op_lt_str
def rLeU : R2 := fun x y H Q => rI0 (fun i j => .bl (decide (i ≤ j))) x y H Q ∨ (∃ i j, x = V.str i ∧ y = V.str j ∧ Q (V.bl (!decide (j.cps.toList < i.cps.toList))) H)
theorem op_leU {X : Cx} : OpR X (compareOp .LtE) rLeU := op_le.or op_le_str
def rMulU : R2 := fun x y H Q => rI CMul (fun i j => .int (i * j)) x y H Q ∨ rRep x y H Q
theorem op_mulU {X : Cx} : OpR X (binaryOp .Mult) rMulU := op_mul.or op_rep
def rSlU (K : PySem.W.Frag) : V → Option Int → Option Int → Hp → VK → Prop := fun x lo hi H Q => rSlS x lo hi H Q ∨ (fun x lo hi H Q => rSlL K x lo hi H Q ∨ rSlT K x lo hi H Q) x lo hi H Q
theorem sl_U {X : Cx} : SlR X (rSlU X.K) := sl_str.or (sl_list.or sl_tup)
def rInU (K : PySem.W.Frag) : R2 := fun x y H Q => (∃ (c : Nat) (z : Str), x = V.str ⟨#[c]⟩ ∧ y = V.str z ∧ Q (V.bl (decide (c ∈ z.cps.toList))) H) ∨ (fun x y H Q => rIn K false x y H Q ∨ (∃ i j, x = V.str i ∧ y = V.str j ∧ Q (V.bl (!(Builtin.Str.occurrences j i 0 j.length 1).isEmpty)) H)) x y H Q
theorem op_inU {X : Cx} : OpR X (compareOp .In) (rInU X.K) := op_in_sign.or (op_in_seq.or op_in_str)
def rNotInU (K : PySem.W.Frag) : R2 := fun x y H Q => (∃ (c : Nat) (z : Str), x = V.str ⟨#[c]⟩ ∧ y = V.str z ∧ Q (V.bl (!decide (c ∈ z.cps.toList))) H) ∨ (fun x y H Q => rIn K true x y H Q ∨ (∃ i j, x = V.str i ∧ y = V.str j ∧ Q (V.bl (!(!(Builtin.Str.occurrences j i 0 j.length 1).isEmpty))) H)) x y H Q
theorem op_notInU {X : Cx} : OpR X (compareOp .NotIn) (rNotInU X.K) := op_notIn_sign.or (op_notIn_seq.or op_notin_str)
theorem pip_or {X : Cx} {op : Operator} {t t' : TIp} (h : PIp X op t) (h' : PIp X op t') : PIp X op (fun x y H Q => t x y H Q ∨ t' x y H Q) := by
  intro pins s σ H x y v u Q I r1 r2 q
  rcases q with q | q
  · exact h pins s σ H x y v u Q I r1 r2 q
  · exact h' pins s σ H x y v u Q I r1 r2 q
def ipAddU : TIp := fun x y H Q => ipI (fun i j => i + j) x y H Q ∨ (∃ i j, x = V.str i ∧ y = V.str j ∧ i.length + j.length ≤ sizeLine ∧ Q (V.str (i ++ j)) H)
theorem ip_addU {X : Cx} : PIp X .Add ipAddU := pip_or ip_add (fun pins s σ H x y v u Q I r1 r2 h => iop_add_str pins s σ H x y v u Q I r1 r2 h)

/-! ### the same with the written part under its name (within a comprehension) -/
section
variable {X : Cx} {K : PySem.W.Frag}
theorem op_addK (h : X.K = K) : OpR X (binaryOp .Add) (rAddU K) := h ▸ op_addU
theorem op_eqK (h : X.K = K) (hu : X.A.units + 64 < cLine) : OpR X (compareOp .Eq) (rEqU K) := h ▸ op_eqU hu
theorem op_neK (h : X.K = K) (hu : X.A.units + 64 < cLine) : OpR X (compareOp .NotEq) (rNeU K) := h ▸ op_neU hu
theorem sl_K (h : X.K = K) : SlR X (rSlU K) := h ▸ sl_U
theorem op_inK (h : X.K = K) : OpR X (compareOp .In) (rInU K) := h ▸ op_inU
theorem op_notInK (h : X.K = K) : OpR X (compareOp .NotIn) (rNotInU K) := h ▸ op_notInU
theorem ix_K (h : X.K = K) : IxR X (rIx K) := h ▸ ix_seq
theorem call_lenK (h : X.K = K) : CallR X (.builtin "len") (fun xs H Q => ∃ x n, xs = [x] ∧ LenV K x H n ∧ Q (.int (n : Nat)) H) := h ▸ call_len
theorem call_isiK (h : X.K = K) : CallR X (.builtin "isinstance") (rIsi K) := h ▸ call_isi
theorem mt_joinK (h : X.K = K) : MtR X "str.join" (fun x xs H Q => ∃ a p, ∃ ys : List Str, x = .str a ∧ xs = [.ref p] ∧ (SqL K H p (ys.map V.str) ∨ SqT K H p (ys.map V.str)) ∧ (ys.map (·.length)).sum + ys.length * a.length ≤ 16777216 ∧ Q (.str (Txt.join a ys)) H) := h ▸ mt_join
theorem call_tupK (h : X.K = K) : CallR X (.type "tuple") (fun xs H Q => ∃ p ys, xs = [.ref p] ∧ ((SqL K H p ys ∧ ∀ l, H l = none → Q (.ref l) (upd H l (.tup ys))) ∨ (SqT K H p ys ∧ Q (.ref p) H))) := h ▸ call_tuple_of
theorem pi_listK {tg e : Expr} {te : TE} (h : X.K = K) (H : PI X tg e (iList X.K te)) : PI X tg e (iList K te) := h ▸ H
theorem pg_tupK {e : Expr} {t : TGs} {n : Nat} (h : X.K = K) (H : PG X e (gTup X.K n t)) : PG X e (gTup K n t) := h ▸ H
theorem pe_bmK {T : String} {e : Expr} {to : TE} {t : TA} {r : V → List V → Hp → VK → Prop} (h : X.K = K) (H : PE X e (tBM X.K T r to t)) : PE X e (tBM K T r to t) := h ▸ H
theorem pe_bm0K {T : String} {e : Expr} {to : TE} {r : V → List V → Hp → VK → Prop} (h : X.K = K) (H : PE X e (tBM0 X.K T r to)) : PE X e (tBM0 K T r to) := h ▸ H
end
section
variable {K : Kx} {ρ : List Sl} {o : Ob} {R : RD} {N B C : RE} {te ta tb tc : TE} {tt : TT} {i : Nat} {T : TA}
theorem xr_addI {m n : Int} (r : R (.d (.int (m + n))) ρ o) : XR K (rAddU K) (.d (.int m)) (.d (.int n)) ρ o R := xr_or1 (xr_i0 (g := fun i j => i + j) r)
theorem xr_addS {m n : Str} (c : m.length + n.length ≤ sizeLine) (r : R (.d (.str (m ++ n))) ρ o) : XR K (rAddU K) (.d (.str m)) (.d (.str n)) ρ o R := xr_or2 (xr_or1 (xr_catS c r))
theorem xr_addL {a b : DV} {m n : List PyData} (ha : IsL ρ a m) (hb : IsL ρ b n) (c : m.length + n.length ≤ sizeLine) (r : R (.new (.lst (m ++ n))) ρ o) : XR K (rAddU K) a b ρ o R := xr_or2 (xr_or2 (xr_or1 (xr_catL ha hb c r)))
theorem xr_sub {m n : Int} (r : R (.d (.int (m - n))) ρ o) : XR K (rI0 fun i j => .int (i - j)) (.d (.int m)) (.d (.int n)) ρ o R := xr_i0 (g := fun i j => i - j) r
theorem xr_mulI {m n : Int} (c : CMul m n) (r : R (.d (.int (m * n))) ρ o) : XR K rMulU (.d (.int m)) (.d (.int n)) ρ o R := xr_or1 (xr_iC (g := fun i j => i * j) c r)
theorem xr_fdiv {m n : Int} (c : CDivN m n) (r : R (.d (.int (m.fdiv n))) ρ o) : XR K (rI CDivN fun i j => .int (i.fdiv j)) (.d (.int m)) (.d (.int n)) ρ o R := xr_iC (g := fun i j => i.fdiv j) c r
theorem xr_fmod {m n : Int} (c : n ≠ 0) (r : R (.d (.int (m.fmod n))) ρ o) : XR K (rI (fun _ j => j ≠ 0) fun i j => .int (i.fmod j)) (.d (.int m)) (.d (.int n)) ρ o R := xr_iC (g := fun i j => i.fmod j) (C := fun _ j => j ≠ 0) c r
theorem xr_ltI {m n : Int} (r : R (.d (.bool (decide (m < n)))) ρ o) : XR K rLtU (.d (.int m)) (.d (.int n)) ρ o R := xr_or1 (xr_b0 (g := fun i j => decide (i < j)) r)
theorem xr_leI {m n : Int} (r : R (.d (.bool (decide (m ≤ n)))) ρ o) : XR K rLeU (.d (.int m)) (.d (.int n)) ρ o R := xr_or1 (xr_b0 (g := fun i j => decide (i ≤ j)) r)
theorem xr_gtI {m n : Int} (r : R (.d (.bool (decide (n < m)))) ρ o) : XR K (rI0 fun i j => .bl (decide (j < i))) (.d (.int m)) (.d (.int n)) ρ o R := xr_b0 (g := fun i j => decide (j < i)) r
theorem xr_geI {m n : Int} (r : R (.d (.bool (decide (n ≤ m)))) ρ o) : XR K (rI0 fun i j => .bl (decide (j ≤ i))) (.d (.int m)) (.d (.int n)) ρ o R := xr_b0 (g := fun i j => decide (j ≤ i)) r
theorem xr_leS {m n : Str} (r : R (.d (.bool (!decide (n.cps.toList < m.cps.toList)))) ρ o) : XR K rLeU (.d (.str m)) (.d (.str n)) ρ o R := xr_or2 fun G σ H x y e h1 h2 Q q =>
  ⟨m, n, vok_str h1, vok_str h2, xq_now q e r (.bl _)⟩
theorem xr_eqI {m n : Int} (r : R (.d (.bool (decide (m = n)))) ρ o) : XR K (rEqU K) (.d (.int m)) (.d (.int n)) ρ o R := xr_or1 fun G σ H x y e h1 h2 Q q => by
  cases vok_int h1
  cases vok_int h2
  refine ⟨rfl, ?_⟩
  rw [show decide ((V.int m) = V.int n) = decide (m = n) by
    by_cases h : m = n
    · subst h; simp
    · simp [h]]
  exact xq_now q e r (.bl _)
theorem xr_eqS {m n : Str} (r : R (.d (.bool (decide (m = n)))) ρ o) : XR K (rEqU K) (.d (.str m)) (.d (.str n)) ρ o R := xr_or1 fun G σ H x y e h1 h2 Q q => by
  cases vok_str h1
  cases vok_str h2
  refine ⟨rfl, ?_⟩
  rw [show decide ((V.str m) = V.str n) = decide (m = n) by
    by_cases h : m = n
    · subst h; simp
    · simp [h]]
  exact xq_now q e r (.bl _)
theorem xr_eqB {m n : Bool} (r : R (.d (.bool (decide (m = n)))) ρ o) : XR K (rEqU K) (.d (.bool m)) (.d (.bool n)) ρ o R := xr_or1 fun G σ H x y e h1 h2 Q q => by
  cases vok_bl h1
  cases vok_bl h2
  refine ⟨rfl, ?_⟩
  rw [show decide ((V.bl m) = V.bl n) = decide (m = n) by cases m <;> cases n <;> rfl]
  exact xq_now q e r (.bl _)
theorem xr_neI {m n : Int} (r : R (.d (.bool (!decide (m = n)))) ρ o) : XR K (rNeU K) (.d (.int m)) (.d (.int n)) ρ o R := xr_or1 fun G σ H x y e h1 h2 Q q => by
  cases vok_int h1
  cases vok_int h2
  refine ⟨rfl, ?_⟩
  rw [show decide ((V.int m) = V.int n) = decide (m = n) by
    by_cases h : m = n
    · subst h; simp
    · simp [h]]
  exact xq_now q e r (.bl _)
theorem xr_neS {m n : Str} (r : R (.d (.bool (!decide (m = n)))) ρ o) : XR K (rNeU K) (.d (.str m)) (.d (.str n)) ρ o R := xr_or1 fun G σ H x y e h1 h2 Q q => by
  cases vok_str h1
  cases vok_str h2
  refine ⟨rfl, ?_⟩
  rw [show decide ((V.str m) = V.str n) = decide (m = n) by
    by_cases h : m = n
    · subst h; simp
    · simp [h]]
  exact xq_now q e r (.bl _)
theorem VOk.dp {G : Hp} {σ : L2.St} {H : Hp} {x : V} {d : PyData} (e : En K o ρ G σ H) (h : VOk K o ρ G σ H x (.d d)) (c : SeqAt.shaped d = true) : Dp K H x d := Rp.dp (Rp.sub e.wd.sub h) (SeqAt.canLay_of_shaped c)
theorem xr_eqD {d e : PyData} (h1 : SeqAt.shaped d = true) (h2 : SeqAt.shaped e = true) (r : R (.d (.bool (PyData.eqv d e))) ρ o) : XR K (rEqU K) (.d d) (.d e) ρ o R := xr_or2 fun G σ H x y en k1 k2 Q q =>
  ⟨d, e, k1.dp en h1, k2.dp en h2, h1, h2, xq_now q en r (.bl _)⟩
/-- a list, read where it stands, as data -/
theorem IsL.dp {G : Hp} {σ : L2.St} {H : Hp} {x : V} {dv : DV} {ds : List PyData} (l : IsL ρ dv ds) (e : En K o ρ G σ H) (h : VOk K o ρ G σ H x dv) (c : SeqAt.shaped (.list ds) = true) : Dp K H x (.list ds) := by
  obtain ⟨p, xs, rfl, hp, ok⟩ := l.at e h
  exact .lst (.inl (.inl hp)) (RpAll.dp (RpAll.sub e.wd.sub ok) (by simpa [PyData.canLay0] using SeqAt.canLay_of_shaped c))
theorem xr_eqL {a b : DV} {d e : List PyData} (la : IsL ρ a d) (lb : IsL ρ b e) (h1 : SeqAt.shaped (.list d) = true) (h2 : SeqAt.shaped (.list e) = true) (r : R (.d (.bool (PyData.eqv (.list d) (.list e)))) ρ o) : XR K (rEqU K) a b ρ o R := xr_or2 fun G σ H x y en k1 k2 Q q =>
  ⟨_, _, la.dp en k1 h1, lb.dp en k2 h2, h1, h2, xq_now q en r (.bl _)⟩
theorem xr_inC {c : Nat} {z : Str} (r : R (.d (.bool (decide (c ∈ z.cps.toList)))) ρ o) : XR K (rInU K) (.d (.str ⟨#[c]⟩)) (.d (.str z)) ρ o R := xr_or1 fun G σ H x y en k1 k2 Q q =>
  ⟨c, z, vok_str k1, vok_str k2, xq_now q en r (.bl _)⟩
theorem xr_notInC {c : Nat} {z : Str} (r : R (.d (.bool (!decide (c ∈ z.cps.toList)))) ρ o) : XR K (rNotInU K) (.d (.str ⟨#[c]⟩)) (.d (.str z)) ρ o R := xr_or1 fun G σ H x y en k1 k2 Q q =>
  ⟨c, z, vok_str k1, vok_str k2, xq_now q en r (.bl _)⟩
def isNoneD : PyData → Bool
  | .none => true
  | _ => false
theorem xr_isN {d : PyData} (r : R (.d (.bool (isNoneD d))) ρ o) : XR K (fun x y H Q => y = .non ∧ Q (.bl (decide (x = .non))) H) (.d d) (.d .none) ρ o R := fun G σ H x y en k1 k2 Q q => by
  cases vok_non k2
  refine ⟨rfl, ?_⟩
  have : decide (x = .non) = (isNoneD d) := by cases k1 <;> rfl
  rw [this]
  exact xq_now q en r (.bl _)
theorem xr_notN {d : PyData} (r : R (.d (.bool (!isNoneD d))) ρ o) : XR K (fun x y H Q => y = .non ∧ Q (.bl (!decide (x = .non))) H) (.d d) (.d .none) ρ o R := fun G σ H x y en k1 k2 Q q => by
  cases vok_non k2
  refine ⟨rfl, ?_⟩
  have : (!decide (x = .non)) = (!isNoneD d) := by cases k1 <;> rfl
  rw [this]
  exact xq_now q en r (.bl _)
theorem xsl_S {z : Str} {l u : Option Int} (hl : z.length ≤ sizeLine) (r : R (.d (.str (cutS z l u))) ρ o) : XSl K (rSlU K) (.d (.str z)) l u ρ o R := xsl_or1 (xsl_str hl r)
theorem xe_neg (h : XE K te ρ o fun dv ρ1 o1 => ∃ n, dv = .d (.int n) ∧ R (.d (.int (-n))) ρ1 o1) : XE K (tUn (rU fun i => .int (-i)) te) ρ o R := fun G σ H e Q q =>
  h.seq e fun v dv ρ1 o1 G1 H1 ⟨n, hd, r⟩ s1 e1 ok fr => by subst hd; exact ⟨n, vok_int ok, q _ _ _ _ _ _ r s1 e1 (.int _) trivial⟩
theorem xs_augA {a : Int} (hi : ρ[i]? = some (.val (.int a))) (h : XE K te ρ o fun dv ρ' o' => ∃ b, dv = .d (.int b) ∧ Nat.blt i ρ'.length = true ∧ N (ρ'.set i (.val (.int (a + b)))) o') :
    XS K (tAug i te ipAddU) ρ o N R B C := fun G σ H e D qn qr qb qc => by
  obtain ⟨ov, h1, v, rfl, hv⟩ := e.sl i _ hi
  cases hv
  refine ⟨_, h1, h.seq e fun v dv ρ' o' G' H' ⟨b, hd, hl, n⟩ s e' ok fr => ?_⟩
  subst hd
  exact .inl ⟨a, b, rfl, vok_int ok, qn _ _ _ _ _ n (s.trans (e'.store (lt_of_blt hl) (s := .val (.int (a + b))) ⟨_, rfl, .int _⟩ (fun c z => nomatch z)).2) (e'.store (lt_of_blt hl) (s := .val (.int (a + b))) ⟨_, rfl, .int _⟩ (fun c z => nomatch z)).1⟩
theorem xe_chain {r r' : R2} (h : XE K ta ρ o fun a ρ1 o1 => XE K tb ρ1 o1 fun b ρ2 o2 => Kept ρ2 a ∧ XR K r a b ρ2 o2 fun c ρ3 o3 => ∃ k, c = .d (.bool k) ∧ (k = true → XE K tc ρ3 o3 fun d ρ4 o4 => Kept ρ4 b ∧ XR K r' b d ρ4 o4 R) ∧ (k = false → R (.d (.bool false)) ρ3 o3) ∧ Kept ρ3 b) :
    XE K (tChain r r' ta tb tc) ρ o R := fun G σ H e Q q =>
  h.seq e fun x a ρ1 o1 G1 H1 r1 s1 e1 ok1 fr1 => XE.seq r1 e1 fun y b ρ2 o2 G2 H2 ⟨kp, r2⟩ s2 e2 ok2 fr2 =>
    r2 G2 σ H2 x y e2 (ok1.step s2 kp) ok2 _ fun z c ρ3 o3 G3 H3 ⟨k, hc, rt, rf, kb⟩ s3 e3 ok3 fr3 => by
      subst hc
      have s13 := (s1.trans s2).trans s3
      refine ⟨k, vok_bl ok3, ?_⟩
      cases k with
      | true => exact iteT (XE.seq (rt rfl) e3 fun w d ρ4 o4 G4 H4 ⟨kp4, r4⟩ s4 e4 ok4 fr4 => r4 G4 σ H4 y w e4 ((ok2.step s3 kb).step s4 kp4) ok4 Q fun v dv ρ' o' G' H' r s e' ok fr => q v dv ρ' o' G' H' r ((s13.trans s4).trans s) e' ok (fr.back (s13.trans s4)))
      | false => exact iteF (q _ _ _ _ _ _ (rf rfl) s13 e3 (.bl false) trivial)

/-! ### more built-ins -/
theorem xc_int1 {n : Int} (r : R (.d (.int n)) ρ o) : XC K (fun xs H Q => (∃ i, xs = [.int i] ∧ Q (.int i) H) ∨ ∃ k, xs = [.bl k] ∧ Q (.int (if k then 1 else 0)) H) [.d (.int n)] ρ o R := fun G σ H vs e h0 Q q => by
  obtain ⟨v, rfl, h⟩ := va1 h0
  cases vok_int h
  exact .inl ⟨n, rfl, xq_now q e r (.int _)⟩
/-- the class of a datum -/
def tyN : PyData → String
  | .none => "NoneType"
  | .bool _ => "bool"
  | .int _ => "int"
  | .str _ => "str"
  | .list _ => "list"
  | .tuple _ => "tuple"
  | .dict _ => "dict"
theorem TyX.of {G : Hp} {x : V} {d : PyData} (h : Rp K G x d) {H : Hp} (s : Sub G H) : TyX K H x (.type (tyN d)) := by
  cases h with
  | non => exact .base .non
  | bl b => exact .base (.bl b)
  | int b => exact .base (.int b)
  | str b => exact .base (.str b)
  | lst h _ => exact .base (.lst (s _ _ h))
  | dic h _ _ _ => exact .fDict (s _ _ h)
  | tup h _ =>
    rcases h with (h | ⟨ob, h⟩) | ⟨ob, its, n, h1, h2, _⟩
    · exact .base (.tup (s _ _ h))
    · exact .fTuple (s _ _ h)
    · exact .kTuple h1 h2
theorem xc_isi {d : PyData} {n : String} {b : Bool} (hb : kitB (tyN d) n = some b) (r : R (.d (.bool b)) ρ o) : XC K (rIsi K) [.d d, .raw (.ty n)] ρ o R := fun G σ H vs e h Q q => by
  obtain ⟨v, u, rfl, h1, h2⟩ := va2 h
  have h2 : u = .ty n := h2
  subst h2
  exact ⟨v, .ty n, _, _, b, rfl, .ty n, TyX.of h1 e.wd.sub, kit_ty hb, xq_now q e r (.bl _)⟩
theorem xm_join {a : Str} {dv : DV} {ys : List Str} (l : IsL ρ dv (ys.map .str)) (hl : (ys.map (·.length)).sum + ys.length * a.length ≤ 16777216) (r : R (.d (.str (Txt.join a ys))) ρ o) :
    XM K (fun x xs H Q => ∃ a p, ∃ ys : List Str, x = .str a ∧ xs = [.ref p] ∧ (SqL K H p (ys.map V.str) ∨ SqT K H p (ys.map V.str)) ∧ (ys.map (·.length)).sum + ys.length * a.length ≤ 16777216 ∧ Q (.str (Txt.join a ys)) H) (.d (.str a)) [dv] ρ o R := fun G σ H x vs e hx hv0 Q q => by
  obtain ⟨v, rfl, hv⟩ := va1 hv0
  cases vok_str hx
  obtain ⟨p, xs, rfl, hp, ok⟩ := l.at e hv
  refine ⟨a, p, ys, rfl, rfl, .inl ?_, hl, xq_now q e r (.str _)⟩
  rw [← ok.of_strs]
  exact .inl (.inl hp)
end
end DL

set_option Elab.async false
set_option linter.all false
set_option maxRecDepth 100000
namespace DL
open PySem PySem.Spec PyProof.Rows L2

/-! ### comprehensions -/
def setAll {α : Type} (l : List α) : List Nat → List α → List α
  | [], _ => l
  | _ :: _, [] => l
  | i :: is, x :: xs => setAll (l.set i x) is xs
theorem setAll_len {α : Type} : ∀ (is : List Nat) (xs : List α) (l : List α), (setAll l is xs).length = l.length
  | [], _, _ => by simp only [setAll]
  | _ :: _, [], _ => by simp only [setAll]
  | i :: is, x :: xs, l => by unfold setAll; rw [setAll_len is xs, List.length_set]
theorem setAll_out {α : Type} : ∀ (is : List Nat) (xs : List α) (l : List α) (j : Nat), j ∉ is → (setAll l is xs)[j]? = l[j]?
  | [], _, _, _, _ => by simp only [setAll]
  | _ :: _, [], _, _, _ => by simp only [setAll]
  | i :: is, x :: xs, l, j, h => by
    unfold setAll
    rw [setAll_out is xs _ j (fun z => h (List.mem_cons_of_mem _ z)), List.getElem?_set_ne (fun z => h (by rw [z]; exact List.mem_cons_self))]
theorem setAll_in {α β : Type} (P : α → β → Prop) : ∀ (is : List Nat) (xs : List α) (ys : List β) (l : List α) (m : List β) (j : Nat), j ∈ is → is.length = xs.length → is.length = ys.length → l.length = m.length → (∀ i ∈ is, i < l.length) → (∀ (k : Nat) x y, xs[k]? = some x → ys[k]? = some y → P x y) →
    ∃ x y, (setAll l is xs)[j]? = some x ∧ (setAll m is ys)[j]? = some y ∧ P x y
  | i :: is, x :: xs, y :: ys, l, m, j, hj, h1, h2, h3, h4, hp => by
    unfold setAll
    by_cases hm : j ∈ is
    · exact setAll_in P is xs ys _ _ j hm (by simpa using h1) (by simpa using h2) (by rw [List.length_set, List.length_set]; exact h3) (fun i hi => by rw [List.length_set]; exact h4 i (List.mem_cons_of_mem _ hi)) fun k a b ha hb => hp (k + 1) a b (by simpa using ha) (by simpa using hb)
    · rcases List.mem_cons.mp hj with rfl | h
      · have hl := h4 j List.mem_cons_self
        rw [setAll_out is xs _ j hm, setAll_out is ys _ j hm, List.getElem?_set_self hl, List.getElem?_set_self (by rw [← h3]; exact hl)]
        exact ⟨x, y, rfl, rfl, hp 0 x y rfl rfl⟩
      · exact absurd h hm
theorem wipe_in {σ : L2.St} : ∀ {vs : List Nat} {j : Nat}, j ∉ vs → (wipe σ vs)[j]? = σ[j]?
  | [], _, _ => rfl
  | v :: vs, j, h => by
    unfold wipe
    rw [List.getElem?_set_ne (fun z => h (by rw [z]; exact List.mem_cons_self)), wipe_in fun z => h (List.mem_cons_of_mem _ z)]
theorem wipe_none {σ : L2.St} : ∀ {vs : List Nat} {j : Nat}, j ∈ vs → j < σ.length → (wipe σ vs)[j]? = some none
  | v :: vs, j, h, hl => by
    unfold wipe
    by_cases e : v = j
    · subst e; rw [List.getElem?_set_self (by rw [wipe_length]; exact hl)]
    · rw [List.getElem?_set_ne e]
      rcases List.mem_cons.mp h with z | z
      · exact absurd z.symm e
      · exact wipe_none z hl
theorem wipe_eq {σ τ : L2.St} {vs : List Nat} (hl : σ.length = τ.length) (h : ∀ j, j ∉ vs → σ[j]? = τ[j]?) : wipe σ vs = wipe τ vs := by
  apply List.ext_getElem?
  intro j
  by_cases hj : j ∈ vs
  · by_cases hlt : j < σ.length
    · rw [wipe_none hj hlt, wipe_none hj (by rw [← hl]; exact hlt)]
    · rw [List.getElem?_eq_none (by rw [wipe_length]; omega), List.getElem?_eq_none (by rw [wipe_length]; omega)]
  · rw [wipe_in hj, wipe_in hj, h j hj]
def gNames : List Nat → TGs
  | [] => gNil
  | i :: is => gCons (gName i) (gNames is)
/-- a block's target: its names get the parts of what is walked -/
def BT (K : PySem.W.Frag) (g : TG) (is : List Nat) (d : PyData) (ds : List PyData) : Prop :=
  is.length = ds.length ∧ ∀ (G : Hp) (v : V), Rp K G v d → ∃ vs, RpAll K G vs ds ∧ ∀ (H : Hp), Sub G H → ∀ (σ : L2.St) (Q : L2.St → Hp → Prop), Q (setAll σ is (vs.map some)) H → g v σ H Q
theorem bt_name {K : PySem.W.Frag} {i : Nat} {d : PyData} : BT K (gName i) [i] d [d] := ⟨rfl, fun G v r => ⟨[v], .cons r .nil, fun H _ σ Q q => q⟩⟩
section
variable {K : Kx} {ρ ρ1 : List Sl} {o o' : Ob} {R : RD} {te : TE} {tt : TT} {g : TG} {is : List Nat} {T : TA}
/-- the block's names in the environment -/
def blkE (ρ : List Sl) (is : List Nat) (ds : List PyData) : List Sl := setAll ρ is (ds.map .val)
/-- no name of the block is owned around it -/
def NoOw (ρ : List Sl) (is : List Nat) : Prop := ∀ j ∈ is, j < ρ.length ∧ ∀ c, ρ[j]? ≠ some (.own c)
theorem blk_own {ds : List PyData} {σ : L2.St} {vs : List V} {G : Hp} (no : NoOw ρ is) (h1 : is.length = ds.length) (ok : RpAll K G vs ds) (hl : σ.length = ρ.length) {j : Nat} {p : Addr} :
    OwnAt (blkE ρ is ds) (setAll (wipe σ is) is (vs.map some)) j p ↔ OwnAt ρ σ j p := by
  by_cases hj : j ∈ is
  · obtain ⟨x, y, e1, e2, d, rfl⟩ := setAll_in (fun (x : Sl) (y : Option V) => ∃ d, x = .val d) is (ds.map .val) (vs.map some) ρ (wipe σ is) j hj (by simpa using h1) (by rw [List.length_map, ok.len]; exact h1) (by rw [wipe_length, hl]) (fun i hi => (no i hi).1) (fun k x y hx _ => by
      rw [List.getElem?_map] at hx
      cases q : ds[k]? with
      | none => rw [q] at hx; cases hx
      | some d => rw [q] at hx; exact ⟨d, (Option.some.inj hx).symm⟩)
    constructor
    · rintro ⟨⟨c, hc⟩, _⟩
      rw [show blkE ρ is ds = setAll ρ is (ds.map .val) from rfl, e1] at hc
      cases hc
    · rintro ⟨⟨c, hc⟩, _⟩
      exact absurd hc ((no j hj).2 c)
  · unfold OwnAt blkE
    rw [setAll_out _ _ _ _ hj, setAll_out _ _ _ _ hj, wipe_in hj]
/-- into the block -/
theorem En.blk {ds : List PyData} {σ : L2.St} {vs : List V} {G H : Hp} (e : En K o ρ G σ H) (no : NoOw ρ is) (h1 : is.length = ds.length) (ok : RpAll K G vs ds) :
    En K o (blkE ρ is ds) G (setAll (wipe σ is) is (vs.map some)) H ∧ Stp ρ σ o G H (blkE ρ is ds) (setAll (wipe σ is) is (vs.map some)) o G H ∧ Stp (blkE ρ is ds) (setAll (wipe σ is) is (vs.map some)) o G H ρ σ o G H := by
  have ow : ∀ {j p}, OwnAt (blkE ρ is ds) (setAll (wipe σ is) is (vs.map some)) j p ↔ OwnAt ρ σ j p := fun {j p} => blk_own no h1 ok e.len
  have stp : Stp ρ σ o G H (blkE ρ is ds) (setAll (wipe σ is) is (vs.map some)) o G H := ⟨Sub.refl, fun _ _ h _ _ => h, fun _ h _ _ _ => h, fun _ h => .inl h, fun a ⟨j, h⟩ => .inl ⟨j, ow.mp h⟩⟩
  refine ⟨⟨⟨e.wd, by unfold blkE; rw [setAll_len, setAll_len, wipe_length]; exact e.len, fun j s h => ?_, fun j k p a b => e.dis j k p (ow.mp a) (ow.mp b), fun p ⟨j, h⟩ => e.onf p ⟨j, ow.mp h⟩⟩, e.wo.step stp⟩,
    stp, ⟨Sub.refl, fun _ _ h _ _ => h, fun _ h _ _ _ => h, fun _ h => .inl h, fun a ⟨j, h⟩ => .inl ⟨j, ow.mpr h⟩⟩⟩
  by_cases hj : j ∈ is
  · obtain ⟨x, y, e1, e2, d, v, rfl, rfl, r⟩ := setAll_in (fun (x : Sl) (y : Option V) => ∃ d v, x = .val d ∧ y = some v ∧ Rp K G v d) is (ds.map .val) (vs.map some) ρ (wipe σ is) j hj (by simpa using h1) (by rw [List.length_map, ok.len]; exact h1) (by rw [wipe_length, e.len]) (fun i hi => (no i hi).1) (fun k x y hx hy => by
      rw [List.getElem?_map] at hx hy
      cases q : ds[k]? with
      | none => rw [q] at hx; cases hx
      | some d =>
        rw [q] at hx
        obtain ⟨v, hv, rv⟩ := ok.get' q
        rw [hv] at hy
        exact ⟨d, v, (Option.some.inj hx).symm, (Option.some.inj hy).symm, rv⟩)
    rw [show blkE ρ is ds = setAll ρ is (ds.map .val) from rfl, e1] at h
    cases h
    exact ⟨_, e2, v, rfl, r⟩
  · unfold blkE at h
    rw [setAll_out _ _ _ _ hj] at h
    obtain ⟨ov, k1, k2⟩ := e.sl j s h
    exact ⟨ov, by rw [setAll_out _ _ _ _ hj, wipe_in hj]; exact k1, k2⟩
/-- out of the block -/
theorem En.unblk {ds : List PyData} {σ : L2.St} {vs : List V} {G H G' H' : Hp} (e : En K o ρ G σ H) (no : NoOw ρ is) (h1 : is.length = ds.length) (ok : RpAll K G vs ds) (s : Sub G G') (e' : En K o' (blkE ρ is ds) G' (setAll (wipe σ is) is (vs.map some)) H') : En K o' ρ G' σ H' := by
  have stp : Stp (blkE ρ is ds) (setAll (wipe σ is) is (vs.map some)) o' G' H' ρ σ o' G' H' := ⟨Sub.refl, fun _ _ h _ _ => h, fun _ h _ _ _ => h, fun _ h => .inl h, fun a ⟨j, h⟩ => .inl ⟨j, (blk_own no h1 ok e.len).mpr h⟩⟩
  have ow : ∀ {j p}, OwnAt (blkE ρ is ds) (setAll (wipe σ is) is (vs.map some)) j p ↔ OwnAt ρ σ j p := fun {j p} => blk_own no h1 ok e.len
  refine ⟨⟨e'.wd, e.len, fun j s' h => ?_, fun j k p a b => e'.dis j k p (ow.mpr a) (ow.mpr b), fun p ⟨j, h⟩ => e'.onf p ⟨j, ow.mpr h⟩⟩, e'.wo.step stp⟩
  by_cases hj : j ∈ is
  · obtain ⟨ov, k1, k2⟩ := e.sl j s' h
    refine ⟨ov, k1, ?_⟩
    cases s' with
    | own c => exact absurd h ((no j hj).2 c)
    | no => trivial
    | raw u => exact k2
    | val d => obtain ⟨v, e1, r⟩ := k2; exact ⟨v, e1, Rp.sub s r⟩
  · have q := e'.sl j s'
    unfold blkE at q
    rw [setAll_out _ _ _ _ hj, setAll_out _ _ _ _ hj, wipe_in hj] at q
    exact q h

/-- a thing that no name and no object holds changes -/
theorem En.mutX {σ : L2.St} {G H : Hp} {D : Addr} {y : HO} (e : En K o ρ G σ H) (gD : G D = none) (nf : ¬ o.fp D) (nw : ¬ Own ρ σ D) (wo : WOk K o ρ G σ (upd H D y)) : En K o ρ G σ (upd H D y) where
  wo := wo
  wd := ⟨fun a z hz => by rw [upd_ne (show a ≠ D from fun q => by rw [q, gD] at hz; cases hz)]; exact e.wd.sub _ _ hz, e.wd.nfp, fun a ha => by rw [upd_ne (show a ≠ D from fun q => nf (by rw [← q]; exact ha))]; exact e.wd.occ a ha,
    o.st _ _ _ _ e.wd.ok Sub.refl fun a ha => upd_ne (show a ≠ D from fun q => nf (by rw [← q]; exact ha))⟩
  len := e.len
  sl := fun i s h => by
    obtain ⟨ov, h1, h2⟩ := e.sl i s h
    refine ⟨ov, h1, h2.step Sub.refl fun q c hs hv => ?_⟩
    subst hs
    have ow : Own ρ σ q := ⟨i, ⟨c, h⟩, by rw [h1, hv]⟩
    exact ⟨(e.occ_own ow).1, upd_ne (show q ≠ D from fun z => nw (by rw [← z]; exact ow))⟩
  dis := e.dis
  onf := e.onf
/-- one item of a comprehension: what it adds -/
def LcTurn (K : Kx) (tt : TT) (te : TE) (ρ1 : List Sl) (is : List Nat) (ds : List PyData) (o' : Ob) (J : Option PyData → Ob → Prop) : Prop :=
  XT K tt (blkE ρ1 is ds) o' fun b ρ2 o2 => ρ2 = blkE ρ1 is ds ∧ (b = true → XEF K te (blkE ρ1 is ds) o2 fun dv ρ3 o3 => ρ3 = blkE ρ1 is ds ∧ ∃ d, dv = .d d ∧ J (some d) o3) ∧ (b = false → J none o2)
/-- the state of a comprehension's turn -/
def LcP (K : Kx) (I : List PyData → Ob → Prop) (ρ : List Sl) (σ : L2.St) (o : Ob) (G H : Hp) (ρ1 : List Sl) (G1 : Hp) (D : Addr) (H' : Hp) : Prop :=
  ∃ acc o' G' xs, I acc o' ∧ Stp ρ σ o G H ρ1 σ o' G' H' ∧ En K o' ρ1 G' σ H' ∧ H' D = some (.lst xs) ∧ G' D = none ∧ ¬ o'.fp D ∧ ¬ Own ρ1 σ D ∧ RpAll K G' xs acc ∧ acc.length < sizeLine ∧ Sub G1 G'
theorem lc_turn {I I' : List PyData → Ob → Prop} {σ : L2.St} {G H G1 G' H' : Hp} {D : Addr} {x : V} {d : PyData} {ds : List PyData} (bt : BT K g is d ds) (no : NoOw ρ1 is) (fr : H D = none ∨ o.fp D ∨ Own ρ σ D)
    {acc : List PyData} {xs : List V} (s : Stp ρ σ o G H ρ1 σ o' G' H') (e : En K o' ρ1 G' σ H') (hD : H' D = some (.lst xs)) (gD : G' D = none) (nf : ¬ o'.fp D) (nw : ¬ Own ρ1 σ D) (ok : RpAll K G' xs acc) (sb : Sub G1 G') (rx : Rp K G' x d) (len : acc.length < sizeLine) (wo0 : WOk K o ρ G σ H)
    (turn : LcTurn K tt te ρ1 is ds o' fun y o2 => match y with | some d => (acc ++ [d]).length < sizeLine ∧ I' (acc ++ [d]) o2 | none => I' acc o2) :
    g x (wipe σ is) H' fun σ2 H2 => wipe σ2 is = wipe σ is ∧ tt σ2 H2 fun b H3 =>
      if b = true then te σ2 H3 fun y H4 => ∃ acc, H4 D = some (.lst acc) ∧ acc.length < sizeLine ∧ LcP K I' ρ σ o G H ρ1 G1 D (upd H4 D (.lst (acc ++ [y]))) else LcP K I' ρ σ o G H ρ1 G1 D H3 := by
  obtain ⟨h1, hb⟩ := bt
  obtain ⟨vs, okv, run⟩ := hb G' x rx
  refine run H' e.wd.sub (wipe σ is) _ ⟨?_, ?_⟩
  · refine wipe_eq (by rw [setAll_len, wipe_length]) fun j hj => ?_
    rw [setAll_out _ _ _ _ hj, wipe_in hj]
  · obtain ⟨eb, sin, sout⟩ := e.blk no h1 okv
    have nwb : ¬ Own (blkE ρ1 is ds) (setAll (wipe σ is) is (vs.map some)) D := fun ⟨j, z⟩ => nw ⟨j, (blk_own no h1 okv e.len).mp z⟩
    refine turn G' _ H' eb _ fun b ρ2 o2 G2 H2 ⟨hρ, rt, rf⟩ s2 e2 => ?_
    subst hρ
    have keep : ∀ {o3 G3 H3}, Stp (blkE ρ1 is ds) (setAll (wipe σ is) is (vs.map some)) o' G' H' (blkE ρ1 is ds) (setAll (wipe σ is) is (vs.map some)) o3 G3 H3 → En K o3 (blkE ρ1 is ds) G3 (setAll (wipe σ is) is (vs.map some)) H3 →
        Stp ρ σ o G H ρ1 σ o3 G3 H3 ∧ En K o3 ρ1 G3 σ H3 ∧ H3 D = some (.lst xs) ∧ G3 D = none ∧ ¬ o3.fp D ∧ RpAll K G3 xs acc ∧ Sub G1 G3 := fun {o3 G3 H3} s3 e3 => by
      have sback : Stp (blkE ρ1 is ds) (setAll (wipe σ is) is (vs.map some)) o3 G3 H3 ρ1 σ o3 G3 H3 :=
        ⟨Sub.refl, fun _ _ h _ _ => h, fun _ h _ _ _ => h, fun _ h => .inl h, fun a ⟨j, h⟩ => .inl ⟨j, (blk_own no h1 okv e.len).mpr h⟩⟩
      refine ⟨((s.trans sin).trans s3).trans sback, e.unblk no h1 okv s3.g e3, s3.h D _ hD nf nwb, s3.n D gD ⟨_, hD, trivial⟩ nf nwb, fun z => ?_, RpAll.sub s3.g ok, sb.trans s3.g⟩
      rcases s3.f D z with q | q | q
      · exact nf q
      · rw [hD] at q; cases q
      · exact nwb q
    cases b with
    | false =>
      obtain ⟨k1, k2, k3, k4, k5, k6, k7⟩ := keep s2 e2
      exact iteF ⟨acc, o2, G2, xs, rf rfl, k1, k2, k3, k4, k5, nw, k6, len, k7⟩
    | true =>
      refine iteT ?_
      refine XE.seq (rt rfl) e2 fun y dv ρ3 o3 G3 H4 ⟨hρ, d', hd, hl, hi⟩ s3 e3 ok3 fr3 => ?_
      subst hρ
      subst hd
      obtain ⟨k1, k2, k3, k4, k5, k6, k7⟩ := keep (s2.trans s3) e3
      have stp : Stp ρ σ o G H ρ1 σ o3 G3 (upd H4 D (.lst (xs ++ [y]))) := by
        refine ⟨k1.g, fun a z hz q1 q2 => ?_, k1.n, k1.f, k1.w⟩
        have hne : a ≠ D := fun q => by
          subst q
          rcases fr with q | q | q
          · rw [q] at hz; cases hz
          · exact q1 q
          · exact q2 q
        rw [upd_ne hne]
        exact k1.h a z hz q1 q2
      exact ⟨xs, k3, by rw [k6.len]; exact len, acc ++ [d'], o3, G3, xs ++ [y], hi, stp, k2.mutX k4 k5 nw (wo0.step stp), upd_same, k4, k5, nw, k6.append (.cons ok3 .nil), hl, k7⟩
theorem lc_start {I : List PyData → Ob → Prop} {σ : L2.St} {G H G1 H1 : Hp} {D : Addr} (i0 : I [] o') (s : Stp ρ σ o G H ρ1 σ o' G1 H1) (e : En K o' ρ1 G1 σ H1) (hD : H1 D = none) : LcP K I ρ σ o G H ρ1 G1 D (upd H1 D (.lst [])) :=
  ⟨[], o', G1, [], i0, s.trans (Stp.newO hD), e.newO hD, upd_same, e.wd.gnone hD, nofp e hD, noown e hD, .nil, by show 0 < sizeLine; rw [sizeLine_eq]; decide, Sub.refl⟩
theorem lc_end {I : List PyData → Ob → Prop} {σ : L2.St} {G H G1 H1 : Hp} {D : Addr} {Q : VK} (fr : H D = none ∨ o.fp D ∨ Own ρ σ D) (q : XQ K ρ o G σ H R Q) (ie : ∀ acc o', acc.length < sizeLine → I acc o' → R (.new (.lst acc)) ρ1 o') (p : LcP K I ρ σ o G H ρ1 G1 D H1) : Q (.ref D) H1 := by
  obtain ⟨acc, o', G', xs, i, s, e, hD, gD, nf, nw, ok, hl, _⟩ := p
  exact q _ _ _ _ _ _ (ie acc o' hl i) s e ⟨D, _, rfl, gD, hD, ok, nf, nw⟩ fun p hp => by cases hp; exact fr
/-- [e for .. in range(n) if t] -/
theorem xe_lcR (h : XA K T ρ o fun dvs ρ1 o1 => ∃ n : Int, dvs = [.d (.int n)] ∧ -(2 ^ 62) ≤ n ∧ n < 2 ^ 62 ∧ NoOw ρ1 is ∧ ∃ I : Nat → List PyData → Ob → Prop, I 0 [] o1 ∧
      (∀ k acc o', k < n.toNat → acc.length < sizeLine → I k acc o' → ∃ ds, BT K g is (.int (0 + (k : Nat))) ds ∧ LcTurn K tt te ρ1 is ds o' fun y o2 => match y with | some d => (acc ++ [d]).length < sizeLine ∧ I (k + 1) (acc ++ [d]) o2 | none => I (k + 1) acc o2) ∧
      ∀ acc o', acc.length < sizeLine → I n.toNat acc o' → R (.new (.lst acc)) ρ1 o') : XE K (tLc (iRng1 T) g tt te is) ρ o R := fun G σ H e0 Q q =>
  h G σ H e0 _ fun vs dvs ρ1 o1 G1 H1 ⟨n, hd, b1, b2, no, I, i0, it, ie⟩ s1 e1 ok => by
    subst hd
    obtain ⟨v, rfl, hv⟩ := va1 ok
    cases vok_int hv
    refine ⟨n, rfl, b1, b2, fun D hD => ?_⟩
    have fr := s1.old (.inl hD)
    exact lc_range (fun k H' => LcP K (I k) ρ σ o G H ρ1 G1 D H') (lc_start i0 s1 e1 hD) (fun k H' hk p => by
      obtain ⟨acc, o', G', xs, i, s, e, hD', gD, nf, nw, ok, hl, sb⟩ := p
      obtain ⟨ds, bt, turn⟩ := it k acc o' hk hl i
      exact lc_turn (I := I k) (I' := I (k + 1)) bt no fr s e hD' gD nf nw ok sb (.int _) hl e0.wo turn) fun H' p => lc_end fr q ie p
theorem xt_yes {R' : Bool → RE} (r : R' true ρ o) : XT K tYes ρ o R' := fun G σ H e Q q => q _ _ _ _ _ r Stp.refl e
end
end DL

set_option Elab.async false
set_option linter.all false
set_option maxRecDepth 100000
namespace DL
open PySem PySem.Spec PyProof.Rows L2

/-! ### dicts -/
abbrev DKv := List (Key × PyData)
abbrev KvR (K : PySem.W.Frag) (G : Hp) (kvs : List (Key × V)) (ps : DKv) : Prop := Paired (fun (p : Key × V) (q : Key × PyData) => p.1 = q.1 ∧ Rp K G p.2 q.2) kvs ps
def valD (ps : DKv) (k : Key) : Option PyData := (ps.find? fun kv => decide (kv.1 = k)).map (·.2)
def putD (ps : DKv) (k : Key) (v : PyData) : DKv :=
  if (ps.any fun kv => decide (kv.1 = k)) = true then ps.map (fun kv => if kv.1 = k then (kv.1, v) else kv) else ps ++ [(k, v)]
section
variable {K : PySem.W.Frag} {G G' : Hp}
theorem KvR.val {kvs : List (Key × V)} {ps : DKv} (h : KvR K G kvs ps) (k : Key) : (valV kvs k = none ∧ valD ps k = none) ∨ ∃ v d, valV kvs k = some v ∧ valD ps k = some d ∧ Rp K G v d := by
  induction h with
  | nil => exact .inl ⟨rfl, rfl⟩
  | @cons p q a b h t ih =>
    obtain ⟨h1, h2⟩ := h
    by_cases e : p.1 = k
    · exact .inr ⟨p.2, q.2, by simp [valV, List.find?_cons, e], by simp [valD, List.find?_cons, ← h1, e], h2⟩
    · have e2 : ¬ q.1 = k := by rw [← h1]; exact e
      have z1 : valV (p :: a) k = valV a k := by simp [valV, List.find?_cons, e]
      have z2 : valD (q :: b) k = valD b k := by simp [valD, List.find?_cons, e2]
      rw [z1, z2]
      exact ih
theorem KvR.any {kvs : List (Key × V)} {ps : DKv} (h : KvR K G kvs ps) (k : Key) : (kvs.any fun kv => decide (kv.1 = k)) = ps.any fun kv => decide (kv.1 = k) := by
  induction h with
  | nil => rfl
  | @cons p q a b h t ih => rw [List.any_cons, List.any_cons, ih, h.1]
theorem KvR.app {kvs kvs' : List (Key × V)} {ps ps' : DKv} (h : KvR K G kvs ps) (h' : KvR K G kvs' ps') : KvR K G (kvs ++ kvs') (ps ++ ps') := by
  induction h with
  | nil => exact h'
  | cons h t ih => exact .cons h ih
theorem KvR.map {kvs : List (Key × V)} {ps : DKv} (h : KvR K G kvs ps) (k : Key) {v : V} {d : PyData} (r : Rp K G v d) : KvR K G (kvs.map fun kv => if kv.1 = k then (kv.1, v) else kv) (ps.map fun kv => if kv.1 = k then (kv.1, d) else kv) := by
  induction h with
  | nil => exact .nil
  | @cons p q a b h t ih =>
    refine .cons ?_ ih
    obtain ⟨h1, h2⟩ := h
    dsimp only
    by_cases e : p.1 = k
    · rw [if_pos e, if_pos (show q.1 = k by rw [← h1]; exact e)]; exact ⟨h1, r⟩
    · rw [if_neg e, if_neg (show ¬ q.1 = k by rw [← h1]; exact e)]; exact ⟨h1, h2⟩
theorem KvR.put {kvs : List (Key × V)} {ps : DKv} (h : KvR K G kvs ps) (k : Key) {v : V} {d : PyData} (r : Rp K G v d) : KvR K G (putK kvs k v) (putD ps k d) := by
  unfold putK putD
  rw [h.any k]
  split
  · exact h.map k r
  · exact h.app (.cons ⟨rfl, r⟩ .nil)
theorem KvR.len {kvs : List (Key × V)} {ps : DKv} (h : KvR K G kvs ps) : kvs.length = ps.length := Paired.length h
def mergeD (ps more : DKv) : DKv := more.foldl (fun acc kv => putD acc kv.1 kv.2) ps
theorem KvR.merge {more : List (Key × V)} {pm : DKv} (h : KvR K G more pm) : ∀ {kvs : List (Key × V)} {ps : DKv}, KvR K G kvs ps → KvR K G (mergeK kvs more) (mergeD ps pm) := by
  induction h with
  | nil => intro _ _ h; exact h
  | @cons p q a b h t ih =>
    intro kvs ps h0
    have z := h0.put p.1 h.2
    obtain ⟨h1, _⟩ := h
    show KvR K G (mergeK (putK kvs p.1 p.2) a) (mergeD (putD ps q.1 q.2) b)
    rw [← h1]
    exact ih z
theorem dic_rep {y : HO} {ps : DKv} (h : COk K G y (.dic ps)) : ∃ kvs, y = .dK kvs ∧ KvR K G kvs ps := by
  cases y <;> first | exact ⟨_, rfl, h⟩ | exact h.elim
end

/-- a dict at τ that others may change -/
def dicOb (K : PySem.W.Frag) (τ : Addr) (ps : DKv) : Ob where
  fp := fun a => a = τ
  ok := fun G H => ∃ kvs, H τ = some (.dK kvs) ∧ KvR K G kvs ps
  st := fun G H G' H' ⟨kvs, h1, h2⟩ s h => ⟨kvs, by rw [h τ rfl]; exact h1, Paired.mapP h2 fun a b z => ⟨z.1, Rp.sub s z.2⟩⟩
section
variable {K : Kx} {ρ : List Sl} {o : Ob} {R : RD} {N B C : RE} {te ta tb tc : TE} {tt : TT} {i : Nat} {T : TA} {ts : TS}
theorem vok_key {K : PySem.W.Frag} {G σ H x} {k : Key} (h : VOk K o ρ G σ H x (.d (kD k))) : x = kV k := by cases k <;> cases h <;> rfl
/-- d[k] of a shared dict -/
theorem xe_oget {td : TE} {τ : Addr} {ps : DKv} (h : XE K td ρ o fun dv ρ1 o1 => dv = .raw (.ref τ) ∧ XE K ta ρ1 o1 fun b ρ2 o2 => ∃ (k : Key) (d : PyData), b = .d (kD k) ∧ o2 = dicOb K τ ps ∧ valD ps k = some d ∧ R (.d d) ρ2 o2) : XE K (tDGet td ta) ρ o R := fun G σ H e Q q =>
  h.seq e fun x a ρ1 o1 G1 H1 ⟨hd, r1⟩ s1 e1 ok1 fr1 => by
    subst hd
    refine r1.seq e1 fun y b ρ2 o2 G2 H2 ⟨k, d, hb, ho, hv, r⟩ s2 e2 ok2 fr2 => ?_
    subst hb ho
    obtain ⟨kvs, h1, h2⟩ := e2.wd.ok
    rcases h2.val k with ⟨_, z⟩ | ⟨v, d', z1, z2, rv⟩
    · rw [z] at hv; cases hv
    · rw [z2] at hv
      cases hv
      refine ⟨τ, v, ok1, ?_, q _ _ _ _ _ _ r (s1.trans s2) e2 rv trivial⟩
      rw [← z1, vok_key ok2]
      exact DGet.k h1
/-- d[k] = v of a shared dict -/
theorem xs_oput {td : TE} {τ : Addr} {ps : DKv} (h : XE K tc ρ o (HandR fun v ρ0 o0 => XE K td ρ0 o0 fun dv ρ1 o1 => dv = .raw (.ref τ) ∧ XE K ta ρ1 o1 fun b ρ2 o2 => ∃ (k : Key) (d : PyData), b = .d (kD k) ∧ v = .d d ∧ o2 = dicOb K τ ps ∧ ps.length < sizeLine ∧ N ρ2 (dicOb K τ (putD ps k d)))) :
    XS K (sDPut td ta tc) ρ o N R B C := fun G σ H e D qn qr qb qc =>
  h.seq e fun w v ρ0 o0 G0 H0 r0 s0 e0 ok0 fr0 => by
    have r0 : ∃ x, v = x ∧ Kept [] v ∧ XE K td ρ0 o0 fun dv ρ1 o1 => dv = .raw (.ref τ) ∧ XE K ta ρ1 o1 fun b ρ2 o2 => ∃ (k : Key) (d : PyData), b = .d (kD k) ∧ v = .d d ∧ o2 = dicOb K τ ps ∧ ps.length < sizeLine ∧ N ρ2 (dicOb K τ (putD ps k d)) := by
      cases v with
      | d x => exact ⟨_, rfl, trivial, r0⟩
      | raw x => exact ⟨_, rfl, trivial, r0⟩
      | sl _ _ => exact False.elim r0
      | new _ => exact False.elim r0
    obtain ⟨_, _, _, r0⟩ := r0
    refine r0.seq e0 fun x a ρ1 o1 G1 H1 ⟨hd, r1⟩ s1 e1 ok1 fr1 => ?_
    subst hd
    refine r1.seq e1 fun y b ρ2 o2 G2 H2 ⟨k, d, hb, hv, ho, hl, n⟩ s2 e2 ok2 fr2 => ?_
    subst hb hv ho
    have okw := ok0.step (s1.trans s2) trivial
    obtain ⟨kvs, h1, h2⟩ := e2.wd.ok
    have s12 := (s0.trans s1).trans s2
    have ne : ∀ a, Own ρ2 σ a → a ≠ τ := fun a ha z => e2.onf a ha z
    have stp : Stp ρ σ o G H ρ2 σ (dicOb K τ (putD ps k d)) G2 (upd H2 τ (.dK (putK kvs k w))) := s12.trans ⟨Sub.refl, fun a z hz h3 _ => by rw [upd_ne h3]; exact hz, fun _ h _ _ _ => h, fun _ h => .inl h, fun _ h => .inl h⟩
    refine ⟨τ, _, ok1, ?_, qn ρ2 (dicOb K τ (putD ps k d)) G2 σ (upd H2 τ (.dK (putK kvs k w))) n stp ?_⟩
    · rw [vok_key ok2]
      exact DPut.k h1 (by rw [h2.len]; exact hl)
    · refine ⟨⟨⟨fun a z hz => ?_, e2.wd.nfp, fun a ha => ?_, ⟨_, upd_same, h2.put k okw⟩⟩, e2.len, fun j s hs => ?_, e2.dis, e2.onf⟩, e.wo.step stp⟩
      · rw [upd_ne (show a ≠ τ from fun q => by rw [q, e2.wd.nfp τ rfl] at hz; cases hz)]; exact e2.wd.sub _ _ hz
      · have : a = τ := ha
        subst this
        exact ⟨_, upd_same, trivial⟩
      · obtain ⟨ov, k1, k2⟩ := e2.sl j s hs
        refine ⟨ov, k1, k2.step Sub.refl fun q c hsc hv => ?_⟩
        subst hsc
        have ow : Own ρ2 σ q := ⟨j, ⟨c, hs⟩, by rw [k1, hv]⟩
        exact ⟨(e2.occ_own ow).1, upd_ne (ne q ow)⟩
/-- pairs of a display -/
inductive PPairs (K : Kx) : List (TE × TE) → List Sl → Ob → (DKv → RE) → Prop
  | nil {ρ : List Sl} {o : Ob} {J : DKv → RE} (r : J [] ρ o) : PPairs K [] ρ o J
  | cons {tk tv : TE} {r : List (TE × TE)} {ρ : List Sl} {o : Ob} {J : DKv → RE} (M : Key → PyData → RE) (h : XE K tk ρ o fun a ρ1 o1 => ∃ k : Key, a = .d (kD k) ∧ XEF K tv ρ1 o1 fun b ρ2 o2 => ∃ d, b = .d d ∧ M k d ρ2 o2)
      (t : ∀ k d ρ2 o2, M k d ρ2 o2 → PPairs K r ρ2 o2 fun ps => J ((k, d) :: ps)) : PPairs K ((tk, tv) :: r) ρ o J
theorem PPairs.run {trs : List (TE × TE)} {J : DKv → RE} (h : PPairs K trs ρ o J) : ∀ G σ H, En K o ρ G σ H → ∀ Q : List (V × V) → Hp → Prop,
    (∀ vs ps ρ' o' G' H', J ps ρ' o' → Stp ρ σ o G H ρ' σ o' G' H' → En K o' ρ' G' σ H' → KvR K G' vs ps → Q (vs.map fun kv => (kV kv.1, kv.2)) H') → tPairs trs σ H Q := by
  induction h with
  | nil r => intro G σ H e Q q; exact q [] _ _ _ _ _ r Stp.refl e .nil
  | cons M h t ih =>
    intro G σ H e Q q
    refine h.seq e fun x a ρ1 o1 G1 H1 ⟨k, hk, r1⟩ s1 e1 ok1 fr1 => ?_
    subst hk
    refine XE.seq r1 e1 fun y b ρ2 o2 G2 H2 ⟨d, hd, m⟩ s2 e2 ok2 fr2 => ?_
    subst hd
    refine ih k d ρ2 o2 m G2 σ H2 e2 _ fun vs ps ρ3 o3 G3 H3 r3 s3 e3 ok3 => ?_
    rw [vok_key ok1]
    exact q ((k, y) :: vs) _ _ _ _ _ r3 ((s1.trans s2).trans s3) e3 (.cons ⟨rfl, Rp.sub s3.g ok2⟩ ok3)
/-- a displayed dict: fresh -/
theorem xe_disp {trs : List (TE × TE)} (h : PPairs K trs ρ o fun ps ρ' o' => ps.length ≤ 15 ∧ R (.new (.dic (mergeD [] ps))) ρ' o') : XE K (tDisp trs) ρ o R := fun G σ H e Q q p hp => by
  refine h.run G σ (upd H p (.dK [])) (e.newO hp) _ fun vs ps ρ' o' G' H' ⟨hl, r⟩ s e' ok => ?_
  have nf := nofp e hp
  have no := noown e hp
  have hpp : H' p = some (.dK []) := s.h p _ upd_same nf no
  have gp : G' p = none := s.n p (e.wd.gnone hp) ⟨_, upd_same, trivial⟩ nf no
  have fr : H p = none ∨ o.fp p ∨ Own ρ σ p := .inl hp
  have nf' : ¬ o'.fp p := fun z => by
    rcases s.f p z with w | w | w
    · exact nf w
    · rw [upd_same] at w; cases w
    · exact no w
  have no' : ¬ Own ρ' σ p := fun z => by
    rcases s.w p z with w | w | w
    · exact no w
    · rw [upd_same] at w; cases w
    · exact nf w
  refine ⟨hpp, vs, rfl, by rw [ok.len]; exact hl, ?_⟩
  have s1 : Stp ρ σ o G H ρ' σ o' G' H' := (Stp.newO hp).trans s
  have s2 : Stp ρ σ o G H ρ' σ o' G' (upd H' p (.dK (mergeK [] vs))) :=
    ⟨s1.g, fun a z hz h1 h2 => by rw [upd_ne (ne_of_none hz hp)]; exact s1.h a z hz h1 h2, s1.n, s1.f, s1.w⟩
  refine q _ _ _ _ _ _ r s2 (e'.mutX gp nf' no' (e.wo.step s2)) ⟨p, _, rfl, gp, upd_same, ?_, nf', no'⟩ fun p' hp' => by cases hp'; exact fr
  exact KvR.merge ok (kvs := []) (ps := []) .nil

/-! ### changing what is known of the objects -/
theorem XS.enter {ts : TS} (h : ∀ G σ H, En K o ρ G σ H → ∃ o', EnB K o' ρ G σ H ∧ (∀ a, o'.fp a → o.fp a ∨ H a = none ∨ Own ρ σ a) ∧ (∀ a, o'.fp a → o.fp a) ∧ XS K ts ρ o' N R B C) : XS K ts ρ o N R B C := fun G σ H e D qn qr qb qc => by
  obtain ⟨o', e', hf, hf2, x⟩ := h G σ H e
  have s0 : Stp ρ σ o G H ρ σ o' G H := ⟨Sub.refl, fun _ _ h _ _ => h, fun _ h _ _ _ => h, hf, fun _ h => .inl h⟩
  exact x G σ H ⟨e', e.wo.step s0⟩ D (fun _ _ _ _ _ n s e => qn _ _ _ _ _ n (s0.trans s) e) (fun _ _ _ _ _ _ _ n s e ok fr => qr _ _ _ _ _ _ _ n (s0.trans s) e ok (fr.back s0)) (fun _ _ _ _ _ n s e => qb _ _ _ _ _ n (s0.trans s) e) (fun _ _ _ _ _ n s e => qc _ _ _ _ _ n (s0.trans s) e)
/-- more is known than is needed -/
structure Ob.le (o o' : Ob) : Prop where
  fp : ∀ a, o'.fp a ↔ o.fp a
  ok : ∀ G H, o.ok G H → o'.ok G H
theorem EnB.le {o o' : Ob} {G σ H} (e : EnB K o ρ G σ H) (l : Ob.le o o') : EnB K o' ρ G σ H :=
  ⟨⟨e.wd.sub, fun a h => e.wd.nfp a ((l.fp a).mp h), fun a h => e.wd.occ a ((l.fp a).mp h), l.ok _ _ e.wd.ok⟩, e.len, e.sl, e.dis, fun a h z => e.onf a h ((l.fp a).mp z)⟩
theorem Stp.le {ρ ρ' : List Sl} {σ σ' : L2.St} {o o1 o2 : Ob} {G H G' H' : Hp} (s : Stp ρ σ o G H ρ' σ' o1 G' H') (l : Ob.le o1 o2) : Stp ρ σ o G H ρ' σ' o2 G' H' := ⟨s.g, s.h, s.n, fun a h => s.f a ((l.fp a).mp h), s.w⟩
theorem En.le {o o' : Ob} {G σ H} (e : En K o ρ G σ H) (l : Ob.le o o') : En K o' ρ G σ H := ⟨e.toEnB.le l, e.wo.step (Stp.refl.le l)⟩
theorem VOk.le {ρ : List Sl} {σ : L2.St} {o1 o2 : Ob} {G H : Hp} {v : V} {dv : DV} (h : VOk K o1 ρ G σ H v dv) (l : Ob.le o1 o2) : VOk K o2 ρ G σ H v dv := by
  cases dv with
  | new c => obtain ⟨p, y, a, b, c, d, e, f⟩ := h; exact ⟨p, y, a, b, c, d, fun z => e ((l.fp p).mp z), f⟩
  | d _ => exact h
  | raw _ => exact h
  | sl _ _ => exact h
theorem xs_le {ts : TS} (h : XS K ts ρ o (fun ρ' o' => ∃ o2, Ob.le o' o2 ∧ N ρ' o2) (fun dv ρ' o' => ∃ o2, Ob.le o' o2 ∧ R dv ρ' o2) (fun ρ' o' => ∃ o2, Ob.le o' o2 ∧ B ρ' o2) (fun ρ' o' => ∃ o2, Ob.le o' o2 ∧ C ρ' o2)) : XS K ts ρ o N R B C := fun G σ H e D qn qr qb qc =>
  h G σ H e D (fun _ _ _ _ _ ⟨o2, l, n⟩ s e => qn _ _ _ _ _ n (s.le l) (e.le l)) (fun _ _ _ _ _ _ _ ⟨o2, l, n⟩ s e ok fr => qr _ _ _ _ _ _ _ n (s.le l) (e.le l) (ok.le l) fr) (fun _ _ _ _ _ ⟨o2, l, n⟩ s e => qb _ _ _ _ _ n (s.le l) (e.le l)) (fun _ _ _ _ _ ⟨o2, l, n⟩ s e => qc _ _ _ _ _ n (s.le l) (e.le l))
/-! ### small steps for a walk -/
theorem kept_d {x : PyData} : Kept ρ (.d x) := trivial
theorem kept_r {v : V} : Kept ρ (.raw v) := trivial
theorem kept_n {c : Cont} : Kept ρ (.new c) := trivial
theorem asr_d {x : PyData} (n : N (ρ.set i (.val x)) o) : AsR i N (.d x) ρ o := n
theorem asr_r {v : V} (n : N (ρ.set i (.raw v)) o) : AsR i N (.raw v) ρ o := n
theorem asr_n {c : Cont} (n : N (ρ.set i (.own c)) o) : AsR i N (.new c) ρ o := n
theorem hr_d {R' : DV → RE} {x : PyData} (n : R' (.d x) ρ o) : HandR R' (.d x) ρ o := n
theorem hr_r {R' : DV → RE} {v : V} (n : R' (.raw v) ρ o) : HandR R' (.raw v) ρ o := n
theorem fz_d {x : PyData} (n : R (.d x) ρ o) : FzR R (.d x) ρ o := n
theorem fz_r {v : V} (n : R (.raw v) ρ o) : FzR R (.raw v) ρ o := n
theorem fz_n {ds : List PyData} (n : R (.d (.list ds)) ρ o) : FzR R (.new (.lst ds)) ρ o := n
theorem out_d {R' : DV → Ob → Prop} {x : PyData} (n : R' (.d x) o) : OutR R' (.d x) ρ o := n
theorem out_r {R' : DV → Ob → Prop} {v : V} (n : R' (.raw v) o) : OutR R' (.raw v) ρ o := n
theorem out_n {R' : DV → Ob → Prop} {c : Cont} (n : R' (.new c) o) : OutR R' (.new c) ρ o := n
theorem out_s {R' : DV → Ob → Prop} {c : Cont} (n : R' (.new c) o) : OutR R' (.sl i c) ρ o := n
/-- a sequence, cut by what holds between -/
theorem XS.mono {ts : TS} {N' B' C' : RE} {R' : RD} (h : XS K ts ρ o N R B C) (hn : ∀ ρ o, N ρ o → N' ρ o) (hr : ∀ d ρ o, R d ρ o → R' d ρ o) (hb : ∀ ρ o, B ρ o → B' ρ o) (hc : ∀ ρ o, C ρ o → C' ρ o) : XS K ts ρ o N' R' B' C' := fun G σ H e D qn qr qb qc =>
  h G σ H e D (fun _ _ _ _ _ n => qn _ _ _ _ _ (hn _ _ n)) (fun _ _ _ _ _ _ _ n => qr _ _ _ _ _ _ _ (hr _ _ _ n)) (fun _ _ _ _ _ n => qb _ _ _ _ _ (hb _ _ n)) (fun _ _ _ _ _ n => qc _ _ _ _ _ (hc _ _ n))
theorem xs_cut {t u : TS} (M : RE) (h : XS K t ρ o M R B C) (k : ∀ ρ1 o1, M ρ1 o1 → XS K u ρ1 o1 N R B C) : XS K (tSeq t u) ρ o N R B C :=
  xs_seq (XS.mono h k (fun _ _ _ h => h) (fun _ _ h => h) fun _ _ h => h)
/-- the rest under a name: the goals stay small -/
theorem xs_seqH {t u : TS} (h : ∀ rest : RE, (∀ ρ o, XS K u ρ o N R B C → rest ρ o) → XS K t ρ o rest R B C) : XS K (tSeq t u) ρ o N R B C := xs_seq (h _ fun _ _ h => h)
theorem xs_ifH {t u : TS} (h : ∀ Y Z : RE, (∀ ρ o, XS K t ρ o N R B C → Y ρ o) → (∀ ρ o, XS K u ρ o N R B C → Z ρ o) → XT K tt ρ o fun b ρ1 o1 => (b = true → Y ρ1 o1) ∧ (b = false → Z ρ1 o1)) : XS K (tIfS tt t u) ρ o N R B C :=
  xs_if (h _ _ (fun _ _ h => h) fun _ _ h => h)
end
end DL

set_option Elab.async false
set_option linter.all false
set_option maxRecDepth 100000
namespace DL
open PySem PySem.Spec PyProof.Rows L2
theorem ki_int_bool {n : Int} : kitB (tyN (.int n)) "bool" = some false := by show kitB "int" "bool" = _; decide +kernel
theorem ki_int_int {n : Int} : kitB (tyN (.int n)) "int" = some true := by show kitB "int" "int" = _; decide +kernel
theorem ki_int_str {n : Int} : kitB (tyN (.int n)) "str" = some false := by show kitB "int" "str" = _; decide +kernel
theorem ki_int_tuple {n : Int} : kitB (tyN (.int n)) "tuple" = some false := by show kitB "int" "tuple" = _; decide +kernel
theorem ki_int_list {n : Int} : kitB (tyN (.int n)) "list" = some false := by show kitB "int" "list" = _; decide +kernel
theorem ki_str_bool {n : Str} : kitB (tyN (.str n)) "bool" = some false := by show kitB "str" "bool" = _; decide +kernel
theorem ki_str_int {n : Str} : kitB (tyN (.str n)) "int" = some false := by show kitB "str" "int" = _; decide +kernel
theorem ki_str_str {n : Str} : kitB (tyN (.str n)) "str" = some true := by show kitB "str" "str" = _; decide +kernel
theorem ki_str_tuple {n : Str} : kitB (tyN (.str n)) "tuple" = some false := by show kitB "str" "tuple" = _; decide +kernel
theorem ki_str_list {n : Str} : kitB (tyN (.str n)) "list" = some false := by show kitB "str" "list" = _; decide +kernel
theorem ki_bool_bool {n : Bool} : kitB (tyN (.bool n)) "bool" = some true := by show kitB "bool" "bool" = _; decide +kernel
theorem ki_bool_int {n : Bool} : kitB (tyN (.bool n)) "int" = some true := by show kitB "bool" "int" = _; decide +kernel
theorem ki_bool_str {n : Bool} : kitB (tyN (.bool n)) "str" = some false := by show kitB "bool" "str" = _; decide +kernel
theorem ki_bool_tuple {n : Bool} : kitB (tyN (.bool n)) "tuple" = some false := by show kitB "bool" "tuple" = _; decide +kernel
theorem ki_bool_list {n : Bool} : kitB (tyN (.bool n)) "list" = some false := by show kitB "bool" "list" = _; decide +kernel
theorem ki_tuple_bool {n : List PyData} : kitB (tyN (.tuple n)) "bool" = some false := by show kitB "tuple" "bool" = _; decide +kernel
theorem ki_tuple_int {n : List PyData} : kitB (tyN (.tuple n)) "int" = some false := by show kitB "tuple" "int" = _; decide +kernel
theorem ki_tuple_str {n : List PyData} : kitB (tyN (.tuple n)) "str" = some false := by show kitB "tuple" "str" = _; decide +kernel
theorem ki_tuple_tuple {n : List PyData} : kitB (tyN (.tuple n)) "tuple" = some true := by show kitB "tuple" "tuple" = _; decide +kernel
theorem ki_tuple_list {n : List PyData} : kitB (tyN (.tuple n)) "list" = some false := by show kitB "tuple" "list" = _; decide +kernel
theorem ki_list_bool {n : List PyData} : kitB (tyN (.list n)) "bool" = some false := by show kitB "list" "bool" = _; decide +kernel
theorem ki_list_int {n : List PyData} : kitB (tyN (.list n)) "int" = some false := by show kitB "list" "int" = _; decide +kernel
theorem ki_list_str {n : List PyData} : kitB (tyN (.list n)) "str" = some false := by show kitB "list" "str" = _; decide +kernel
theorem ki_list_tuple {n : List PyData} : kitB (tyN (.list n)) "tuple" = some false := by show kitB "list" "tuple" = _; decide +kernel
theorem ki_list_list {n : List PyData} : kitB (tyN (.list n)) "list" = some true := by show kitB "list" "list" = _; decide +kernel
/-! ### the tape -/
def tapeKvs (ns : List Int) (a l s t : Int) : DKv := [(Sum.inr "cells", .list (ns.map .int)), (Sum.inr "at", .int a), (Sum.inr "left", .int l), (Sum.inr "seed", .int s), (Sum.inr "salt", .int t)]
structure TInv (ns : List Int) (a l s t : Int) : Prop where
  h : ∀ n ∈ ns, 0 ≤ n
  a0 : 0 ≤ a
  l0 : 0 ≤ l
  s0 : 0 ≤ s
  s1 : s < 2147483647
  t0 : 0 ≤ t
def tapeOb (K : PySem.W.Frag) (τ : Addr) : Ob where
  fp := fun a => a = τ
  ok := fun G H => ∃ ns a l s t, TInv ns a l s t ∧ (dicOb K τ (tapeKvs ns a l s t)).ok G H
  st := fun G H G' H' ⟨ns, a, l, s, t, i, h⟩ sb hh => ⟨ns, a, l, s, t, i, (dicOb K τ _).st G H G' H' h sb hh⟩
theorem tape_le {K : PySem.W.Frag} {τ : Addr} {ns a l s t} (i : TInv ns a l s t) : Ob.le (dicOb K τ (tapeKvs ns a l s t)) (tapeOb K τ) := ⟨fun _ => Iff.rfl, fun _ _ h => ⟨ns, a, l, s, t, i, h⟩⟩
theorem xs_tape {K : Kx} {τ : Addr} {ts : TS} {ρ : List Sl} {N B C : RE} {R : RD} (h : ∀ ns a l s t, TInv ns a l s t → XS K ts ρ (dicOb K τ (tapeKvs ns a l s t)) N R B C) : XS K ts ρ (tapeOb K τ) N R B C :=
  XS.enter fun G σ H e => by
    obtain ⟨ns, a, l, s, t, i, ok⟩ := e.wd.ok
    exact ⟨dicOb K τ (tapeKvs ns a l s t), ⟨⟨e.wd.sub, e.wd.nfp, e.wd.occ, ok⟩, e.len, e.sl, e.dis, e.onf⟩, fun _ h => .inl h, fun _ h => h, h ns a l s t i⟩
theorem tk_cells {ns a l s t} : valD (tapeKvs ns a l s t) (Sum.inr "cells") = some (.list (ns.map .int)) := by with_unfolding_all rfl
theorem tk_at {ns a l s t} : valD (tapeKvs ns a l s t) (Sum.inr "at") = some (.int a) := by with_unfolding_all rfl
theorem tk_left {ns a l s t} : valD (tapeKvs ns a l s t) (Sum.inr "left") = some (.int l) := by with_unfolding_all rfl
theorem tk_seed {ns a l s t} : valD (tapeKvs ns a l s t) (Sum.inr "seed") = some (.int s) := by with_unfolding_all rfl
theorem tk_salt {ns a l s t} : valD (tapeKvs ns a l s t) (Sum.inr "salt") = some (.int t) := by with_unfolding_all rfl
theorem tp_at {ns a l s t x} : putD (tapeKvs ns a l s t) (Sum.inr "at") (.int x) = tapeKvs ns x l s t := by with_unfolding_all rfl
theorem tp_left {ns a l s t x} : putD (tapeKvs ns a l s t) (Sum.inr "left") (.int x) = tapeKvs ns a x s t := by with_unfolding_all rfl
theorem tp_salt {ns a l s t x} : putD (tapeKvs ns a l s t) (Sum.inr "salt") (.int x) = tapeKvs ns a l s x := by with_unfolding_all rfl
section
variable {K : Kx} {τ : Addr} {ρ : List Sl} {N B C : RE} {R : RD} {ns : List Int} {a l s t x : Int} {i : Nat} {te : TE}
theorem xe_tget {k : Str} {d : PyData} (hv : valD (tapeKvs ns a l s t) (Sum.inr k) = some d) (hi : ρ[i]? = some (.raw (.ref τ))) (r : R (.d d) ρ (dicOb K τ (tapeKvs ns a l s t))) : XE K (tDGet (tVar i) (tC (.str k))) ρ (dicOb K τ (tapeKvs ns a l s t)) R :=
  xe_oget (xe_vr hi ⟨rfl, xe_str ⟨Sum.inr k, d, rfl, rfl, hv, r⟩⟩)
theorem xs_tput {k : Str} (F : Int → DKv) (hp : ∀ x, putD (tapeKvs ns a l s t) (Sum.inr k) (.int x) = F x) (hi : ρ[i]? = some (.raw (.ref τ))) (h : XE K te ρ (dicOb K τ (tapeKvs ns a l s t)) fun dv ρ' o' => ρ' = ρ ∧ o' = dicOb K τ (tapeKvs ns a l s t) ∧ ∃ x, dv = .d (.int x) ∧ N ρ (dicOb K τ (F x))) :
    XS K (sDPut (tVar i) (tC (.str k)) te) ρ (dicOb K τ (tapeKvs ns a l s t)) N R B C := xs_oput (τ := τ) (ps := tapeKvs ns a l s t) (XE.mono h fun dv ρ' o' ⟨h1, h2, x, h3, n⟩ => by
  subst h1 h2 h3
  exact xe_vr hi ⟨rfl, xe_str ⟨Sum.inr k, .int x, rfl, rfl, rfl, by show 5 < sizeLine; rw [sizeLine_eq]; decide, by rw [hp x]; exact n⟩⟩)
end
/-- the script, read -/
def scriptOb (K : PySem.W.Frag) (a : Addr) (ns : List Int) : Ob := ⟨fun _ => False, fun G _ => SqL K G a (ns.map V.int), fun _ _ _ _ h s _ => SqL.sub s h⟩
def S__law_take (K : PySem.W.Frag) : DS := fun dvs o R X => ∃ τ n, dvs = [.raw (.ref τ), .d (.int n)] ∧ o = tapeOb K τ ∧ 0 < n ∧ n ≤ 1000000 ∧ ∀ k, 0 ≤ k → k < n → R (.d (.int k)) (tapeOb K τ)

section
variable {K : Kx} {ρ : List Sl} {o : Ob} {R : RD} {N B C : RE} {te ta tb tc : TE} {tt : TT} {i : Nat} {T : TA} {g : TG} {is : List Nat}
theorem xc_abs {n : Int} (r : R (.d (.int (if n < 0 then -n else n))) ρ o) : XC K (fun xs H Q => ∃ i, xs = [.int i] ∧ Q (.int (if i < 0 then -i else i)) H) [.d (.int n)] ρ o R := fun G σ H vs e h0 Q q => by
  obtain ⟨v, rfl, h⟩ := va1 h0
  cases vok_int h
  exact ⟨n, rfl, xq_now q e r (.int _)⟩
/-- a comprehension over the script -/
theorem xe_lcI {tl : TE} (h : DL.XE K tl ρ o fun dv ρ1 o1 => ∃ a ns, dv = .raw (.ref a) ∧ o1 = scriptOb K a ns ∧ NoOw ρ1 is ∧ ∃ I : Nat → List PyData → Ob → Prop, I 0 [] o1 ∧
      (∀ k n acc o', ns[k]? = some n → acc.length < sizeLine → I k acc o' → ∃ ds, BT K g is (.int n) ds ∧ LcTurn K tt te ρ1 is ds o' fun y o2 => match y with | some d => (acc ++ [d]).length < sizeLine ∧ I (k + 1) (acc ++ [d]) o2 | none => I (k + 1) acc o2) ∧
      ∀ acc o', acc.length < sizeLine → I ns.length acc o' → R (.new (.lst acc)) ρ1 o') : DL.XE K (tLc (iList K tl) g tt te is) ρ o R := fun G σ H e0 Q q =>
  h G σ H e0 _ fun v dv ρ1 o1 G1 H1 ⟨a, ns, hd, ho, no, I, i0, it, ie⟩ s1 e1 okl _ => by
    subst hd
    subst ho
    have okl : v = .ref a := okl
    subst okl
    have hsq : SqL K G1 a (ns.map V.int) := e1.wd.ok
    refine ⟨a, rfl, ⟨_, SqL.sub e1.wd.sub hsq⟩, fun D hD => ?_⟩
    have fr := s1.old (.inl hD)
    refine lc_list (xs := ns.map V.int) (fun k H' => LcP K (I k) ρ σ o G H ρ1 G1 D H') (lc_start i0 s1 e1 hD) (fun k H' _ p => ?_) (fun k x H' hk p => ?_) fun H' p => ?_
    · obtain ⟨acc, o', G', xs, i, s, e, hD', gD, nf, nw, ok, hl, sb⟩ := p
      exact SqL.sub (sb.trans e.wd.sub) hsq
    · obtain ⟨acc, o', G', xs, i, s, e, hD', gD, nf, nw, ok, hl, sb⟩ := p
      rw [List.getElem?_map] at hk
      cases hn : ns[k]? with
      | none => rw [hn] at hk; cases hk
      | some n =>
        rw [hn] at hk
        cases hk
        obtain ⟨ds, bt, turn⟩ := it k n acc o' hn hl i
        exact lc_turn (I := I k) (I' := I (k + 1)) bt no fr s e hD' gD nf nw ok sb (.int _) hl e0.wo turn
    · rw [List.length_map] at p
      exact lc_end fr q ie p
end
section
variable {K : Kx}
theorem pp_str {s : Str} {tv : TE} {r : List (TE × TE)} {ρ : List Sl} {o : Ob} {J : DKv → RE} (h : XEF K tv ρ o fun b ρ2 o2 => ∃ d, b = .d d ∧ PPairs K r ρ2 o2 fun ps => J ((Sum.inr s, d) :: ps)) : PPairs K ((tC (.str s), tv) :: r) ρ o J :=
  .cons (fun k d ρ2 o2 => PPairs K r ρ2 o2 fun ps => J ((k, d) :: ps)) (xe_str ⟨Sum.inr s, rfl, h⟩) fun _ _ _ _ h => h
end
section
variable {K : Kx} {ρ : List Sl} {o : Ob} {R : RD}
/-- a tuple or a list -/
def IsSq (d : PyData) (ds : List PyData) : Prop := d = .tuple ds ∨ d = .list ds
theorem xc_lenQ {d : PyData} {ds : List PyData} (h : IsSq d ds) (r : R (.d (.int ds.length)) ρ o) : XC K (fun xs H Q => ∃ x n, xs = [x] ∧ LenV K x H n ∧ Q (.int (n : Nat)) H) [.d d] ρ o R := by
  rcases h with rfl | rfl
  · exact xc_lenT r
  · exact xc_lenL rfl r
theorem xr_ixQ {d : PyData} {ds : List PyData} {n : Int} {x : PyData} (h : IsSq d ds) (hx : atI ds n = some x) (r : R (.d x) ρ o) : XR K (rIx K) (.d d) (.d (.int n)) ρ o R := by
  rcases h with rfl | rfl
  · exact xr_ixT hx r
  · exact xr_ixL rfl hx r
end
section
variable {K : Kx} {ρ : List Sl} {o : Ob} {R : RD}
theorem xr_isN_non (r : R (.d (.bool true)) ρ o) : XR K (fun x y H Q => y = .non ∧ Q (.bl (decide (x = .non))) H) (.d (.none)) (.d .none) ρ o R := xr_isN r
theorem xr_notN_non (r : R (.d (.bool false)) ρ o) : XR K (fun x y H Q => y = .non ∧ Q (.bl (!decide (x = .non))) H) (.d (.none)) (.d .none) ρ o R := xr_notN r
theorem xr_isN_int {m : Int} (r : R (.d (.bool false)) ρ o) : XR K (fun x y H Q => y = .non ∧ Q (.bl (decide (x = .non))) H) (.d (.int m)) (.d .none) ρ o R := xr_isN r
theorem xr_notN_int {m : Int} (r : R (.d (.bool true)) ρ o) : XR K (fun x y H Q => y = .non ∧ Q (.bl (!decide (x = .non))) H) (.d (.int m)) (.d .none) ρ o R := xr_notN r
theorem xr_isN_str {m : Str} (r : R (.d (.bool false)) ρ o) : XR K (fun x y H Q => y = .non ∧ Q (.bl (decide (x = .non))) H) (.d (.str m)) (.d .none) ρ o R := xr_isN r
theorem xr_notN_str {m : Str} (r : R (.d (.bool true)) ρ o) : XR K (fun x y H Q => y = .non ∧ Q (.bl (!decide (x = .non))) H) (.d (.str m)) (.d .none) ρ o R := xr_notN r
theorem xr_isN_bl {m : Bool} (r : R (.d (.bool false)) ρ o) : XR K (fun x y H Q => y = .non ∧ Q (.bl (decide (x = .non))) H) (.d (.bool m)) (.d .none) ρ o R := xr_isN r
theorem xr_notN_bl {m : Bool} (r : R (.d (.bool true)) ρ o) : XR K (fun x y H Q => y = .non ∧ Q (.bl (!decide (x = .non))) H) (.d (.bool m)) (.d .none) ρ o R := xr_notN r
theorem xr_isN_tup {m : List PyData} (r : R (.d (.bool false)) ρ o) : XR K (fun x y H Q => y = .non ∧ Q (.bl (decide (x = .non))) H) (.d (.tuple m)) (.d .none) ρ o R := xr_isN r
theorem xr_notN_tup {m : List PyData} (r : R (.d (.bool true)) ρ o) : XR K (fun x y H Q => y = .non ∧ Q (.bl (!decide (x = .non))) H) (.d (.tuple m)) (.d .none) ρ o R := xr_notN r
theorem xr_isN_lst {m : List PyData} (r : R (.d (.bool false)) ρ o) : XR K (fun x y H Q => y = .non ∧ Q (.bl (decide (x = .non))) H) (.d (.list m)) (.d .none) ρ o R := xr_isN r
theorem xr_notN_lst {m : List PyData} (r : R (.d (.bool true)) ρ o) : XR K (fun x y H Q => y = .non ∧ Q (.bl (!decide (x = .non))) H) (.d (.list m)) (.d .none) ρ o R := xr_notN r
end
theorem atD_of {α : Type} {xs : List α} {z : Int} {j : Nat} {v : α} (e : z = (j : Int)) (h : xs[j]? = some v) : atI xs z = some v := by
  rw [e]
  have hj := (List.getElem?_eq_some_iff.mp h).1
  unfold atI ixN
  rw [if_pos (by omega), if_pos (by omega)]
  simpa using h
section
variable {K : Kx} {ρ : List Sl} {o : Ob} {R : RD} {T : TA} {te : TE}
theorem ty_s {s : Str} : TyD "str" (.d (.str s)) := rfl
theorem ty_l {s : List PyData} : TyD "list" (.d (.list s)) := rfl
theorem ty_o {i : Nat} {s : List PyData} : TyD "list" (.sl i (.lst s)) := rfl
theorem ty_n {s : List PyData} : TyD "list" (.new (.lst s)) := rfl
theorem nat_small {n : Nat} (h : Nat.ble n 1000 = true) : n ≤ sizeLine := Nat.le_trans (Nat.ble_eq.mp h) (by rw [sizeLine_eq]; decide)
theorem kept_s {i : Nat} {c : Cont} (h : ρ[i]? = some (.own c)) : DL.Kept ρ (.sl i c) := h
/-- arguments that are data -/
def XAD (K : Kx) (T : TA) (ρ : List Sl) (o : Ob) (R : List PyData → RE) : Prop := XAF K T ρ o fun dvs ρ' o' => ∃ ds : List PyData, dvs = ds.map .d ∧ R ds ρ' o'
theorem XAF.mono {R R' : List DV → RE} (h : XAF K T ρ o R) (k : ∀ ds ρ' o', R ds ρ' o' → R' ds ρ' o') : XAF K T ρ o R' := XA.mono h fun ds ρ' o' ⟨a, b⟩ => ⟨a, k _ _ _ b⟩
theorem xad_nil {R : List PyData → RE} (r : R [] ρ o) : XAD K tNil ρ o R := xaf_nil ⟨[], rfl, r⟩
theorem xad_cons {R : List PyData → RE} (h : XEF K te ρ o fun a ρ1 o1 => ∃ d, a = .d d ∧ XAD K T ρ1 o1 fun ds ρ2 o2 => R (d :: ds) ρ2 o2) : XAD K (tCons te T) ρ o R :=
  xaf_cons (XE.mono h fun a ρ1 o1 ⟨d, hd, r⟩ => by
    subst hd
    exact hr_d (XAF.mono r fun dvs ρ2 o2 ⟨ds, e, r⟩ => ⟨d :: ds, by rw [e]; rfl, r⟩))
theorem xe_tupD (h : XAD K T ρ o fun ds ρ' o' => ds.length ≤ sizeLine ∧ R (.d (.tuple ds)) ρ' o') : DL.XE K (tTup T) ρ o R := xe_tup (XAF.mono h fun dvs ρ' o' ⟨ds, e, l, r⟩ => ⟨ds, e, l, r⟩)
theorem xe_lstD (h : XAD K T ρ o fun ds ρ' o' => ds.length ≤ sizeLine ∧ R (.new (.lst ds)) ρ' o') : DL.XE K (tLst T) ρ o R := xe_lst (XAF.mono h fun dvs ρ' o' ⟨ds, e, l, r⟩ => ⟨ds, e, l, r⟩)
theorem len_small {α : Type} {l : List α} (h : Nat.ble l.length 1000 = true) : l.length ≤ sizeLine := by
  have := Nat.ble_eq.mp h
  exact Nat.le_trans this (by rw [sizeLine_eq]; decide)
end
/-- a call that never comes -/
def S_never (_ : PySem.W.Frag) : DS := fun _ _ _ _ => False
theorem never_ok {P : Program} {w : World} {K : PySem.W.Frag} {mg : Str → Option Value} {base : Heap} {k : Nat} {f : Addr} {fd : FuncData} {ps : List Str} : FnOk P w K mg base CX0 k f fd ps (spD K (S_never K)) :=
  ⟨fun vs H Q E ⟨_, _, _, _, _, _, _, z, _⟩ => z.elim, fun A outer s H args us vs Q E _ _ _ _ ⟨_, _, _, _, _, _, _, z, _⟩ => z.elim⟩
/-! ### known tests -/
theorem bs_t {A B : Prop} (h : A) : (true = true → A) ∧ (true = false → B) := ⟨fun _ => h, fun z => nomatch z⟩
theorem bs_f {A B : Prop} (h : B) : (false = true → A) ∧ (false = false → B) := ⟨fun z => (nomatch z), fun _ => h⟩
theorem bs_nt {A B : Prop} (h : B) : ((!true) = true → A) ∧ ((!true) = false → B) := ⟨fun z => (nomatch z), fun _ => h⟩
theorem bs_nf {A B : Prop} (h : A) : ((!false) = true → A) ∧ ((!false) = false → B) := ⟨fun _ => h, fun z => nomatch z⟩
theorem bs_d {A B p : Prop} [Decidable p] (h : p → A) (k : ¬ p → B) : (decide p = true → A) ∧ (decide p = false → B) := ⟨fun z => h (of_decide_eq_true z), fun z => k (of_decide_eq_false z)⟩
theorem bs_nd {A B p : Prop} [Decidable p] (h : ¬ p → A) (k : p → B) : ((!decide p) = true → A) ∧ ((!decide p) = false → B) := ⟨fun z => h (of_decide_eq_false (by simpa using z)), fun z => k (of_decide_eq_true (by simpa using z))⟩
theorem bs_b {A B : Prop} {b : Bool} (h : b = true → A) (k : b = false → B) : (b = true → A) ∧ (b = false → B) := ⟨h, k⟩
theorem bs_nb {A B : Prop} {b : Bool} (h : b = false → A) (k : b = true → B) : ((!b) = true → A) ∧ ((!b) = false → B) := ⟨fun z => h (by simpa using z), fun z => k (by simpa using z)⟩
theorem noow_cons {ρ : List Sl} {j : Nat} {js : List Nat} (h : Nat.blt j ρ.length = true ∧ ∀ c, ρ[j]? ≠ some (.own c)) (t : NoOw ρ js) : NoOw ρ (j :: js) := fun i hi => (List.mem_cons.mp hi).elim (fun e => by rw [e]; exact ⟨lt_of_blt h.1, h.2⟩) (t i)
theorem noow_nil {ρ : List Sl} : NoOw ρ [] := fun i hi => nomatch hi
/-! ### promises of the law's own defs -/
def S__law_tape (K : PySem.W.Frag) : DS := fun dvs o R X => ∃ a ns, dvs = [.raw (.ref a)] ∧ o = scriptOb K a ns ∧ ns.length ≤ 63 ∧ ∀ cs s, (∀ n ∈ cs, 0 ≤ n) → 0 ≤ s → s < 2147483647 → R (.new (.dic (tapeKvs cs 0 0 s 0))) o
/-- data of a depth, without dicts -/
inductive Sm : Nat → PyData → Prop where
  | non {n : Nat} : Sm n .none
  | bl {n : Nat} {b : Bool} : Sm n (.bool b)
  | int {n : Nat} {b : Int} : Sm n (.int b)
  | str {n : Nat} {b : Str} : Sm n (.str b)
  | tup {n : Nat} {ds : List PyData} (l : ds.length < 2 ^ 62) (h : ∀ d ∈ ds, Sm n d) : Sm (n + 1) (.tuple ds)
  | lst {n : Nat} {ds : List PyData} (l : ds.length < 2 ^ 62) (h : ∀ d ∈ ds, Sm n d) : Sm (n + 1) (.list ds)
  | dic {n : Nat} {ps : DKv} (nd : (ps.map Prod.fst).Nodup) (h : ∀ p ∈ ps, Sm n p.2) : Sm (n + 1) (dicD ps)
def S__law_is_integer (_ : PySem.W.Frag) : DS := fun dvs o R X => ∃ n, dvs = [.d (.int n)] ∧ R (.d (.bool true)) o
def S__law_same_items (n : Nat) (_ : PySem.W.Frag) : DS := fun dvs o R X => ∃ m d ds, dvs = [.d d, .d d] ∧ n = m + 1 ∧ IsSq d ds ∧ ds.length < 2 ^ 62 ∧ (∀ d ∈ ds, Sm m d) ∧ R (.d (.bool true)) o
def S__law_same (n : Nat) (_ : PySem.W.Frag) : DS := fun dvs o R X => ∃ d, dvs = [.d d, .d d] ∧ Sm n d ∧ R (.d (.bool true)) o
/-- the codes of texts -/
def okc (c : Nat) : Prop := c = 10 ∨ (32 ≤ c ∧ c ≤ 126 ∧ c ≠ 37)
instance (c : Nat) : Decidable (okc c) := by unfold okc; infer_instance
structure TextOk (s : Str) (n : Nat) : Prop where
  len : s.length ≤ n
  ok : ∀ c ∈ s.cps.toList, okc c
def S__law_snippet (K : PySem.W.Frag) : DS := fun dvs o R X => ∃ τ, dvs = [.raw (.ref τ)] ∧ o = tapeOb K τ ∧ ∀ s, TextOk s 50 → R (.d (.str s)) (tapeOb K τ)
def S__law_char (K : PySem.W.Frag) : DS := fun dvs o R X => ∃ τ, dvs = [.raw (.ref τ)] ∧ o = tapeOb K τ ∧ ∀ s, TextOk s 1 → R (.d (.str s)) (tapeOb K τ)
def S__law_any_text (K : PySem.W.Frag) : DS := fun dvs o R X => ∃ τ n, dvs = [.raw (.ref τ), .d (.int n)] ∧ o = tapeOb K τ ∧ 0 ≤ n ∧ n ≤ 1000 ∧ ∀ s, TextOk s (50 * n.toNat) → R (.d (.str s)) (tapeOb K τ)
theorem TextOk.empty {n : Nat} : TextOk ⟨#[]⟩ n := ⟨Nat.zero_le _, fun c h => by simp at h⟩
theorem TextOk.mono {s : Str} {m n : Nat} (h : TextOk s m) (l : m ≤ n) : TextOk s n := ⟨Nat.le_trans h.len l, h.ok⟩
open TL
theorem len_tl (s : Str) : s.length = (tl s).length := by
  show s.cps.size = s.cps.toList.length
  rw [Array.length_toList]
theorem str_ext {a b : Str} (h : tl a = tl b) : a = b := by
  cases a with
  | mk x => cases b with
    | mk y =>
      have : x = y := by
        apply Array.ext'
        exact h
      rw [this]
theorem str_eq_iff {a b : Str} : a = b ↔ tl a = tl b := ⟨fun h => by rw [h], str_ext⟩
abbrev nI (n : Nat) : PyData := .int (n : Int)
theorem take_snoc {α : Type} {l : List α} {k : Nat} {x : α} (h : l[k]? = some x) : l.take (k + 1) = l.take k ++ [x] := by
  rw [List.take_add_one, h]; rfl
theorem joinL_nil : ∀ l : List (List Nat), joinL [] l = l.flatten
  | [] => rfl
  | [x] => by show x = x ++ []; rw [List.append_nil]
  | p :: q :: r => by
    show p ++ ([] ++ joinL [] (q :: r)) = p ++ (q :: r).flatten
    rw [List.nil_append, joinL_nil (q :: r)]
theorem join_tl (y : Str) (parts : List Str) : tl (Txt.join y parts) = joinL (tl y) (parts.map tl) := by rw [join_eq, tl_join]
theorem joinE_tl (ys : List Str) : tl (Txt.join "" ys) = (ys.map tl).flatten := by
  rw [join_tl]
  have : tl ("" : Str) = [] := by decide +kernel
  rw [this, joinL_nil]
theorem flat_ok {m : Nat} : ∀ {ys : List Str}, (∀ s ∈ ys, TextOk s m) → (ys.map tl).flatten.length ≤ m * ys.length ∧ (∀ c ∈ (ys.map tl).flatten, okc c) ∧ (ys.map (·.length)).sum ≤ m * ys.length
  | [], _ => ⟨Nat.le_refl _, fun c h => by simp at h, Nat.le_refl _⟩
  | s :: ys, h => by
    obtain ⟨h1, h2, h3⟩ := flat_ok fun z hz => h z (List.mem_cons_of_mem _ hz)
    have hs := h s List.mem_cons_self
    have hl := hs.len
    rw [len_tl] at hl
    rw [List.map_cons, List.flatten_cons, List.length_append, List.length_cons, List.map_cons, List.sum_cons, Nat.mul_succ, len_tl]
    refine ⟨by omega, fun c hc => ?_, by omega⟩
    rcases List.mem_append.mp hc with z | z
    · exact hs.ok c z
    · exact h2 c z
theorem TextOk.join {m k : Nat} {ys : List Str} (h : ∀ s ∈ ys, TextOk s m) (hk : ys.length ≤ k) : TextOk (Txt.join "" ys) (m * k) := by
  obtain ⟨h1, h2, _⟩ := flat_ok h
  refine ⟨?_, ?_⟩
  · rw [len_tl, joinE_tl]; exact Nat.le_trans h1 (Nat.mul_le_mul_left m hk)
  · rw [show (Txt.join "" ys).cps.toList = tl (Txt.join "" ys) from rfl, joinE_tl]; exact h2
theorem join_room {m k : Nat} {ys : List Str} (h : ∀ s ∈ ys, TextOk s m) (hk : ys.length ≤ k) (hm : m * k ≤ 16777216) : (ys.map (·.length)).sum + ys.length * ("" : Str).length ≤ 16777216 := by
  obtain ⟨_, _, h3⟩ := flat_ok h
  have e : ("" : Str).length = 0 := by decide +kernel
  rw [e, Nat.mul_zero, Nat.add_zero]
  exact Nat.le_trans h3 (Nat.le_trans (Nat.mul_le_mul_left m hk) hm)
/-- a written text is such a text -/
theorem textOk_of {s : Str} {n : Nat} (h : (decide (s.length ≤ n) && s.cps.toList.all (fun c => decide (okc c))) = true) : TextOk s n := by
  rw [Bool.and_eq_true] at h
  exact ⟨of_decide_eq_true h.1, fun c hc => of_decide_eq_true (List.all_eq_true.mp h.2 c hc)⟩
end DL

set_option Elab.async false
set_option linter.all false
set_option maxRecDepth 100000
namespace DL
open PySem PySem.Spec PyProof.Rows L2
/-! ### str.replace of written texts: a token must be out -/
section
variable {X : Cx} {pos : Pos}
theorem PSsT.nox {st : List Stmt} {t : TS} (h : PSsT X.nox st t) : PSsT X st t := fun pins s σ H D h0 I hw =>
  wpAny_mono (h pins s σ H D h0 (I.wish _) hw) (fun _ _ q => q.unwish) fun _ _ z => False.elim z
theorem PET.of {e : Expr} {t : TE} (h : PE X e t) : PET X e t := fun pins s σ H Q _ I q => h.run pins s σ H Q I q
def tRepC (y z : Str) (to : TE) : TE := fun σ H Q => to σ H fun x H1 => ∃ a, x = .str a ∧ a.length + (a.length + 1) * z.length ≤ 16777216 ∧ Q (.str (Txt.replace a y z)) H1
end
section
variable {K : Kx} {ρ : List Sl} {o : Ob} {R : RD} {te : TE}
theorem xe_repC {y z : Str} (h : DL.XE K te ρ o fun dv ρ1 o1 => ∃ a, dv = .d (.str a) ∧ a.length + (a.length + 1) * z.length ≤ 16777216 ∧ R (.d (.str (Txt.replace a y z))) ρ1 o1) : DL.XE K (tRepC y z te) ρ o R := fun G σ H e Q q =>
  h.seq e fun x a ρ1 o1 G1 H1 ⟨s, hd, hl, r⟩ s1 e1 ok1 fr1 => by
    subst hd
    exact ⟨s, vok_str ok1, hl, q _ _ _ _ _ _ r s1 e1 (.str _) trivial⟩
end
section
variable {P : Program} {w : World} {K : PySem.W.Frag} {mg : Str → Option Value} {base : Heap}
end
/-! ### truth -/
def tTru (K : PySem.W.Frag) (te : TE) : TT := fun σ H Q => te σ H fun x H' => ∃ k, TruV K x H' k ∧ Q k H'
theorem pt_truK {X : Cx} {K : PySem.W.Frag} {a : Expr} {ta : TE} (h : X.K = K) (ha : PE X a ta) (he : ∀ whole, isTrue a X.env whole = (do let v ← whole; standAt a.pos; holding [v] (truthy v))) : PT X a (tTru K ta) := by
  subst h
  exact pt_truth ha he
def TruD : DV → Bool → Prop
  | .d .none, b => b = false
  | .d (.bool k), b => b = k
  | .d (.int i), b => b = (i != 0)
  | .d (.str z), b => z.length ≤ sizeLine ∧ b = ((z.length : Int) != 0)
  | .d (.list l), b => b = !l.isEmpty
  | .d (.tuple l), b => b = !l.isEmpty
  | .sl _ (.lst l), b => b = !l.isEmpty
  | .new (.lst l), b => b = !l.isEmpty
  | _, _ => False
theorem RpAll.emp {K : PySem.W.Frag} {G : Hp} {xs : List V} {ds : List PyData} (h : RpAll K G xs ds) : xs.isEmpty = ds.isEmpty := by cases h <;> rfl
section
variable {K : Kx} {ρ : List Sl} {o : Ob} {R : RD} {te : TE} {i : Nat} {R' : Bool → RE}
theorem TruD.ok {dv : DV} {b : Bool} (h : TruD dv b) {G : Hp} {σ : L2.St} {H : Hp} {x : V} (e : En K o ρ G σ H) (ok : VOk K o ρ G σ H x dv) : TruV K x H b := by
  have lst : ∀ {dv : DV} {l : List PyData}, IsL ρ dv l → VOk K o ρ G σ H x dv → b = (!l.isEmpty) → TruV K x H b := fun {dv l} il ok hb => by
    obtain ⟨p, xs, rfl, hp, hr⟩ := il.at e ok
    exact .inl ⟨xs, .inl (.inl hp), by rw [hr.emp]; exact hb⟩
  cases dv with
  | d z =>
    cases z with
    | none => cases vok_non ok; exact h
    | bool k => cases vok_bl ok; exact h
    | int k => cases vok_int ok; exact h
    | str k => cases vok_str ok; exact h
    | list l => exact lst (dv := .d (.list l)) rfl ok h
    | tuple l =>
      cases ok with
      | tup h1 h2 => exact .inr (.inl ⟨_, SqT.sub e.wd.sub h1, by rw [h2.emp]; exact h⟩)
    | dict _ => exact h.elim
  | raw _ => exact h.elim
  | sl j c => cases c with
    | lst l => exact lst (dv := .sl j (.lst l)) rfl ok h
    | dic _ => exact h.elim
  | new c => cases c with
    | lst l => exact lst (dv := .new (.lst l)) rfl ok h
    | dic _ => exact h.elim
theorem xt_tru (h : DL.XE K te ρ o fun dv ρ1 o1 => ∃ b, TruD dv b ∧ R' b ρ1 o1) : XT K (tTru K te) ρ o R' := fun G σ H e Q q =>
  h.seq e fun x dv ρ1 o1 G1 H1 ⟨b, ht, r⟩ s1 e1 ok1 fr1 => ⟨b, ht.ok e1 ok1, q _ _ _ _ _ r s1 e1⟩
theorem tru_b {k : Bool} : TruD (.d (.bool k)) k := rfl
theorem tru_l {l : List PyData} : TruD (.d (.list l)) (!l.isEmpty) := rfl
theorem tru_t {l : List PyData} : TruD (.d (.tuple l)) (!l.isEmpty) := rfl
theorem tru_s {l : List PyData} : TruD (.sl i (.lst l)) (!l.isEmpty) := rfl
/-- a name whose thing is owned and no list: it waits for a word -/
def XEV (K : Kx) (i : Nat) (ρ : List Sl) (o : Ob) (R : RD) : Prop := XEF K (tVar i) ρ o R
theorem xf_stuck {i : Nat} {ρ : List Sl} {o : Ob} {R : RD} (h : XEV K i ρ o R) : XEF K (tVar i) ρ o R := h
end
/-- a statement that the walk does not look into -/
def Hold (p : Prop) : Prop := p
theorem hold {p : Prop} (h : p) : Hold p := h
theorem sgn_eq {c d : Nat} {s : Str} (hs : TL.tl s = [d]) : ((⟨#[c]⟩ : Str) = s) ↔ c = d := by
  rw [str_eq_iff, hs]
  show [c] = [d] ↔ c = d
  simp
theorem sgn_dec {c d : Nat} {s : Str} (hs : TL.tl s = [d]) : decide ((⟨#[c]⟩ : Str) = s) = decide (c = d) := by
  rw [decide_eq_decide]; exact sgn_eq hs
/-! ### the law's own start -/
def S_law (K : PySem.W.Frag) : DS := fun dvs o R X => ∃ a ns, dvs = [.raw (.ref a)] ∧ o = scriptOb K a ns ∧ ns.length ≤ 63 ∧ ∀ o', R (.d (.bool true)) o'
theorem law_start {K : PySem.W.Frag} {H : Hp} {a : Addr} {ns : List Int} (hl : ns.length ≤ 63) (hS : SqL K H a (ns.map V.int)) : spD K (S_law K) [.ref a] H (fun v _ => v = .bl true) fun _ _ _ => False :=
  ⟨H, scriptOb K a ns, [.raw (.ref a)], fun dv _ => dv = .d (.bool true), fun _ _ => False, ⟨Sub.refl, fun _ h => h.elim, fun _ h => h.elim, hS⟩, .cons rfl .nil, ⟨a, ns, rfl, rfl, hl, fun _ => rfl⟩,
    fun v dv o' G' H' hd _ _ ok _ => by subst hd; exact vok_bl ok, fun _ _ _ _ _ _ h => h.elim⟩
end DL

set_option Elab.async false
set_option linter.all false
set_option maxRecDepth 100000
namespace DL
open PySem PySem.Spec PyProof.Rows L2 TL
/-! ### pieces of texts -/
theorem tl_cut (z : Str) (lo hi : Option Int) : tl (cutS z lo hi) = ((tl z).drop (HT.sIx z.length 0 lo)).take (HT.sIx z.length z.length hi - HT.sIx z.length 0 lo) := by
  show (cutS z lo hi).cps.toList = _
  unfold cutS
  rw [List.toList_toArray]
theorem tl_cutTo (z : Str) (n : Nat) : tl (cutS z none (some (n : Int))) = (tl z).take n := by
  rw [tl_cut, HT.sIx_nat, HT.sIx_none, List.drop_zero, Nat.sub_zero]
  by_cases h : n ≤ z.length
  · rw [Nat.min_eq_left h]
  · rw [Nat.min_eq_right (by omega), List.take_of_length_le (by rw [← len_tl]; exact Nat.le.refl), List.take_of_length_le (by rw [← len_tl]; omega)]
theorem tl_cutFrom (z : Str) (n : Nat) : tl (cutS z (some (n : Int)) none) = (tl z).drop n := by
  rw [tl_cut, HT.sIx_nat, HT.sIx_none]
  by_cases h : n ≤ z.length
  · rw [Nat.min_eq_left h, List.take_of_length_le (by rw [List.length_drop, ← len_tl]; exact Nat.le_refl _)]
  · rw [Nat.min_eq_right (by omega), List.drop_of_length_le (by rw [← len_tl]; exact Nat.le_refl _), List.drop_of_length_le (by rw [← len_tl]; omega)]
    simp
theorem tl_cutN (z : Str) (m n : Nat) : tl (cutS z (some (m : Int)) (some (n : Int))) = ((tl z).take n).drop m := by
  rw [tl_cut, HT.sIx_nat, HT.sIx_nat, List.drop_take]
  have e : (tl z).length = z.length := (len_tl z).symm
  by_cases h : m ≤ z.length
  · rw [Nat.min_eq_left h]
    by_cases k : n ≤ z.length
    · rw [Nat.min_eq_left k]
    · rw [Nat.min_eq_right (by omega), List.take_of_length_le (by rw [List.length_drop, e]; exact Nat.le_refl _), List.take_of_length_le (by rw [List.length_drop, e]; omega)]
  · rw [Nat.min_eq_right (Nat.le_of_lt (Nat.lt_of_not_le h)), List.drop_of_length_le (by rw [e]; exact Nat.le_refl _), List.drop_of_length_le (by rw [e]; omega)]
    simp
theorem cut_len (z : Str) (lo hi : Option Int) : (cutS z lo hi).length ≤ z.length := by
  rw [len_tl, tl_cut, List.length_take, List.length_drop, len_tl z]
  omega
section
variable {K : Kx} {ρ : List Sl} {o : Ob} {R : RD}
theorem isl_n {ds : List PyData} : IsL ρ (.new (.lst ds)) ds := rfl
end
/-! ### a tuple of texts of the module -/
theorem rp_all_strs {K : PySem.W.Frag} {G : Hp} : ∀ ws : List Str, RpAll K G (ws.map V.str) (ws.map .str)
  | [] => .nil
  | w :: ws => .cons (.str w) (rp_all_strs ws)
theorem rp_strs {K : PySem.W.Frag} {f : Addr} {ob : Obj} {its : Array Value} {n : Nat} {ws : List Str} (h : K.lookup f = some ob) (hc : ob.cls = .type "tuple") (hd : ob.data = .seq its n) (hv : Vals (ws.map V.str) its.toList) (hs : Nat.ble ws.length 1000 = true := by rfl) : ∀ G, Rp K G (.ref f) (.tuple (ws.map .str)) := fun G => by
  refine .tup (.inr ⟨ob, its, n, h, hc, hd, ?_, hv⟩) (rp_all_strs ws)
  have := hv.length
  rw [List.length_map] at this
  have e : its.toList.length = its.size := by simp
  have := Nat.ble_eq.mp hs
  rw [sizeLine_eq]
  omega
theorem inV_strs {s : Str} : ∀ {ws : List Str}, inV (.str s) (ws.map V.str) = decide (s ∈ ws)
  | [] => rfl
  | w :: ws => by
    have ih := inV_strs (s := s) (ws := ws)
    unfold inV at ih ⊢
    rw [List.map_cons, List.any_cons, ih]
    show ((w == s) || _) = _
    by_cases h : w = s
    · subst h; simp
    · have : ¬ s = w := fun e => h e.symm
      simp [h, this]
theorem flat_strs : ∀ ws : List Str, (ws.map V.str).all flatV = true
  | [] => rfl
  | w :: ws => by rw [List.map_cons, List.all_cons, flat_strs ws]; rfl
section
variable {K : Kx} {ρ : List Sl} {o : Ob} {R : RD}
theorem xe_conR {a : Addr} {d : PyData} (h : ∀ G, Rp K G (.ref a) d) (r : R (.d d) ρ o) : DL.XE K (tC (.ref a)) ρ o R := xe_con h r
theorem xr_inTs {s : Str} {ws : List Str} (r : R (.d (.bool (decide (s ∈ ws)))) ρ o) : XR K (rInU K) (.d (.str s)) (.d (.tuple (ws.map .str))) ρ o R := xr_or2 (xr_or1 fun G σ H x y e h1 h2 Q q => by
  cases vok_str h1
  cases h2 with
  | @tup a xs _ hs ok =>
  cases ok.of_strs
  exact ⟨a, _, rfl, .inr (SqT.sub e.wd.sub hs), rfl, flat_strs ws, by rw [inV_strs]; exact xq_now q e r (.bl _)⟩)
end
/-! ### data that == may look at -/
structure Shp (n : Nat) (d : PyData) : Prop where
  l : PyData.canLay0 d = true
  d : PyData.depth d ≤ n
theorem Shp.shaped {n : Nat} {d : PyData} (h : Shp n d) (hn : n ≤ 64 := by decide) : SeqAt.shaped d = true := by
  unfold SeqAt.shaped
  rw [h.l, decide_eq_true (Nat.le_trans h.d hn)]; rfl
theorem shp_int {n : Nat} {i : Int} : Shp n (.int i) := ⟨rfl, Nat.zero_le _⟩
theorem shp_all {n : Nat} : ∀ {ds : List PyData}, (∀ d ∈ ds, Shp n d) → PyData.canLayAll0 ds = true ∧ PyData.depthAll ds ≤ n
  | [], _ => ⟨rfl, Nat.zero_le _⟩
  | d :: ds, h => by
    obtain ⟨h1, h2⟩ := shp_all (ds := ds) fun x hx => h x (List.mem_cons_of_mem _ hx)
    have h0 := h d (List.mem_cons_self ..)
    refine ⟨by show (PyData.canLay0 d && _) = true; rw [h0.l, h1]; rfl, ?_⟩
    show max (PyData.depth d) (PyData.depthAll ds) ≤ n
    have := h0.d
    omega
theorem shp_tup {n : Nat} {ds : List PyData} (h : ∀ d ∈ ds, Shp n d) : Shp (n + 1) (.tuple ds) := ⟨(shp_all h).1, Nat.succ_le_succ (shp_all h).2⟩
theorem shp_lst {n : Nat} {ds : List PyData} (h : ∀ d ∈ ds, Shp n d) : Shp (n + 1) (.list ds) := ⟨(shp_all h).1, Nat.succ_le_succ (shp_all h).2⟩
end DL

set_option Elab.async false
set_option linter.all false
set_option maxRecDepth 100000
namespace DL
open PySem PySem.Spec PyProof.Rows L2 TL
/-! ### a op b op c op d, as a test -/
def tChain3 (r r' r'' : R2) (ta tb tc td : TE) : TE := fun σ H Q => ta σ H fun x H1 => tb σ H1 fun y H2 => r x y H2 fun z H3 => ∃ k, z = .bl k ∧
  (if k = true then tc σ H3 fun u H4 => r' y u H4 fun z2 H5 => ∃ k2, z2 = .bl k2 ∧ (if k2 = true then td σ H5 fun w H6 => r'' u w H6 Q else Q (.bl false) H5) else Q (.bl false) H3)
section
variable {X : Cx} {pos : Pos} {a b c d : Expr} {ta tb tc td : TE}
theorem pt_chain3 {op op' op'' : CmpOp} {r r' r'' : R2} (ho : OpR X (compareOp op) r) (ho' : OpR X (compareOp op') r') (ho'' : OpR X (compareOp op'') r'') (ha : PE X a ta) (hb : PE X b tb) (hc : PE X c tc) (hd : PE X d td)
    (hm : lastMarks [op, op', op''] [b, c, d] = false := by with_unfolding_all rfl) : PT X (.Compare a [op, op', op''] [b, c, d] pos) (tTest (tChain3 r r' r'' ta tb tc td)) := by
  refine ⟨fun pins s σ H Q I h => ?_⟩
  refine isTrue_chain (thn (ha.run pins s σ H _ I h) fun v s1 ⟨x, H1, I1, r1, q1⟩ => test_link (thn (hb.run pins s1 σ H1 _ I1 q1) fun u s2 ⟨y, H2, I2, r2, q2⟩ =>
    thn (ho pins s2 σ H2 x y v u _ I2 r1 r2 q2) fun d s3 ⟨z, H3, I3, r3, k, e, q3⟩ => ?_)) hm
  subst e
  cases r3
  refine wpAny_truthy_bool ?_
  cases k with
  | false =>
    obtain ⟨k', e', q'⟩ := q3
    cases e'
    exact ite_ff ⟨H3, I3, q'⟩
  | true =>
    refine ite_tt (test_link (thn (hc.run pins s3 σ H3 _ I3 q3) fun w' s4 ⟨z', H4, I4, r4, q4⟩ => thn (ho' pins s4 σ H4 y z' u w' _ I4 r2 r4 q4) fun d' s5 ⟨z2, H5, I5, r5, k2, e2, q5⟩ => ?_))
    subst e2
    cases r5
    refine wpAny_truthy_bool ?_
    cases k2 with
    | false =>
      obtain ⟨k', e', q'⟩ := q5
      cases e'
      exact ite_ff ⟨H5, I5, q'⟩
    | true =>
      refine ite_tt (test_last (thn (hd.run pins s5 σ H5 _ I5 q5) fun w2 s6 ⟨z3, H6, I6, r6, q6⟩ => thn (ho'' pins s6 σ H6 z' z3 w' w2 _ I6 r4 r6 q6) fun d2 s7 ⟨z4, H7, I7, r7, k3, e3, q7⟩ => ?_))
      subst e3
      cases r7
      exact wpAny_truthy_bool ⟨H7, I7, q7⟩
end
section
variable {K : Kx} {ρ : List Sl} {o : Ob} {R : RD} {ta tb tc td : TE}
theorem xe_chain3 {r r' r'' : R2} (h : XE K ta ρ o fun a ρ1 o1 => XE K tb ρ1 o1 fun b ρ2 o2 => Kept ρ2 a ∧ XR K r a b ρ2 o2 fun c ρ3 o3 => ∃ k, c = .d (.bool k) ∧ (k = true → XE K tc ρ3 o3 fun d ρ4 o4 => Kept ρ4 b ∧ XR K r' b d ρ4 o4 fun c2 ρ5 o5 => ∃ k2, c2 = .d (.bool k2) ∧
      (k2 = true → XE K td ρ5 o5 fun f ρ6 o6 => Kept ρ6 d ∧ XR K r'' d f ρ6 o6 R) ∧ (k2 = false → R (.d (.bool false)) ρ5 o5) ∧ Kept ρ5 d) ∧ (k = false → R (.d (.bool false)) ρ3 o3) ∧ Kept ρ3 b) :
    XE K (tChain3 r r' r'' ta tb tc td) ρ o R := fun G σ H e Q q =>
  h.seq e fun x a ρ1 o1 G1 H1 r1 s1 e1 ok1 fr1 => XE.seq r1 e1 fun y b ρ2 o2 G2 H2 ⟨kp, r2⟩ s2 e2 ok2 fr2 =>
    r2 G2 σ H2 x y e2 (ok1.step s2 kp) ok2 _ fun z c ρ3 o3 G3 H3 ⟨k, hc, rt, rf, kb⟩ s3 e3 ok3 fr3 => by
      subst hc
      refine ⟨k, vok_bl ok3, ?_⟩
      have s123 := (s1.trans s2).trans s3
      cases k with
      | false => exact iteF (q _ _ _ _ _ _ (rf rfl) s123 e3 (.bl false) trivial)
      | true =>
        refine iteT ?_
        refine XE.seq (rt rfl) e3 fun u d ρ4 o4 G4 H4 ⟨kp4, r4⟩ s4 e4 ok4 fr4 => ?_
        refine r4 G4 σ H4 y u e4 ((ok2.step s3 kb).step s4 kp4) ok4 _ fun z2 c2 ρ5 o5 G5 H5 ⟨k2, hc2, rt2, rf2, kd⟩ s5 e5 ok5 fr5 => ?_
        subst hc2
        refine ⟨k2, vok_bl ok5, ?_⟩
        have s15 := (s123.trans s4).trans s5
        cases k2 with
        | false => exact iteF (q _ _ _ _ _ _ (rf2 rfl) s15 e5 (.bl false) trivial)
        | true =>
          refine iteT ?_
          refine XE.seq (rt2 rfl) e5 fun w f ρ6 o6 G6 H6 ⟨kp6, r6⟩ s6 e6 ok6 fr6 => ?_
          exact r6 G6 σ H6 u w e6 ((ok4.step s5 kd).step s6 kp6) ok6 Q fun v dv ρ7 o7 G7 H7 r s e ok fr => q _ _ _ _ _ _ r ((s15.trans s6).trans s) e ok (fr.back (s15.trans s6))
end
section
variable {K : Kx} {ρ : List Sl} {o : Ob} {N : RE}
theorem xgs_nilM (n : N ρ o) : XGs K gNil (([] : List PyData).map DV.d) ρ o N := xgs_nil n
end
/-! ### tests whose outcome is known -/
section
variable {A B C p : Prop} [Decidable p]
theorem bs_d3 (c : C) (a : p → A) (b : ¬ p → B) : (decide p = true → A) ∧ (decide p = false → B) ∧ C := ⟨fun z => a (of_decide_eq_true z), fun z => b (of_decide_eq_false z), c⟩
end
/-! ### a comprehension that changes nothing -/
section
variable {K : Kx} {ρ ρ1 : List Sl} {o o' : Ob} {R : RD} {te tl : TE} {tt : TT} {g : TG} {is : List Nat} {T : TA}
def LcOne (K : Kx) (tt : TT) (te : TE) (ρ1 : List Sl) (is : List Nat) (ds : List PyData) (o1 : Ob) (b : Bool) (d : PyData) : Prop :=
  XT K tt (blkE ρ1 is ds) o1 fun c ρ2 o2 => ρ2 = blkE ρ1 is ds ∧ o2 = o1 ∧ c = b ∧ (c = true → XEF K te (blkE ρ1 is ds) o1 fun dv ρ3 o3 => ρ3 = blkE ρ1 is ds ∧ o3 = o1 ∧ dv = .d d)
end
/-! ### walks over a list or a tuple -/
def iSeq (K : PySem.W.Frag) (tl : TE) : TI := fun σ H R => iList K tl σ H R ∨ iTup K tl σ H R
section
variable {K : Kx} {ρ ρ1 : List Sl} {o o' : Ob} {R : RD} {N B C : RE} {te tl : TE} {tt : TT} {g : TG} {tb : TS} {is : List Nat}
end
/-! ### tuple(..), list(..), extend -/
section
variable {K : Kx} {ρ : List Sl} {o : Ob} {R : RD} {i : Nat}
theorem xc_tupL {dv : DV} {ds : List PyData} (l : IsL ρ dv ds) (r : R (.d (.tuple ds)) ρ o) : XC K (fun xs H Q => ∃ p ys, xs = [V.ref p] ∧ ((SqL K H p ys ∧ ∀ l, H l = none → Q (.ref l) (upd H l (.tup ys))) ∨ (SqT K H p ys ∧ Q (.ref p) H))) [dv] ρ o R := fun G σ H vs e h0 Q q => by
  obtain ⟨v, rfl, h⟩ := va1 h0
  obtain ⟨p, xs, rfl, hp, ok⟩ := l.at e h
  exact ⟨p, xs, rfl, .inl ⟨.inl (.inl hp), xq_tup q e r ok⟩⟩
end
/-! ### copies -/
inductive SmC : Nat → PyData → Prop where
  | non {n : Nat} : SmC n .none
  | bl {n : Nat} {b : Bool} : SmC n (.bool b)
  | int {n : Nat} {b : Int} : SmC n (.int b)
  | str {n : Nat} {b : Str} : SmC n (.str b)
  | tup {n : Nat} {ds : List PyData} (l : ds.length < 16777216) (h : ∀ d ∈ ds, SmC n d) : SmC (n + 1) (.tuple ds)
  | lst {n : Nat} {ds : List PyData} (l : ds.length < 16777216) (h : ∀ d ∈ ds, SmC n d) : SmC (n + 1) (.list ds)
def cpR : PyData → DV
  | .list ds => .new (.lst ds)
  | d => .d d
def S__law_copy (n : Nat) (_ : PySem.W.Frag) : DS := fun dvs o R X => ∃ d, dvs = [.d d] ∧ SmC n d ∧ R (cpR d) o
end DL

set_option Elab.async false
set_option linter.all false
set_option maxRecDepth 100000
namespace DL
open PySem PySem.Spec PyProof.Rows L2 TL
/-! ### raise -/
def tRaiseC (C : Addr) (W : WX) : TS := fun _ σ H => W (.ref C) none σ H
theorem ps_raiseC {X : Cx} {W : WX} {e : Expr} {C : Addr} {pos : Pos} (hc : X.calm = true) (tk : Takes X W) (he : PMk X e (fun _ H Q => Q (.ref C) none H)) : PS X (.Raise (some e) none pos) (tRaiseC C W) := ps_raise hc tk he
section
variable {K : Kx} {ρ : List Sl} {o : Ob} {R : RD} {N B C : RE} {E : Addr}
theorem xs_raiseC (h : K.Z (.ref E, none) ρ o) : XS K (tRaiseC E K.W) ρ o N R B C := fun G σ H e D qn qr qb qc =>
  e.wo (.ref E) none none ρ o G σ H h Stp.refl e.toEnB trivial
end
/-! ### a name is gone -/
section
variable {K : Kx} {ρ : List Sl} {σ : L2.St} {o : Ob} {G H : Hp}
theorem En.unset (e : En K o ρ G σ H) {i : Nat} (hi : i < ρ.length) : En K o (ρ.set i .no) G (σ.set i none) H ∧ Stp ρ σ o G H (ρ.set i .no) (σ.set i none) o G H := by
  have hσ : i < σ.length := by rw [e.len]; exact hi
  have back : ∀ j q, OwnAt (ρ.set i .no) (σ.set i none) j q → OwnAt ρ σ j q := fun j q ⟨⟨c, hc⟩, hs'⟩ => by
    by_cases hj : j = i
    · subst hj
      rw [List.getElem?_set_self hi] at hc
      cases hc
    · rw [List.getElem?_set_ne (Ne.symm hj)] at hc hs'
      exact ⟨⟨c, hc⟩, hs'⟩
  have stp : Stp ρ σ o G H (ρ.set i .no) (σ.set i none) o G H := ⟨Sub.refl, fun _ _ h _ _ => h, fun _ h _ _ _ => h, fun _ h => .inl h, fun a ⟨j, hq⟩ => .inl ⟨j, back j a hq⟩⟩
  refine ⟨⟨⟨e.wd, by simpa using e.len, fun j s' hj => ?_, fun j k q a b => e.dis j k q (back j q a) (back k q b), fun q ⟨j, hq⟩ => e.onf q ⟨j, back j q hq⟩⟩, e.wo.step stp⟩, stp⟩
  by_cases hji : j = i
  · subst hji
    rw [List.getElem?_set_self hi] at hj
    cases hj
    exact ⟨_, List.getElem?_set_self hσ, trivial⟩
  · rw [List.getElem?_set_ne (Ne.symm hji)] at hj
    obtain ⟨ov, k1, k2⟩ := e.sl j s' hj
    exact ⟨ov, by rw [List.getElem?_set_ne (Ne.symm hji)]; exact k1, k2⟩
end
/-! ### try .. except -/
def tTryAs (K : PySem.W.Frag) (c : Value) (i : Nat) (tb : WX → TS) (ts : Addr → Value → Option Addr → TS) (Wout : WX) : TS := fun D σ H => tb (wAs K c i ts Wout D) D σ H
def tTryOnly (K : PySem.W.Frag) (c : Value) (tb : WX → TS) (ts : Addr → Value → Option Addr → TS) (Wout : WX) : TS := fun D σ H => tb (wOnly K c ts Wout D) D σ H
section
variable {X : Cx} {K : PySem.W.Frag} {x n : Str} {c : Value} {i : Nat} {body suite : List Stmt} {b₀ : Stmt} {np pos pos' : Pos} {tb : WX → TS} {ts : Addr → Value → Option Addr → TS} {Wout : WX}
end
section
variable {K : Kx} {ρ : List Sl} {o : Ob} {R : RD} {N B C : RE} {c : Value} {i : Nat} {tb : WX → TS} {ts : Addr → Value → Option Addr → TS}
end
/-! ### isinstance of the caught error -/
/-- e the error that the suite holds -/
def rIsEx (K : PySem.W.Frag) (cls : Value) (d : Option Addr) (a : Addr) : List V → Hp → VK → Prop := fun xs H Q => ∃ (D : Addr) (c : V) (cv : Value) (b : Bool), cls = .ref D ∧ d = none ∧ ExcC K D ∧ xs = [.ref a, c] ∧ (∀ u, RelV c u → u = cv) ∧ PySem.W.kitOne K (.ref D) cv = some b ∧ Q (.bl b) H
theorem call_isEx {X : Cx} {K : PySem.W.Frag} {a : Addr} {cls : Value} {d : Option Addr} {oe : Obj} {pn : List (Addr × Obj)} (hK : X.K = K) (hz : Zc cls d oe) (hf : ∃ vs, oe.data = .fields vs) : CallR (X.suite a ((a, oe) :: pn)) (.builtin "isinstance") (rIsEx K cls d a) := by
  subst hK
  intro pins s σ H xs us Q I r h
  obtain ⟨D, c, cv, b, rfl, rfl, C, rest⟩ := h
  exact call_isE C hz hf pins s σ H xs us Q I r ⟨c, cv, b, rest⟩
section
variable {K : Kx} {ρ : List Sl} {o : Ob} {R : RD} {D a : Addr} {cls : Value} {d : Option Addr}
theorem xc_isExR {E : Addr} {b : Bool} (hc : cls = .ref D) (hd : d = none) (C : ExcC K D) (h : PySem.W.kitOne K (.ref D) (.ref E) = some b) (r : R (.d (.bool b)) ρ o) : XC K (rIsEx K cls d a) [.raw (.ref a), .raw (.ref E)] ρ o R := fun G σ H vs e h0 Q q => by
  obtain ⟨v, u, rfl, h1, h2⟩ := va2 h0
  have h1 : v = .ref a := h1
  have h2 : u = .ref E := h2
  subst h1 h2
  exact ⟨D, _, _, b, hc, hd, C, rfl, fun u r => r, h, xq_now q e r (.bl _)⟩
end
/-! ### classes of errors by their names -/
def ExN (K : PySem.W.Frag) (x : Str) (ex : Ex) : Prop := PySem.W.nsIn K mainGlobals x = some (some ex.1) ∧ ex.2 = none
theorem kit_ref {K : PySem.W.Frag} {t : Value} {C : Addr} (hd : PySem.W.hasDictIn K C = true) (ht : PySem.W.typeIn K (.ref C) = some (.type "type")) (hs : PySem.W.subIn K t (.ref C) = some true) : PySem.W.kitOne K t (.ref C) = some true := by
  obtain ⟨cd, hc, _⟩ := PySem.W.any_some hd
  unfold PySem.W.kitOne PySem.W.kitCls
  split
  · rfl
  · have e2 : ((PySem.W.clsIn K C).isSome && PySem.W.typeIn K (.ref C) == some (.type "type")) = true := by rw [hc, ht] <;> rfl
    show (if ((PySem.W.clsIn K C).isSome && PySem.W.typeIn K (.ref C) == some (.type "type")) = true then PySem.W.subIn K t (.ref C) else none) = some true
    rw [if_pos e2]
    exact hs
/-! ### a text times a number -/
def rRepS : R2 := fun x y H Q => ∃ (z : Str) (k : Int), x = .str z ∧ y = .int k ∧ 1 ≤ k ∧ k < 2 ^ 62 ∧ z.length * k.toNat ≤ sizeLine ∧ ∀ r : Str, tl r = (List.replicate k.toNat (tl z)).flatten → Q (.str r) H
section
variable {K : Kx} {ρ : List Sl} {o : Ob} {R : RD}
end
/-! ### is True, is False -/
def rIsB : R2 := fun x y H Q => ∃ i j : Bool, x = .bl i ∧ y = .bl j ∧ Q (.bl (i == j)) H
def rNotB : R2 := fun x y H Q => ∃ i j : Bool, x = .bl i ∧ y = .bl j ∧ Q (.bl (!(i == j))) H
section
variable {K : Kx} {ρ : List Sl} {o : Ob} {R : RD}
theorem xr_isB {i j : Bool} (r : R (.d (.bool (i == j))) ρ o) : XR K rIsB (.d (.bool i)) (.d (.bool j)) ρ o R := fun G σ H x y e k1 k2 Q q => ⟨i, j, vok_bl k1, vok_bl k2, xq_now q e r (.bl _)⟩
theorem xr_notB {i j : Bool} (r : R (.d (.bool (!(i == j)))) ρ o) : XR K rNotB (.d (.bool i)) (.d (.bool j)) ρ o R := fun G σ H x y e k1 k2 Q q => ⟨i, j, vok_bl k1, vok_bl k2, xq_now q e r (.bl _)⟩
end
end DL

set_option Elab.async false
set_option linter.all false
set_option maxRecDepth 100000
namespace DL
open PySem PySem.Spec PyProof.Rows L2 TL
/-! ### two objects side by side -/
def Ob.and (A B : Ob) : Ob where
  fp := fun a => A.fp a ∨ B.fp a
  ok := fun G H => A.ok G H ∧ B.ok G H ∧ (∀ a, A.fp a → ¬ B.fp a)
  st := fun G H G' H' ⟨h1, h2, h3⟩ s h => ⟨A.st G H G' H' h1 s fun a ha => h a (.inl ha), B.st G H G' H' h2 s fun a ha => h a (.inr ha), h3⟩
theorem and_comm_le {A B : Ob} : Ob.le (A.and B) (B.and A) := ⟨fun a => Or.comm, fun G H ⟨h1, h2, h3⟩ => ⟨h2, h1, fun a hb ha => h3 a ha hb⟩⟩
theorem and_assoc_le {A B C : Ob} : Ob.le ((A.and B).and C) (A.and (B.and C)) := ⟨fun a => by show A.fp a ∨ B.fp a ∨ C.fp a ↔ (A.fp a ∨ B.fp a) ∨ C.fp a; exact (or_assoc).symm,
  fun G H ⟨⟨h1, h2, h3⟩, h4, h5⟩ => ⟨h1, ⟨h2, h4, fun a hb => h5 a (.inr hb)⟩, fun a ha hbc => hbc.elim (h3 a ha) (h5 a (.inl ha))⟩⟩
theorem and_assoc_le' {A B C : Ob} : Ob.le (A.and (B.and C)) ((A.and B).and C) := ⟨fun a => by show (A.fp a ∨ B.fp a) ∨ C.fp a ↔ A.fp a ∨ B.fp a ∨ C.fp a; exact or_assoc,
  fun G H ⟨h1, ⟨h2, h4, h5⟩, h3⟩ => ⟨⟨h1, h2, fun a ha hb => h3 a ha (.inl hb)⟩, h4, fun a hab hc => hab.elim (fun ha => h3 a ha (.inr hc)) fun hb => h5 a hb hc⟩⟩
theorem Ob.le.refl {A : Ob} : Ob.le A A := ⟨fun _ => Iff.rfl, fun _ _ h => h⟩
theorem Ob.le.trans {A B C : Ob} (h : Ob.le A B) (k : Ob.le B C) : Ob.le A C := ⟨fun a => (k.fp a).trans (h.fp a), fun G H x => k.ok G H (h.ok G H x)⟩
theorem Ob.le.and {A A' B B' : Ob} (h : Ob.le A A') (k : Ob.le B B') : Ob.le (A.and B) (A'.and B') :=
  ⟨fun a => or_congr (h.fp a) (k.fp a), fun G H ⟨h1, h2, h3⟩ => ⟨h.ok G H h1, k.ok G H h2, fun a ha hb => h3 a ((h.fp a).mp ha) ((k.fp a).mp hb)⟩⟩
/-- the wishes, seen from a part of the objects -/
abbrev Kx.fr (K : Kx) (F : Ob) : Kx := ⟨K.K, K.W, fun ex ρ o => K.Z ex ρ (o.and F)⟩
section
variable {K : Kx} {ρ ρ' : List Sl} {σ σ' : L2.St} {o o' P P' F : Ob} {G H G' H' : Hp} {R : RD} {N B C : RE} {te : TE} {ts : TS} {T : TA}
theorem EnB.part (e : EnB K (P.and F) ρ G σ H) : EnB K P ρ G σ H :=
  ⟨⟨e.wd.sub, fun a h => e.wd.nfp a (.inl h), fun a h => e.wd.occ a (.inl h), e.wd.ok.1⟩, e.len, e.sl, e.dis, fun a h z => e.onf a h (.inl z)⟩
theorem Stp.whole (e : EnB K (P.and F) ρ G σ H) (s : Stp ρ σ P G H ρ' σ' P' G' H') : Stp ρ σ (P.and F) G H ρ' σ' (P'.and F) G' H' where
  g := s.g
  h := fun a x hx h1 h2 => s.h a x hx (fun z => h1 (.inl z)) h2
  n := fun a g hx h1 h2 => s.n a g hx (fun z => h1 (.inl z)) h2
  f := fun a h => h.elim (fun h => (s.f a h).elim (fun z => .inl (.inl z)) .inr) fun h => .inl (.inr h)
  w := fun a h => (s.w a h).imp id fun z => z.imp id fun z => .inl z
theorem EnB.whole (e : EnB K (P.and F) ρ G σ H) (s : Stp ρ σ P G H ρ' σ' P' G' H') (e' : EnB K P' ρ' G' σ' H') : EnB K (P'.and F) ρ' G' σ' H' := by
  have nP : ∀ a, F.fp a → ¬ P.fp a := fun a h z => e.wd.ok.2.2 a z h
  have nO : ∀ a, F.fp a → ¬ Own ρ σ a := fun a h z => e.onf a z (.inr h)
  have st : ∀ a, F.fp a → H' a = H a := fun a h => by
    obtain ⟨x, hx, _⟩ := e.wd.occ a (.inr h)
    rw [hx]
    exact s.h a x hx (nP a h) (nO a h)
  refine ⟨⟨e'.wd.sub, fun a h => h.elim (e'.wd.nfp a) fun h => s.n a (e.wd.nfp a (.inr h)) (e.wd.occ a (.inr h)) (nP a h) (nO a h), fun a h => h.elim (e'.wd.occ a) fun h => ?_, e'.wd.ok, F.st _ _ _ _ e.wd.ok.2.1 s.g st, fun a h hF => ?_⟩, e'.len, e'.sl, e'.dis, fun a h z => z.elim (e'.onf a h) fun hF => ?_⟩
  · rw [st a h]; exact e.wd.occ a (.inr h)
  · obtain ⟨x, hx, _⟩ := e.wd.occ a (.inr hF)
    rcases s.f a h with z | z | z
    · exact nP a hF z
    · rw [hx] at z; cases z
    · exact nO a hF z
  · obtain ⟨x, hx, _⟩ := e.wd.occ a (.inr hF)
    rcases s.w a h with z | z | z
    · exact nO a hF z
    · rw [hx] at z; cases z
    · exact nP a hF z
theorem En.part (e : En K (P.and F) ρ G σ H) : En (K.fr F) P ρ G σ H :=
  ⟨e.toEnB.part, fun cls fs d ρ' o' G' σ' H' z s e' ek => e.wo cls fs d ρ' (o'.and F) G' σ' H' z (Stp.whole e.toEnB s) (e.toEnB.whole s e') ek⟩
theorem En.whole (e : En K (P.and F) ρ G σ H) (s : Stp ρ σ P G H ρ' σ' P' G' H') (e' : En (K.fr F) P' ρ' G' σ' H') : En K (P'.and F) ρ' G' σ' H' :=
  ⟨e.toEnB.whole s e'.toEnB, e.wo.step (Stp.whole e.toEnB s)⟩
theorem VOk.whole {v : V} {dv : DV} (e : EnB K (P.and F) ρ G σ H) (s : Stp ρ σ P G H ρ' σ' P' G' H') (ok : VOk K P' ρ' G' σ' H' v dv) (fr : VFr ρ σ P H v dv) : VOk K (P'.and F) ρ' G' σ' H' v dv ∧ VFr ρ σ (P.and F) H v dv := by
  cases dv with
  | d x => exact ⟨ok, trivial⟩
  | raw x => exact ⟨ok, trivial⟩
  | sl i c => exact ⟨ok, trivial⟩
  | new c =>
    obtain ⟨p, y, hv, g1, h1, ok, nf, no⟩ := ok
    refine ⟨⟨p, y, hv, g1, h1, ok, fun z => z.elim nf fun hF => ?_, no⟩, fun q hq => (fr q hq).imp id fun z => z.imp .inl id⟩
    obtain ⟨x, hx, _⟩ := e.wd.occ p (.inr hF)
    rcases fr p hv with z | z | z
    · rw [hx] at z; cases z
    · exact e.wd.ok.2.2 p z hF
    · exact e.onf p z (.inr hF)
/-- THE FRAME RULE -/
theorem xe_frame (h : XE (K.fr F) te ρ P fun dv ρ' P' => R dv ρ' (P'.and F)) : XE K te ρ (P.and F) R := fun G σ H e Q q =>
  h G σ H e.part Q fun v dv ρ' o' G' H' r s e' ok fr => q v dv ρ' (o'.and F) G' H' r (Stp.whole e.toEnB s) (e.whole s e') (VOk.whole e.toEnB s ok fr).1 (VOk.whole e.toEnB s ok fr).2
/-- the objects under another form -/
theorem xe_obj (l : Ob.le o o') (h : XE K te ρ o' R) : XE K te ρ o R := fun G σ H e Q q =>
  have s0 : Stp ρ σ o G H ρ σ o' G H := Stp.refl.le l
  h G σ H (e.le l) Q fun v dv ρ' o2 G' H' r s e' ok fr => q v dv ρ' o2 G' H' r (s0.trans s) e' ok (fr.back s0)
theorem xs_obj (l : Ob.le o o') (h : XS K ts ρ o' N R B C) : XS K ts ρ o N R B C := fun G σ H e D qn qr qb qc =>
  have s0 : Stp ρ σ o G H ρ σ o' G H := Stp.refl.le l
  h G σ H (e.le l) D (fun _ _ _ _ _ n s e => qn _ _ _ _ _ n (s0.trans s) e) (fun _ _ _ _ _ _ _ n s e ok fr => qr _ _ _ _ _ _ _ n (s0.trans s) e ok (fr.back s0)) (fun _ _ _ _ _ n s e => qb _ _ _ _ _ n (s0.trans s) e) (fun _ _ _ _ _ n s e => qc _ _ _ _ _ n (s0.trans s) e)
end
/-! ### instances -/
def clsA (K : PySem.W.Frag) (x : Str) : Addr := match PySem.W.nsIn K mainGlobals x with
  | some (some (.ref a)) => a
  | _ => 0
theorem clsA_of {K : PySem.W.Frag} {x : Str} {a : Addr} (h : PySem.W.nsIn K mainGlobals x = some (some (.ref a))) : clsA K x = a := by
  unfold clsA
  rw [h]
abbrev Fls := List (Str × PyData)
abbrev FlR (K : PySem.W.Frag) (G : Hp) (vs : List (Str × V)) (fs : Fls) : Prop := Paired (fun (p : Str × V) (q : Str × PyData) => p.1 = q.1 ∧ Rp K G p.2 q.2) vs fs
/-- an instance of the class C at a, its dict at dx, its attributes fs -/
def insOb (K : PySem.W.Frag) (C a dx : Addr) (fs : Fls) : Ob where
  fp := fun b => b = a ∨ b = dx
  ok := fun G H => ∃ vs, H a = some (.ins C dx vs) ∧ H dx = some (.own a) ∧ FlR K G vs fs
  st := fun G H G' H' ⟨vs, h1, h2, h3⟩ s h => ⟨vs, by rw [h a (.inl rfl)]; exact h1, by rw [h dx (.inr rfl)]; exact h2, Paired.mapP h3 fun p q z => ⟨z.1, Rp.sub s z.2⟩⟩
def putFD (f : Str) (d : PyData) : Fls → Fls
  | [] => [(f, d)]
  | (g, e) :: r => if g = f then (g, d) :: r else (g, e) :: putFD f d r
section
variable {K : PySem.W.Frag} {G : Hp}
theorem FlR.look {vs : List (Str × V)} {fs : Fls} (h : FlR K G vs fs) (f : Str) : (vs.lookup f = none ∧ fs.lookup f = none) ∨ ∃ v d, vs.lookup f = some v ∧ fs.lookup f = some d ∧ Rp K G v d := by
  induction h with
  | nil => exact .inl ⟨rfl, rfl⟩
  | @cons p q a b h t ih =>
    obtain ⟨h1, h2⟩ := h
    obtain ⟨x, v⟩ := p
    obtain ⟨y, d⟩ := q
    obtain rfl : x = y := h1
    by_cases e : f = x
    · subst e
      exact .inr ⟨v, d, by simp [List.lookup], by simp [List.lookup], h2⟩
    · have e' : (f == x) = false := by simpa using e
      have z1 : ((x, v) :: a).lookup f = a.lookup f := by simp [List.lookup, e']
      have z2 : ((x, d) :: b).lookup f = b.lookup f := by simp [List.lookup, e']
      rw [z1, z2]
      exact ih
theorem FlR.put {vs : List (Str × V)} {fs : Fls} (h : FlR K G vs fs) (f : Str) {v : V} {d : PyData} (r : Rp K G v d) : FlR K G (putF f v vs) (putFD f d fs) := by
  induction h with
  | nil => exact .cons ⟨rfl, r⟩ .nil
  | @cons p q a b h t ih =>
    obtain ⟨h1, h2⟩ := h
    obtain ⟨x, w⟩ := p
    obtain ⟨y, e⟩ := q
    obtain rfl : x = y := h1
    show FlR K G (if x = f then (x, v) :: a else (x, w) :: putF f v a) (if x = f then (x, d) :: b else (x, e) :: putFD f d b)
    by_cases hx : x = f
    · rw [if_pos hx, if_pos hx]; exact .cons ⟨rfl, r⟩ t
    · rw [if_neg hx, if_neg hx]; exact .cons ⟨rfl, h2⟩ ih
theorem FlR.len {vs : List (Str × V)} {fs : Fls} (h : FlR K G vs fs) : vs.length = fs.length := Paired.length h
end
/-! ### attributes -/
section
variable {K : Kx} {ρ ρ' : List Sl} {o o' : Ob} {R : RD} {N B C' : RE} {te tv : TE} {T : TA} {C a dx : Addr} {fs : Fls} {f m : Str}
/-- o.f -/
theorem xe_fldO {d : PyData} (c : Cls K C) (n : NoAttr K C f) (l : fs.lookup f = some d) (h : XE K te ρ o fun dv ρ1 o1 => dv = .raw (.ref a) ∧ o1 = insOb K C a dx fs ∧ R (.d d) ρ1 o1) : XE K (tFld K te f) ρ o R := fun G σ H e Q q =>
  h.seq e fun x dv ρ1 o1 G1 H1 ⟨hd, ho, r⟩ s1 e1 ok1 fr1 => by
    subst hd ho
    have ok1 : x = .ref a := ok1
    subst ok1
    obtain ⟨vs, h1, h2, h3⟩ := e1.wd.ok
    rcases h3.look f with ⟨_, z⟩ | ⟨v, d', z1, z2, rv⟩
    · rw [z] at l; cases l
    · rw [z2] at l
      cases l
      exact ⟨a, C, dx, vs, v, rfl, h1, c, n, z1, q _ _ _ _ _ _ r s1 e1 rv trivial⟩
/-- the heap with the instance changed -/
theorem ins_put {G H : Hp} {σ : L2.St} {v : V} {d : PyData} (e : En K (insOb K C a dx fs) ρ G σ H) {vs : List (Str × V)} (h1 : H a = some (.ins C dx vs)) (h2 : H dx = some (.own a)) (h3 : FlR K G vs fs) (rv : Rp K G v d) :
    Stp ρ σ (insOb K C a dx fs) G H ρ σ (insOb K C a dx (putFD f d fs)) G (upd H a (.ins C dx (putF f v vs))) ∧ En K (insOb K C a dx (putFD f d fs)) ρ G σ (upd H a (.ins C dx (putF f v vs))) := by
  have nd : dx ≠ a := fun z => by rw [z, h1] at h2; cases h2
  have stp : Stp ρ σ (insOb K C a dx fs) G H ρ σ (insOb K C a dx (putFD f d fs)) G (upd H a (.ins C dx (putF f v vs))) :=
    ⟨Sub.refl, fun b x hx h _ => by rw [upd_ne (show b ≠ a from fun z => h (.inl z))]; exact hx, fun _ h _ _ _ => h, fun _ h => .inl h, fun _ h => .inl h⟩
  refine ⟨stp, e.step stp ⟨fun b x hx => ?_, e.wd.nfp, fun b hb => ?_, ⟨_, upd_same, by rw [upd_ne nd]; exact h2, h3.put f rv⟩⟩ fun b hb => ?_⟩
  · rw [upd_ne (show b ≠ a from fun z => by rw [z, e.wd.nfp a (.inl rfl)] at hx; cases hx)]; exact e.wd.sub _ _ hx
  · by_cases z : b = a
    · subst z; exact ⟨_, upd_same, trivial⟩
    · rw [upd_ne z]; exact e.wd.occ b hb
  · have n := e.onf b hb
    exact ⟨(e.occ_own hb).1, upd_ne (show b ≠ a from fun z => n (.inl z)), n⟩
/-! ### methods -/
/-- o.m(..), the object at a is an instance; the rest of the objects stands beside -/
theorem xe_methO {S : DS} {E : XK} (lm : fs.lookup m = none) (h : XE K te ρ o fun dv ρ1 o1 => dv = .raw (.ref a) ∧ o1 = insOb K C a dx fs ∧ XAF K T ρ1 o1 fun dvs ρ2 o2 => S (.raw (.ref a) :: dvs) o2 (fun dv o3 => R dv ρ2 o3) (fun _ _ => False)) :
    XE K (tMeth C m (spD K S) [] E te T) ρ o R := fun G σ H e Q q =>
  h.seq e fun x dv ρ1 o1 G1 H1 ⟨hd, ho, r1⟩ s1 e1 ok1 fr1 => by
    subst hd ho
    have ok1 : x = .ref a := ok1
    subst ok1
    obtain ⟨vs, h1, h2, h3⟩ := e1.wd.ok
    have hm : vs.lookup m = none := by
      rcases h3.look m with ⟨z, _⟩ | ⟨v, d', _, z2, _⟩
      · exact z
      · rw [z2] at lm; cases lm
    refine ⟨a, dx, vs, rfl, h1, hm, r1 G1 σ H1 e1 _ fun us dvs ρ2 o2 G2 H2 ⟨hd, r⟩ s2 e2 ok => ?_⟩
    show spD K S (.ref a :: (us ++ [])) H2 Q E
    rw [List.append_nil]
    exact call_run q (fun d hd' => (List.mem_cons.mp hd').elim (fun z => .inr ⟨_, z⟩) (hd d)) r (fun _ _ _ _ _ _ z => z.elim) (s1.trans s2) e2 (.cons rfl ok)
end
/-! ### methods that may raise -/
def tMethW (C : Addr) (m : Str) (sp : Sp) (E : L2.St → XK) (ta : TE) (t : TA) : TE := fun σ H Q => ta σ H fun x H1 => ∃ a dx fs, x = .ref a ∧ H1 a = some (.ins C dx fs) ∧ fs.lookup m = none ∧ t σ H1 fun vs H2 => sp (x :: vs) H2 Q (E σ)
section
variable {X : Cx} {CX : CXT} {k : Nat} {f C : Addr} {fd : FuncData} {ps : List Str} {sp : Sp} {E : L2.St → XK} {m : Str} {pos apos : Pos} {e o : Expr} {es : List Expr} {ta : TE} {t : TA}
theorem pe_methW {pl : Sem Bool} (he : PE X o ta) (c : Cls X.K C) (hm : Meth X.K C m f) (F1 : FnOk X.prog X.w X.K X.mg X.base CX k f fd ps sp) (hr : Room k X.A) (hb : Binds X.K fd ps []) (hx : ∀ σ, PassesAt CX X σ (E σ)) (ha : PA X (e :: es) t)
    (hst : starEach (e :: es) X.env = (false, eval e X.env) :: starEach es X.env := by rfl) (hpl : (backTo pos (starEach es X.env)).any (·.1) = false := by rfl)
    (ht : eval (.Call (.Attribute o m apos) (e :: es) [] pos) X.env = (do
      let w ← eval o X.env
      standAt apos.atName
      let (g, own) ← holding [w] (getMethod w m pl)
      callWith pos g own (backTo pos (starEach (e :: es) X.env)) (backToKw pos (keywordEach [] X.env))) := by rfl) :
    PE X (.Call (.Attribute o m apos) (e :: es) [] pos) (tMethW C m sp E ta t) := by
  refine ⟨fun pins s σ H Q I h => PySem.W.methodCall_KW (pl := pl) (thn (he.run pins s σ H _ I h) fun u s1 ⟨x, H1, I1, rx, a, dx, fs, ex, ea, l, q⟩ => ?_) ht⟩
  subst ex
  obtain rfl : u = Value.ref a := rx
  exact getmeth_ok I1 ea c hm l (PySem.W.callWith_K (first := [.ref a]) (h₀ := X.base) I.ok.mod.kin hm.kp (thn (ha.run pos pins s1 σ H1 _ I1 q) fun us s2 ⟨vs, H2, I2, r, q2⟩ => ⟨I2.kIn, run_fnS (us := .ref a :: us) (vs := .ref a :: vs) F1 hr hb (hx σ) I2 (.cons rfl r) q2⟩) hst hpl)
theorem pe_methW0 {pl : Sem Bool} (he : PE X o ta) (c : Cls X.K C) (hm : Meth X.K C m f) (F1 : FnOk X.prog X.w X.K X.mg X.base CX k f fd ps sp) (hr : Room k X.A) (hb : Binds X.K fd ps []) (hx : ∀ σ, PassesAt CX X σ (E σ))
    (ht : eval (.Call (.Attribute o m apos) [] [] pos) X.env = (do
      let w ← eval o X.env
      standAt apos.atName
      let (g, own) ← holding [w] (getMethod w m pl)
      callWith pos g own (backTo pos (starEach [] X.env)) (backToKw pos (keywordEach [] X.env))) := by rfl) :
    PE X (.Call (.Attribute o m apos) [] [] pos) (tMethW C m sp E ta tNil) := by
  refine ⟨fun pins s σ H Q I h => PySem.W.methodCall_KW (pl := pl) (thn (he.run pins s σ H _ I h) fun u s1 ⟨x, H1, I1, rx, a, dx, fs, ex, ea, l, q⟩ => ?_) ht⟩
  subst ex
  obtain rfl : u = Value.ref a := rx
  exact getmeth_ok I1 ea c hm l (PySem.W.callWith_K0 (first := [.ref a]) I1.kIn hm.kp (run_fnS (us := [.ref a]) (vs := [.ref a]) F1 hr hb (hx σ) I1 (.cons rfl .nil) q))
end
section
variable {K : Kx} {ρ : List Sl} {o : Ob} {R : RD} {te : TE} {T : TA} {C a dx : Addr} {fs : Fls} {m : Str}
theorem xe_methW {S : DS} (lm : fs.lookup m = none) (h : XE K te ρ o fun dv ρ1 o1 => dv = .raw (.ref a) ∧ o1 = insOb K C a dx fs ∧ XAF K T ρ1 o1 fun dvs ρ2 o2 => S (.raw (.ref a) :: dvs) o2 (fun dv o3 => R dv ρ2 o3) (fun ex o3 => K.Z ex ρ2 o3)) :
    XE K (tMethW C m (spD K S) (WE K.W) te T) ρ o R := fun G σ H e Q q =>
  h.seq e fun x dv ρ1 o1 G1 H1 ⟨hd, ho, r1⟩ s1 e1 ok1 fr1 => by
    subst hd ho
    have ok1 : x = .ref a := ok1
    subst ok1
    obtain ⟨vs, h1, h2, h3⟩ := e1.wd.ok
    have hm : vs.lookup m = none := by
      rcases h3.look m with ⟨z, _⟩ | ⟨v, d', _, z2, _⟩
      · exact z
      · rw [z2] at lm; cases lm
    refine ⟨a, dx, vs, rfl, h1, hm, r1 G1 σ H1 e1 _ fun us dvs ρ2 o2 G2 H2 ⟨hd, r⟩ s2 e2 ok => ?_⟩
    exact call_run q (fun d hd' => (List.mem_cons.mp hd').elim (fun z => .inr ⟨_, z⟩) (hd d)) r (fun cls fs d o3 G3 H3 z s3 e3 ek => e2.wo cls fs d ρ2 o3 G3 σ H3 z s3 e3 ek) (s1.trans s2) e2 (.cons rfl ok)
/-! ### a new instance -/
/-- plain values and references do not look at heaps -/
theorem VAll.moveOb {K : PySem.W.Frag} {o1 o2 : Ob} {ρ : List Sl} {G : Hp} {σ : L2.St} {H H2 : Hp} {vs : List V} {dvs : List DV} (a : VAll K o1 ρ G σ H vs dvs) (h : ∀ d ∈ dvs, (∃ x, d = .d x) ∨ ∃ v, d = .raw v) : VAll K o2 ρ G σ H2 vs dvs := by
  induction a with
  | nil => exact .nil
  | cons h1 _ ih =>
    refine .cons ?_ (ih fun d hd => h d (List.mem_cons_of_mem _ hd))
    rcases h _ List.mem_cons_self with ⟨x, rfl⟩ | ⟨v, rfl⟩
    · exact h1
    · exact h1
theorem xe_makeO {S : DS} {E : XK} (hW : K.W = fun cls d _ H => E cls d H) (h : XAF K T ρ o fun dvs ρ1 o1 => ∀ x dx, S (.raw (.ref x) :: dvs) (insOb K C x dx []) (fun dv o2 => dv = .d .none ∧ R (.raw (.ref x)) ρ1 (o2.and o1)) (fun ex o2 => K.Z ex ρ1 (o2.and o1))) :
    XE K (tMake C (spD K S) [] E T) ρ o R := fun G σ H e Q q =>
  h G σ H e _ fun vs dvs ρ1 o1 G1 H1 ⟨hd, r⟩ s1 e1 ok => by
    intro x dx hx hdx ne
    have hxx : upd (upd H1 dx (.own x)) x (.ins C dx []) x = some (.ins C dx []) := upd_same
    have hdd : upd (upd H1 dx (.own x)) x (.ins C dx []) dx = some (.own x) := by rw [upd_ne ne, upd_same]
    have hoth : ∀ b y, H1 b = some y → upd (upd H1 dx (.own x)) x (.ins C dx []) b = some y := fun b y hb => by
      rw [upd_ne (show b ≠ x from fun z => by rw [z, hx] at hb; cases hb), upd_ne (show b ≠ dx from fun z => by rw [z, hdx] at hb; cases hb)]; exact hb
    have gx := e1.wd.gnone hx
    have gd := e1.wd.gnone hdx
    have nfx := nofp e1 hx
    have nfd := nofp e1 hdx
    have nox := noown e1 hx
    have nod := noown e1 hdx
    have stp : Stp ρ1 σ o1 G1 H1 ρ1 σ ((insOb K C x dx []).and o1) G1 (upd (upd H1 dx (.own x)) x (.ins C dx [])) :=
      ⟨Sub.refl, fun b y hb _ _ => hoth b y hb, fun _ h _ _ _ => h, fun b hb => hb.elim (fun hb => hb.elim (fun z => .inr (.inl (by rw [z]; exact hx))) fun z => .inr (.inl (by rw [z]; exact hdx))) .inl, fun _ h => .inl h⟩
    have en : En K ((insOb K C x dx []).and o1) ρ1 G1 σ (upd (upd H1 dx (.own x)) x (.ins C dx [])) := by
      refine e1.step stp ⟨fun b y hb => hoth b y (e1.wd.sub b y hb), fun b hb => ?_, fun b hb => ?_, ⟨⟨[], hxx, hdd, .nil⟩, ?_, ?_⟩⟩ fun b hb => ?_
      · rcases hb with (hb | hb) | hb
        · rw [hb]; exact gx
        · rw [hb]; exact gd
        · exact e1.wd.nfp b hb
      · rcases hb with (hb | hb) | hb
        · rw [hb]; exact ⟨_, hxx, trivial⟩
        · rw [hb]; exact ⟨_, hdd, trivial⟩
        · obtain ⟨y, hy, nt⟩ := e1.wd.occ b hb; exact ⟨y, hoth b y hy, nt⟩
      · exact o1.st _ _ _ _ e1.wd.ok Sub.refl fun b hb => by
          obtain ⟨y, hy, _⟩ := e1.wd.occ b hb
          rw [hoth b y hy, hy]
      · intro b hb hF
        rcases hb with hb | hb
        · rw [hb] at hF; exact nfx hF
        · rw [hb] at hF; exact nfd hF
      · obtain ⟨g, y, hy⟩ := e1.occ_own hb
        refine ⟨g, by rw [hoth b y hy, hy], fun z => ?_⟩
        rcases z with (z | z) | z
        · rw [z] at hb; exact nox hb
        · rw [z] at hb; exact nod hb
        · exact e1.onf b hb z
    have s12 := s1.trans stp
    show spD K S (.ref x :: (vs ++ [])) _ _ E
    rw [List.append_nil]
    have enp := en.part
    have okp : VAll K (insOb K C x dx []) ρ1 G1 σ (upd (upd H1 dx (.own x)) x (.ins C dx [])) vs dvs := ok.moveOb hd
    refine call_run (K := K.fr o1) (ρ := ρ1) (o := insOb K C x dx []) (G := G1) (σ := σ) (H := upd (upd H1 dx (.own x)) x (.ins C dx [])) (R := fun dv ρ2 o2 => dv = .d .none ∧ R (.raw (.ref x)) ρ2 (o2.and o1)) ?_ (fun d hd' => (List.mem_cons.mp hd').elim (fun z => .inr ⟨_, z⟩) (hd d)) (r x dx) (fun cls fs d o3 G3 H3 z s3 e3 ek => ?_) Stp.refl enp (.cons rfl okp)
    · intro v dv ρ2 o2 G2 H2 ⟨hdv, r2⟩ s2 e2 ok2 fr2
      subst hdv
      refine ⟨vok_non ok2, q _ _ _ _ _ _ r2 (s12.trans (Stp.whole en.toEnB s2)) (en.whole s2 e2) rfl trivial⟩
    · have := enp.wo cls fs d ρ1 o3 G3 σ H3 z s3 e3 ek
      rw [show (K.fr o1).W = K.W from rfl, hW] at this
      exact this
end
end DL

set_option Elab.async false
set_option linter.all false
set_option maxRecDepth 100000
set_option maxHeartbeats 1000000
namespace DL
open PySem PySem.Spec PyProof.Rows L2 TL HotX L2H
/-! ### a list's end while an exception is handled -/
/-! ### rows that are not reached -/
/-! ### raise, try .. except, where the context of what is raised is known -/
section
variable {X : Cx} {K : PySem.W.Frag} {x n : Str} {c : Value} {i : Nat} {body suite : List Stmt} {b₀ : Stmt} {np pos pos' : Pos} {tb : WX → TS} {ts : Addr → Value → Option Addr → TS} {Wout : WX}
end
/-! ### defs that are called there -/
section
variable {P : Program} {w : World} {K : PySem.W.Frag} {mg : Str → Option Value} {base : Heap}
end
section
variable {K : Kx} {ρ : List Sl} {o : Ob} {R : RD} {T : TA}
/-- a call in a suite of a def that does not raise -/
theorem xe_callH {S : DS} {W : L2.St → XK} (h : XAF K T ρ o fun dvs ρ1 o1 => S dvs o1 (fun dv o2 => R dv ρ1 o2) (fun _ _ => False)) : XE K (tCallS (spD K S) W T) ρ o R := fun G σ H e Q q =>
  h G σ H e _ fun vs dvs ρ1 o1 G1 H1 ⟨hd, r⟩ s1 e1 ok => call_run q hd r (fun cls fs d o2 G2 H2 z s2 e2 ek => z.elim) s1 e1 ok
theorem _root_.L2H.RoomH.units {A : Around} {k : Nat} (hr : RoomH k A) : A.units + 64 < cLine := by have := hr.un; omega
end
/-! ### xs[i] = .. -/
section
variable {K : Kx} {ρ : List Sl} {o : Ob} {N : RE}
end
end DL

set_option Elab.async false
set_option linter.all false
set_option maxRecDepth 100000
set_option maxHeartbeats 1000000
namespace PySem.W
open PySem PySem.Spec PySem.Calls PyProof.Rows
section
variable {prog : Program} {w : World} {A : Around} {E : Value → Shared → Prop} {s : Shared} {K : Frag} {x D : Addr} {ox : Obj} {od : Option Obj}
end
end PySem.W
namespace DL
open PySem PySem.Spec PyProof.Rows L2 TL HotX L2H
/-! ### errors with two fields -/
/-- the promise of an __init__ that stores two fields -/
def spI2 (C : Addr) (f1 f2 : Str) : Sp := fun vs H Q _ => ∃ (a : Addr) (v1 v2 : V), vs = [.ref a, v1, v2] ∧ H a = some (exo a C none) ∧
  ∀ d, H d = none → d ≠ a → Q .non (upd (upd (upd H d (exd d [(f1, v1)])) a (exo a C (some d))) d (exd d [(f2, v2), (f1, v1)]))
section
variable {X : Cx} {e : Expr} {es : List Expr} {ta : TA} {p pos : Pos}
def tRaiseO (C : Addr) (f1 f2 : Str) (W : WX) (ta : TA) : TS := fun _ σ H => tMkO C (spI2 C f1 f2) [] ta σ H fun cls d H' => W cls d σ H'
end
section
variable {P : Program} {w : World} {K : PySem.W.Frag} {mg : Str → Option Value} {base : Heap}
end
section
variable {K : Kx} {ρ ρ' : List Sl} {o o' : Ob} {R : RD} {N B C' : RE} {T : TA} {C : Addr} {f1 f2 : Str} {te : TE}
/-- the fields of the error that a suite holds, beside the objects -/
def exIn (K : PySem.W.Frag) (d : Addr) (fs : List (Str × PyData)) (o : Ob) : Ob where
  fp := o.fp
  ok := fun G H => o.ok G H ∧ EOk K G H (some d) (some fs)
  st := fun G H G' H' ⟨h1, vs, h2, h3, h4⟩ s h => ⟨o.st G H G' H' h1 s h, vs, s _ _ h2, h3, RpAll.sub s h4⟩
theorem EnB.exIn {G H : Hp} {σ : L2.St} {d : Addr} {fs : List (Str × PyData)} (e : EnB K o ρ G σ H) (ek : EOk K G H (some d) (some fs)) : EnB K (exIn K.K d fs o) ρ G σ H ∧ Stp ρ σ o G H ρ σ (DL.exIn K.K d fs o) G H :=
  ⟨⟨⟨e.wd.sub, e.wd.nfp, e.wd.occ, ⟨e.wd.ok, ek⟩⟩, e.len, e.sl, e.dis, e.onf⟩, ⟨Sub.refl, fun _ _ h _ _ => h, fun _ h _ _ _ => h, fun _ h => .inl h, fun _ h => .inl h⟩⟩
variable {c : Value} {i : Nat} {tb : WX → TS} {ts : Addr → Value → Option Addr → TS}
end
/-! ### isinstance of such an error -/
def rIsF (K : PySem.W.Frag) (cls : Value) (d : Option Addr) (a : Addr) : List V → Hp → VK → Prop := fun xs H Q => ∃ (D dd : Addr) (fs : List (Str × V)) (c : V) (cv : Value) (b : Bool), cls = .ref D ∧ d = some dd ∧ H dd = some (.xd fs) ∧ ExcC K D ∧ xs = [.ref a, c] ∧ (∀ u, RelV c u → u = cv) ∧ PySem.W.kitOne K (.ref D) cv = some b ∧ Q (.bl b) H
section
variable {K : Kx} {ρ : List Sl} {o : Ob} {R : RD} {D a d : Addr} {cls : Value}
end
/-! ### attributes, with the written part told -/
section
variable {X : Cx} {K : PySem.W.Frag} {o e value : Expr} {f : Str} {pos pos' tpos : Pos} {ta tv : TE}
theorem pe_fldK (hK : X.K = K) (he : PE X e ta) (hb : attributeBase e f X.env (eval e X.env) = eval e X.env) : PE X (.Attribute e f pos) (tFld K ta f) := hK ▸ pe_fld he hb
theorem ps_fldK (hK : X.K = K) (ha : PE X o ta) (hv : PE X value tv) (hs : swapsWith value (some (.Attribute o f pos')) pos.line X.env = pure false) : PS X (.Assign [.Attribute o f pos'] value pos) (sFld K ta tv f) := hK ▸ ps_fld ha hv hs
theorem ps_fldaugK {op : Operator} {rd : V → V → Hp → VK → Prop} (hK : X.K = K) (ha : PE X o ta) (hv : PE X value tv) (hop : InOp X op rd) : PS X (.AugAssign (.Attribute o f tpos) op value pos) (sFldAug K ta tv rd f) := hK ▸ ps_fldaug ha hv hop
end
/-! ### the same, the instance in a slot -/
section
variable {K : Kx} {ρ : List Sl} {o : Ob} {R : RD} {N B C' : RE} {tv : TE} {T : TA} {C a dx : Addr} {fs : Fls} {f m : Str} {i : Nat}
theorem xe_fldV {d : PyData} (c : Cls K C) (n : NoAttr K C f) (hi : ρ[i]? = some (.raw (.ref a))) (l : fs.lookup f = some d) (h : R (.d d) ρ (insOb K C a dx fs)) : XE K (tFld K (tVar i) f) ρ (insOb K C a dx fs) R := xe_fldO c n l (xe_vr hi ⟨rfl, rfl, h⟩)
theorem xs_fldV (c : Cls K C) (n : NoAttr K C f) (h : XEF K tv ρ o fun dv ρ1 o1 => ∃ d fs, dv = .d d ∧ ρ1[i]? = some (.raw (.ref a)) ∧ o1 = insOb K C a dx fs ∧ Nat.ble fs.length 900 = true ∧ N ρ1 (insOb K C a dx (putFD f d fs))) : XS K (sFld K (tVar i) tv f) ρ o N R B C' := fun G σ H e D qn qr qb qc =>
  XE.seq h e fun y dv ρ1 o1 G1 H1 ⟨d, fs, hd, hi, ho, hl, n2⟩ s1 e1 ok1 fr1 => by
    subst hd ho
    obtain ⟨ov, k1, k2⟩ := e1.sl i _ hi
    have k2 : ov = some (.ref a) := k2
    subst k2
    obtain ⟨vs, h1, h2, h3⟩ := e1.wd.ok
    have hlen := Nat.ble_eq.mp hl
    obtain ⟨st, en⟩ := ins_put (f := f) e1 h1 h2 h3 ok1
    exact ⟨.ref a, k1, a, C, dx, vs, rfl, h1, c, n, by rw [h3.len]; omega, qn _ _ _ _ _ n2 (s1.trans st) en⟩
theorem xs_fldAddV {j : Int} (c : Cls K C) (n : NoAttr K C f) (hi : ρ[i]? = some (.raw (.ref a))) (l : fs.lookup f = some (.int j)) (hl : Nat.ble fs.length 900 = true) (h : XE K tv ρ (insOb K C a dx fs) fun dv2 ρ2 o2 => ∃ k, dv2 = .d (.int k) ∧ o2 = insOb K C a dx fs ∧ N ρ2 (insOb K C a dx (putFD f (.int (j + k)) fs))) :
    XS K (sFldAug K (tVar i) tv rAdd f) ρ (insOb K C a dx fs) N R B C' := fun G σ H e D qn qr qb qc => by
  obtain ⟨ov, k1, k2⟩ := e.sl i _ hi
  have k2 : ov = some (.ref a) := k2
  subst k2
  obtain ⟨vs, h1, h2, h3⟩ := e.wd.ok
  rcases h3.look f with ⟨_, z⟩ | ⟨v, d', z1, z2, rv⟩
  · rw [z] at l; cases l
  rw [z2] at l
  cases l
  cases rv
  refine ⟨.ref a, k1, a, C, dx, vs, _, rfl, h1, c, n, z1, h.seq e fun y dv2 ρ2 o2 G2 H2 ⟨k, hd2, ho2, n2⟩ s2 e2 ok2 fr2 => ?_⟩
  subst hd2 ho2
  cases vok_int ok2
  obtain ⟨vs2, g1, g2, g3⟩ := e2.wd.ok
  have hlen := Nat.ble_eq.mp hl
  obtain ⟨st, en⟩ := ins_put (f := f) e2 g1 g2 g3 (.int (j + k))
  exact ⟨j, k, rfl, rfl, dx, vs2, g1, by rw [g3.len]; omega, qn _ _ _ _ _ n2 (s2.trans st) en⟩
theorem xs_fldSubV {j : Int} (c : Cls K C) (n : NoAttr K C f) (hi : ρ[i]? = some (.raw (.ref a))) (l : fs.lookup f = some (.int j)) (hl : Nat.ble fs.length 900 = true) (h : XE K tv ρ (insOb K C a dx fs) fun dv2 ρ2 o2 => ∃ k, dv2 = .d (.int k) ∧ o2 = insOb K C a dx fs ∧ N ρ2 (insOb K C a dx (putFD f (.int (j - k)) fs))) :
    XS K (sFldAug K (tVar i) tv rSub f) ρ (insOb K C a dx fs) N R B C' := fun G σ H e D qn qr qb qc => by
  obtain ⟨ov, k1, k2⟩ := e.sl i _ hi
  have k2 : ov = some (.ref a) := k2
  subst k2
  obtain ⟨vs, h1, h2, h3⟩ := e.wd.ok
  rcases h3.look f with ⟨_, z⟩ | ⟨v, d', z1, z2, rv⟩
  · rw [z] at l; cases l
  rw [z2] at l
  cases l
  cases rv
  refine ⟨.ref a, k1, a, C, dx, vs, _, rfl, h1, c, n, z1, h.seq e fun y dv2 ρ2 o2 G2 H2 ⟨k, hd2, ho2, n2⟩ s2 e2 ok2 fr2 => ?_⟩
  subst hd2 ho2
  cases vok_int ok2
  obtain ⟨vs2, g1, g2, g3⟩ := e2.wd.ok
  have hlen := Nat.ble_eq.mp hl
  obtain ⟨st, en⟩ := ins_put (f := f) e2 g1 g2 g3 (.int (j - k))
  exact ⟨j, k, rfl, rfl, dx, vs2, g1, by rw [g3.len]; omega, qn _ _ _ _ _ n2 (s2.trans st) en⟩
theorem xe_methV {S : DS} {E : XK} (hi : ρ[i]? = some (.raw (.ref a))) (lm : fs.lookup m = none) (h : XAF K T ρ (insOb K C a dx fs) fun dvs ρ2 o2 => S (.raw (.ref a) :: dvs) o2 (fun dv o3 => R dv ρ2 o3) (fun _ _ => False)) :
    XE K (tMeth C m (spD K S) [] E (tVar i) T) ρ (insOb K C a dx fs) R := xe_methO lm (xe_vr hi ⟨rfl, rfl, h⟩)
theorem xe_methWV {S : DS} (hi : ρ[i]? = some (.raw (.ref a))) (lm : fs.lookup m = none) (h : XAF K T ρ (insOb K C a dx fs) fun dvs ρ2 o2 => S (.raw (.ref a) :: dvs) o2 (fun dv o3 => R dv ρ2 o3) (fun ex o3 => K.Z ex ρ2 o3)) :
    XE K (tMethW C m (spD K S) (WE K.W) (tVar i) T) ρ (insOb K C a dx fs) R := xe_methW lm (xe_vr hi ⟨rfl, rfl, h⟩)
end
end DL

set_option Elab.async false
set_option linter.all false
namespace DL
open PySem PySem.Spec PyProof.Rows L2
/-- one step without choice: P is shown by Q -/
class Stp1 (P : Prop) (Q : outParam Prop) : Prop where
  go : Q → P
section
variable {K : Kx} {ρ : List Sl} {o : Ob} {R : RD} {R' : Bool → RE} {N B C : RE} {ta tb tc te : TE} {tt : TT} {T : TA} {i : Nat}
instance s1_xe_int {n : Int} : Stp1 (XE K (tC (.int n)) ρ o R) (R (.d (.int n)) ρ o) := ⟨xe_int⟩
instance s1_xe_str {n : Str} : Stp1 (XE K (tC (.str n)) ρ o R) (R (.d (.str n)) ρ o) := ⟨xe_str⟩
instance s1_xe_bl {n : Bool} : Stp1 (XE K (tC (.bl n)) ρ o R) (R (.d (.bool n)) ρ o) := ⟨xe_bl⟩
instance s1_xe_non  : Stp1 (XE K (tC .non) ρ o R) (R (.d .none) ρ o) := ⟨xe_non⟩
instance s1_xe_op {r : R2} : Stp1 (XE K (tOp r ta tb) ρ o R) (XE K ta ρ o fun a ρ1 o1 => XE K tb ρ1 o1 fun b ρ2 o2 => Kept ρ2 a ∧ XR K r a b ρ2 o2 R) := ⟨xe_op⟩
instance s1_xe_cb {r : List V → Hp → VK → Prop} : Stp1 (XE K (tCB r T) ρ o R) (XA K T ρ o fun dvs ρ1 o1 => XC K r dvs ρ1 o1 R) := ⟨xe_cb⟩
instance s1_xe_sl {r : V → Option Int → Option Int → Hp → VK → Prop} {tl th : TO} : Stp1 (XE K (tSl r te tl th) ρ o R) (XE K te ρ o fun a ρ1 o1 => XO K tl ρ1 o1 fun l ρ2 o2 => XO K th ρ2 o2 fun u ρ3 o3 => Kept ρ3 a ∧ XSl K r a l u ρ3 o3 R) := ⟨xe_sl⟩
instance s1_xe_tupD  : Stp1 (DL.XE K (tTup T) ρ o R) (XAD K T ρ o fun ds ρ' o' => ds.length ≤ sizeLine ∧ R (.d (.tuple ds)) ρ' o') := ⟨xe_tupD⟩
instance s1_xe_lstD  : Stp1 (DL.XE K (tLst T) ρ o R) (XAD K T ρ o fun ds ρ' o' => ds.length ≤ sizeLine ∧ R (.new (.lst ds)) ρ' o') := ⟨xe_lstD⟩
instance s1_xe_neg  : Stp1 (XE K (tUn (rU fun i => .int (-i)) te) ρ o R) (XE K te ρ o fun dv ρ1 o1 => ∃ n, dv = .d (.int n) ∧ R (.d (.int (-n))) ρ1 o1) := ⟨xe_neg⟩
instance s1_xe_and  : Stp1 (XE K (tAndV ta tb) ρ o R) (XE K ta ρ o fun a ρ1 o1 => ∃ c, a = .d (.bool c) ∧ (c = true → XE K tb ρ1 o1 R) ∧ (c = false → R (.d (.bool false)) ρ1 o1)) := ⟨xe_and⟩
instance s1_xe_or  : Stp1 (XE K (tOrV ta tb) ρ o R) (XE K ta ρ o fun a ρ1 o1 => ∃ c, a = .d (.bool c) ∧ (c = true → R (.d (.bool true)) ρ1 o1) ∧ (c = false → XE K tb ρ1 o1 R)) := ⟨xe_or⟩
instance s1_xe_not  : Stp1 (XE K (tNotV ta) ρ o R) (XE K ta ρ o fun a ρ1 o1 => ∃ c, a = .d (.bool c) ∧ R (.d (.bool (!c))) ρ1 o1) := ⟨xe_not⟩
instance s1_xe_chain {r r' : R2} : Stp1 (XE K (tChain r r' ta tb tc) ρ o R) (XE K ta ρ o fun a ρ1 o1 => XE K tb ρ1 o1 fun b ρ2 o2 => Kept ρ2 a ∧ XR K r a b ρ2 o2 fun c ρ3 o3 => ∃ k, c = .d (.bool k) ∧ (k = true → XE K tc ρ3 o3 fun d ρ4 o4 => Kept ρ4 b ∧ XR K r' b d ρ4 o4 R) ∧ (k = false → R (.d (.bool false)) ρ3 o3) ∧ Kept ρ3 b) := ⟨xe_chain⟩
instance s1_xe_chain3 {r r' r'' : R2} : Stp1 (XE K (tChain3 r r' r'' ta tb tc td) ρ o R) (XE K ta ρ o fun a ρ1 o1 => XE K tb ρ1 o1 fun b ρ2 o2 => Kept ρ2 a ∧ XR K r a b ρ2 o2 fun c ρ3 o3 => ∃ k, c = .d (.bool k) ∧ (k = true → XE K tc ρ3 o3 fun d ρ4 o4 => Kept ρ4 b ∧ XR K r' b d ρ4 o4 fun c2 ρ5 o5 => ∃ k2, c2 = .d (.bool k2) ∧
      (k2 = true → XE K td ρ5 o5 fun f ρ6 o6 => Kept ρ6 d ∧ XR K r'' d f ρ6 o6 R) ∧ (k2 = false → R (.d (.bool false)) ρ5 o5) ∧ Kept ρ5 d) ∧ (k = false → R (.d (.bool false)) ρ3 o3) ∧ Kept ρ3 b) := ⟨xe_chain3⟩
instance s1_xe_if  : Stp1 (XE K (tIf tt ta tb) ρ o R) (XT K tt ρ o fun b ρ1 o1 => (b = true → XE K ta ρ1 o1 R) ∧ (b = false → XE K tb ρ1 o1 R)) := ⟨xe_if⟩
instance s1_xe_disp {trs : List (TE × TE)} : Stp1 (XE K (tDisp trs) ρ o R) (PPairs K trs ρ o fun ps ρ' o' => ps.length ≤ 15 ∧ R (.new (.dic (mergeD [] ps))) ρ' o') := ⟨xe_disp⟩
instance s1_xe_repC {y z : Str} : Stp1 (DL.XE K (tRepC y z te) ρ o R) (DL.XE K te ρ o fun dv ρ1 o1 => ∃ a, dv = .d (.str a) ∧ a.length + (a.length + 1) * z.length ≤ 16777216 ∧ R (.d (.str (Txt.replace a y z))) ρ1 o1) := ⟨xe_repC⟩
instance s1_xe_bm {Ty : String} {r : V → List V → Hp → VK → Prop} {to : TE} : Stp1 (XE K (tBM K Ty r to T) ρ o R) (XE K to ρ o fun a ρ1 o1 => TyD Ty a ∧ XA K T ρ1 o1 fun bs ρ2 o2 => Kept ρ2 a ∧ XM K r a bs ρ2 o2 R) := ⟨xe_bm⟩
instance s1_xe_bm0 {Ty : String} {r : V → List V → Hp → VK → Prop} {to : TE} : Stp1 (XE K (tBM0 K Ty r to) ρ o R) (XE K to ρ o fun a ρ1 o1 => TyD Ty a ∧ XM K r a [] ρ1 o1 R) := ⟨xe_bm0⟩
instance s1_pp_str {s : Str} {tv : TE} {r : List (TE × TE)} {ρ : List Sl} {o : Ob} {J : DKv → RE} : Stp1 (PPairs K ((tC (.str s), tv) :: r) ρ o J) (XEF K tv ρ o fun b ρ2 o2 => ∃ d, b = .d d ∧ PPairs K r ρ2 o2 fun ps => J ((Sum.inr s, d) :: ps)) := ⟨pp_str⟩
instance s1_xr_addI {m n : Int} : Stp1 (XR K (rAddU K) (.d (.int m)) (.d (.int n)) ρ o R) (R (.d (.int (m + n))) ρ o) := ⟨xr_addI⟩
instance s1_xr_isB {i j : Bool} : Stp1 (XR K rIsB (.d (.bool i)) (.d (.bool j)) ρ o R) (R (.d (.bool (i == j))) ρ o) := ⟨xr_isB⟩
instance s1_xr_notB {i j : Bool} : Stp1 (XR K rNotB (.d (.bool i)) (.d (.bool j)) ρ o R) (R (.d (.bool (!(i == j)))) ρ o) := ⟨xr_notB⟩
instance s1_xr_eqI {m n : Int} : Stp1 (XR K (rEqU K) (.d (.int m)) (.d (.int n)) ρ o R) (R (.d (.bool (decide (m = n)))) ρ o) := ⟨xr_eqI⟩
instance s1_xr_eqS {m n : Str} : Stp1 (XR K (rEqU K) (.d (.str m)) (.d (.str n)) ρ o R) (R (.d (.bool (decide (m = n)))) ρ o) := ⟨xr_eqS⟩
instance s1_xr_sub {m n : Int} : Stp1 (XR K (rI0 fun i j => .int (i - j)) (.d (.int m)) (.d (.int n)) ρ o R) (R (.d (.int (m - n))) ρ o) := ⟨xr_sub⟩
instance s1_xr_ltI {m n : Int} : Stp1 (XR K rLtU (.d (.int m)) (.d (.int n)) ρ o R) (R (.d (.bool (decide (m < n)))) ρ o) := ⟨xr_ltI⟩
instance s1_xr_leI {m n : Int} : Stp1 (XR K rLeU (.d (.int m)) (.d (.int n)) ρ o R) (R (.d (.bool (decide (m ≤ n)))) ρ o) := ⟨xr_leI⟩
instance s1_xr_gtI {m n : Int} : Stp1 (XR K (rI0 fun i j => .bl (decide (j < i))) (.d (.int m)) (.d (.int n)) ρ o R) (R (.d (.bool (decide (n < m)))) ρ o) := ⟨xr_gtI⟩
instance s1_xr_geI {m n : Int} : Stp1 (XR K (rI0 fun i j => .bl (decide (j ≤ i))) (.d (.int m)) (.d (.int n)) ρ o R) (R (.d (.bool (decide (n ≤ m)))) ρ o) := ⟨xr_geI⟩
instance s1_xr_eqB {m n : Bool} : Stp1 (XR K (rEqU K) (.d (.bool m)) (.d (.bool n)) ρ o R) (R (.d (.bool (decide (m = n)))) ρ o) := ⟨xr_eqB⟩
instance s1_xr_neI {m n : Int} : Stp1 (XR K (rNeU K) (.d (.int m)) (.d (.int n)) ρ o R) (R (.d (.bool (!decide (m = n)))) ρ o) := ⟨xr_neI⟩
instance s1_xr_neS {m n : Str} : Stp1 (XR K (rNeU K) (.d (.str m)) (.d (.str n)) ρ o R) (R (.d (.bool (!decide (m = n)))) ρ o) := ⟨xr_neS⟩
instance s1_xr_leS {m n : Str} : Stp1 (XR K rLeU (.d (.str m)) (.d (.str n)) ρ o R) (R (.d (.bool (!decide (n.cps.toList < m.cps.toList)))) ρ o) := ⟨xr_leS⟩
instance s1_xr_inC {c : Nat} {z : Str} : Stp1 (XR K (rInU K) (.d (.str ⟨#[c]⟩)) (.d (.str z)) ρ o R) (R (.d (.bool (decide (c ∈ z.cps.toList)))) ρ o) := ⟨xr_inC⟩
instance s1_xr_notInC {c : Nat} {z : Str} : Stp1 (XR K (rNotInU K) (.d (.str ⟨#[c]⟩)) (.d (.str z)) ρ o R) (R (.d (.bool (!decide (c ∈ z.cps.toList)))) ρ o) := ⟨xr_notInC⟩
instance s1_xr_isN_non  : Stp1 (XR K (fun x y H Q => y = .non ∧ Q (.bl (decide (x = .non))) H) (.d (.none)) (.d .none) ρ o R) (R (.d (.bool true)) ρ o) := ⟨xr_isN_non⟩
instance s1_xr_isN_int {m : Int} : Stp1 (XR K (fun x y H Q => y = .non ∧ Q (.bl (decide (x = .non))) H) (.d (.int m)) (.d .none) ρ o R) (R (.d (.bool false)) ρ o) := ⟨xr_isN_int⟩
instance s1_xr_isN_str {m : Str} : Stp1 (XR K (fun x y H Q => y = .non ∧ Q (.bl (decide (x = .non))) H) (.d (.str m)) (.d .none) ρ o R) (R (.d (.bool false)) ρ o) := ⟨xr_isN_str⟩
instance s1_xr_isN_bl {m : Bool} : Stp1 (XR K (fun x y H Q => y = .non ∧ Q (.bl (decide (x = .non))) H) (.d (.bool m)) (.d .none) ρ o R) (R (.d (.bool false)) ρ o) := ⟨xr_isN_bl⟩
instance s1_xr_isN_tup {m : List PyData} : Stp1 (XR K (fun x y H Q => y = .non ∧ Q (.bl (decide (x = .non))) H) (.d (.tuple m)) (.d .none) ρ o R) (R (.d (.bool false)) ρ o) := ⟨xr_isN_tup⟩
instance s1_xr_isN_lst {m : List PyData} : Stp1 (XR K (fun x y H Q => y = .non ∧ Q (.bl (decide (x = .non))) H) (.d (.list m)) (.d .none) ρ o R) (R (.d (.bool false)) ρ o) := ⟨xr_isN_lst⟩
instance s1_xr_notN_non  : Stp1 (XR K (fun x y H Q => y = .non ∧ Q (.bl (!decide (x = .non))) H) (.d (.none)) (.d .none) ρ o R) (R (.d (.bool false)) ρ o) := ⟨xr_notN_non⟩
instance s1_xr_notN_int {m : Int} : Stp1 (XR K (fun x y H Q => y = .non ∧ Q (.bl (!decide (x = .non))) H) (.d (.int m)) (.d .none) ρ o R) (R (.d (.bool true)) ρ o) := ⟨xr_notN_int⟩
instance s1_xr_notN_str {m : Str} : Stp1 (XR K (fun x y H Q => y = .non ∧ Q (.bl (!decide (x = .non))) H) (.d (.str m)) (.d .none) ρ o R) (R (.d (.bool true)) ρ o) := ⟨xr_notN_str⟩
instance s1_xr_notN_bl {m : Bool} : Stp1 (XR K (fun x y H Q => y = .non ∧ Q (.bl (!decide (x = .non))) H) (.d (.bool m)) (.d .none) ρ o R) (R (.d (.bool true)) ρ o) := ⟨xr_notN_bl⟩
instance s1_xr_notN_tup {m : List PyData} : Stp1 (XR K (fun x y H Q => y = .non ∧ Q (.bl (!decide (x = .non))) H) (.d (.tuple m)) (.d .none) ρ o R) (R (.d (.bool true)) ρ o) := ⟨xr_notN_tup⟩
instance s1_xr_notN_lst {m : List PyData} : Stp1 (XR K (fun x y H Q => y = .non ∧ Q (.bl (!decide (x = .non))) H) (.d (.list m)) (.d .none) ρ o R) (R (.d (.bool true)) ρ o) := ⟨xr_notN_lst⟩
instance s1_xc_lenT {ds : List PyData} : Stp1 (XC K (fun xs H Q => ∃ x n, xs = [x] ∧ LenV K x H n ∧ Q (.int (n : Nat)) H) [.d (.tuple ds)] ρ o R) (R (.d (.int ds.length)) ρ o) := ⟨xc_lenT⟩
instance s1_xc_abs {n : Int} : Stp1 (XC K (fun xs H Q => ∃ i, xs = [.int i] ∧ Q (.int (if i < 0 then -i else i)) H) [.d (.int n)] ρ o R) (R (.d (.int (if n < 0 then -n else n))) ρ o) := ⟨xc_abs⟩
instance s1_xc_min2 {a b : Int} : Stp1 (XC K (fun xs H Q => ∃ i j, xs = [.int i, .int j] ∧ Q (.int (if j < i then j else i)) H) [.d (.int a), .d (.int b)] ρ o R) (R (.d (.int (if b < a then b else a))) ρ o) := ⟨xc_min2⟩
instance s1_xc_max2 {a b : Int} : Stp1 (XC K (fun xs H Q => ∃ i j, xs = [.int i, .int j] ∧ Q (.int (if j > i then j else i)) H) [.d (.int a), .d (.int b)] ρ o R) (R (.d (.int (if b > a then b else a))) ρ o) := ⟨xc_max2⟩
instance s1_xc_int1 {n : Int} : Stp1 (XC K (fun xs H Q => (∃ i, xs = [.int i] ∧ Q (.int i) H) ∨ ∃ k, xs = [.bl k] ∧ Q (.int (if k then 1 else 0)) H) [.d (.int n)] ρ o R) (R (.d (.int n)) ρ o) := ⟨xc_int1⟩
instance s1_xa_nil {R : List DV → RE} : Stp1 (XA K tNil ρ o R) (R [] ρ o) := ⟨xa_nil⟩
instance s1_xa_cons {R : List DV → RE} : Stp1 (XA K (tCons ta T) ρ o R) (XE K ta ρ o fun a ρ1 o1 => XA K T ρ1 o1 fun bs ρ2 o2 => Kept ρ2 a ∧ R (a :: bs) ρ2 o2) := ⟨xa_cons⟩
instance s1_xaf_nil {R : List DV → RE} : Stp1 (XAF K tNil ρ o R) (R [] ρ o) := ⟨xaf_nil⟩
instance s1_xaf_cons {R : List DV → RE} : Stp1 (XAF K (tCons ta T) ρ o R) (XEF K ta ρ o (HandR fun a ρ1 o1 => XAF K T ρ1 o1 fun bs ρ2 o2 => R (a :: bs) ρ2 o2)) := ⟨xaf_cons⟩
instance s1_xad_nil {R : List PyData → RE} : Stp1 (XAD K tNil ρ o R) (R [] ρ o) := ⟨xad_nil⟩
instance s1_xad_cons {R : List PyData → RE} : Stp1 (XAD K (tCons te T) ρ o R) (XEF K te ρ o fun a ρ1 o1 => ∃ d, a = .d d ∧ XAD K T ρ1 o1 fun ds ρ2 o2 => R (d :: ds) ρ2 o2) := ⟨xad_cons⟩
instance s1_xgs_cons {g : TG} {gs : TGs} {d : PyData} {ds : List PyData} : Stp1 (XGs K (gCons g gs) ((d :: ds).map .d) ρ o N) (XG K g (.d d) ρ o fun ρ1 o1 => XGs K gs (ds.map .d) ρ1 o1 N) := ⟨xgs_cons⟩
instance s1_xgs_nilM  : Stp1 (XGs K gNil (([] : List PyData).map DV.d) ρ o N) (N ρ o) := ⟨xgs_nilM⟩
instance s1_xo_no {R : Option Int → RE} : Stp1 (XO K tNoPart ρ o R) (R none ρ o) := ⟨xo_no⟩
instance s1_xo_part {R : Option Int → RE} : Stp1 (XO K (tPart te) ρ o R) (XE K te ρ o fun dv ρ1 o1 => ∃ n, dv = .d (.int n) ∧ R (some n) ρ1 o1) := ⟨xo_part⟩
instance s1_xt_test  : Stp1 (XT K (tTest te) ρ o R') (XE K te ρ o fun dv ρ' o' => ∃ b, dv = .d (.bool b) ∧ R' b ρ' o') := ⟨xt_test⟩
instance s1_xt_b  : Stp1 (XT K (tB te) ρ o R') (XE K te ρ o fun dv ρ' o' => ∃ b, dv = .d (.bool b) ∧ R' b ρ' o') := ⟨xt_b⟩
instance s1_xt_and {t u : TT} {R' : Bool → RE} : Stp1 (XT K (tAnd t u) ρ o R') (XT K t ρ o fun b ρ1 o1 => (b = true → XT K u ρ1 o1 R') ∧ (b = false → R' false ρ1 o1)) := ⟨xt_and⟩
instance s1_xt_or {t u : TT} {R' : Bool → RE} : Stp1 (XT K (tOr t u) ρ o R') (XT K t ρ o fun b ρ1 o1 => (b = true → R' true ρ1 o1) ∧ (b = false → XT K u ρ1 o1 R')) := ⟨xt_or⟩
instance s1_xt_not {t : TT} {R' : Bool → RE} : Stp1 (XT K (tNot t) ρ o R') (XT K t ρ o fun b ρ1 o1 => R' (!b) ρ1 o1) := ⟨xt_not⟩
instance s1_xt_tru  : Stp1 (XT K (tTru K te) ρ o R') (DL.XE K te ρ o fun dv ρ1 o1 => ∃ b, TruD dv b ∧ R' b ρ1 o1) := ⟨xt_tru⟩
instance s1_xt_yes {R' : Bool → RE} : Stp1 (XT K tYes ρ o R') (R' true ρ o) := ⟨xt_yes⟩
instance s1_xs_asg  : Stp1 (XS K (tAsg te (gName i)) ρ o N R B C) (XE K te ρ o fun dv ρ' o' => Nat.blt i ρ'.length = true ∧ AsR i N dv ρ' o') := ⟨xs_asg⟩
instance s1_xs_ret  : Stp1 (XS K (tRet te) ρ o N R B C) (XE K te ρ o R) := ⟨xs_ret⟩
instance s1_xs_retN  : Stp1 (XS K tRetN ρ o N R B C) (R (.d .none) ρ o) := ⟨xs_retN⟩
instance s1_xs_drop  : Stp1 (XS K (tDrop te) ρ o N R B C) (XE K te ρ o fun _ ρ' o' => N ρ' o') := ⟨xs_drop⟩
instance s1_xs_next  : Stp1 (XS K tNext ρ o N R B C) (N ρ o) := ⟨xs_next⟩
instance s1_xs_break  : Stp1 (XS K tBreak ρ o N R B C) (B ρ o) := ⟨xs_break⟩
instance s1_xs_cont  : Stp1 (XS K tCont ρ o N R B C) (C ρ o) := ⟨xs_cont⟩
instance s1_asr_d {x : PyData} : Stp1 (AsR i N (.d x) ρ o) (N (ρ.set i (.val x)) o) := ⟨asr_d⟩
instance s1_hr_d {R' : DV → RE} {x : PyData} : Stp1 (HandR R' (.d x) ρ o) (R' (.d x) ρ o) := ⟨hr_d⟩
instance s1_fz_d {x : PyData} : Stp1 (FzR R (.d x) ρ o) (R (.d x) ρ o) := ⟨fz_d⟩
instance s1_out_d {R' : DV → Ob → Prop} {x : PyData} : Stp1 (OutR R' (.d x) ρ o) (R' (.d x) o) := ⟨out_d⟩
instance s1_asr_n {c : Cont} : Stp1 (AsR i N (.new c) ρ o) (N (ρ.set i (.own c)) o) := ⟨asr_n⟩
instance s1_asr_r {v : V} : Stp1 (AsR i N (.raw v) ρ o) (N (ρ.set i (.raw v)) o) := ⟨asr_r⟩
instance s1_hr_r {R' : DV → RE} {v : V} : Stp1 (HandR R' (.raw v) ρ o) (R' (.raw v) ρ o) := ⟨hr_r⟩
instance s1_fz_r {v : V} : Stp1 (FzR R (.raw v) ρ o) (R (.raw v) ρ o) := ⟨fz_r⟩
instance s1_fz_n {ds : List PyData} : Stp1 (FzR R (.new (.lst ds)) ρ o) (R (.d (.list ds)) ρ o) := ⟨fz_n⟩
instance s1_out_r {R' : DV → Ob → Prop} {v : V} : Stp1 (OutR R' (.raw v) ρ o) (R' (.raw v) o) := ⟨out_r⟩
instance s1_out_n {R' : DV → Ob → Prop} {c : Cont} : Stp1 (OutR R' (.new c) ρ o) (R' (.new c) o) := ⟨out_n⟩
instance s1_out_s {R' : DV → Ob → Prop} {c : Cont} : Stp1 (OutR R' (.sl i c) ρ o) (R' (.new c) o) := ⟨out_s⟩
instance s1_bs_t {A B : Prop} : Stp1 ((true = true → A) ∧ (true = false → B)) (A) := ⟨bs_t⟩
instance s1_bs_f {A B : Prop} : Stp1 ((false = true → A) ∧ (false = false → B)) (B) := ⟨bs_f⟩
instance s1_bs_nt {A B : Prop} : Stp1 (((!true) = true → A) ∧ ((!true) = false → B)) (B) := ⟨bs_nt⟩
instance s1_bs_nf {A B : Prop} : Stp1 (((!false) = true → A) ∧ ((!false) = false → B)) (A) := ⟨bs_nf⟩
instance (priority := low) s1_xs_asgG {g : TG} : Stp1 (XS K (tAsg te g) ρ o N R B C) (XE K te ρ o (HandR fun dv ρ' o' => XG K g dv ρ' o' N)) := ⟨xs_asgG⟩
instance s1f_tC {v : V} : Stp1 (XEF K (tC v) ρ o R) (XE K (tC v) ρ o (FzR R)) := ⟨xf_of⟩
instance s1f_tOp {r : R2} : Stp1 (XEF K (tOp r ta tb) ρ o R) (XE K (tOp r ta tb) ρ o (FzR R)) := ⟨xf_of⟩
instance s1f_tCB {r : List V → Hp → VK → Prop} : Stp1 (XEF K (tCB r T) ρ o R) (XE K (tCB r T) ρ o (FzR R)) := ⟨xf_of⟩
instance s1f_tSl {r : V → Option Int → Option Int → Hp → VK → Prop} {tl th : TO} : Stp1 (XEF K (tSl r te tl th) ρ o R) (XE K (tSl r te tl th) ρ o (FzR R)) := ⟨xf_of⟩
instance s1f_tTup  : Stp1 (XEF K (tTup T) ρ o R) (XE K (tTup T) ρ o (FzR R)) := ⟨xf_of⟩
instance s1f_tLst  : Stp1 (XEF K (tLst T) ρ o R) (XE K (tLst T) ρ o (FzR R)) := ⟨xf_of⟩
instance s1f_tUn  : Stp1 (XEF K (tUn (rU fun i => .int (-i)) te) ρ o R) (XE K (tUn (rU fun i => .int (-i)) te) ρ o (FzR R)) := ⟨xf_of⟩
instance s1f_tAndV  : Stp1 (XEF K (tAndV ta tb) ρ o R) (XE K (tAndV ta tb) ρ o (FzR R)) := ⟨xf_of⟩
instance s1f_tOrV  : Stp1 (XEF K (tOrV ta tb) ρ o R) (XE K (tOrV ta tb) ρ o (FzR R)) := ⟨xf_of⟩
instance s1f_tNotV  : Stp1 (XEF K (tNotV ta) ρ o R) (XE K (tNotV ta) ρ o (FzR R)) := ⟨xf_of⟩
instance s1f_tChain {r r' : R2} : Stp1 (XEF K (tChain r r' ta tb tc) ρ o R) (XE K (tChain r r' ta tb tc) ρ o (FzR R)) := ⟨xf_of⟩
instance s1f_tChain3 {r r' r'' : R2} : Stp1 (XEF K (tChain3 r r' r'' ta tb tc td) ρ o R) (XE K (tChain3 r r' r'' ta tb tc td) ρ o (FzR R)) := ⟨xf_of⟩
instance s1f_tIf  : Stp1 (XEF K (tIf tt ta tb) ρ o R) (XE K (tIf tt ta tb) ρ o (FzR R)) := ⟨xf_of⟩
instance s1f_tDisp {trs : List (TE × TE)} : Stp1 (XEF K (tDisp trs) ρ o R) (XE K (tDisp trs) ρ o (FzR R)) := ⟨xf_of⟩
instance s1f_tRepC {y z : Str} : Stp1 (XEF K (tRepC y z te) ρ o R) (XE K (tRepC y z te) ρ o (FzR R)) := ⟨xf_of⟩
instance s1f_tBM {Ty : String} {r : V → List V → Hp → VK → Prop} {to : TE} : Stp1 (XEF K (tBM K Ty r to T) ρ o R) (XE K (tBM K Ty r to T) ρ o (FzR R)) := ⟨xf_of⟩
instance s1f_tBM0 {Ty : String} {r : V → List V → Hp → VK → Prop} {to : TE} : Stp1 (XEF K (tBM0 K Ty r to) ρ o R) (XE K (tBM0 K Ty r to) ρ o (FzR R)) := ⟨xf_of⟩
instance s1f_tCall {S : DS} {E : XK} : Stp1 (XEF K (tCall (spD K S) [] E T) ρ o R) (XE K (tCall (spD K S) [] E T) ρ o (FzR R)) := ⟨xf_of⟩
instance s1f_tCallS {S : DS} {W : L2.St → XK} : Stp1 (XEF K (tCallS (spD K S) W T) ρ o R) (XE K (tCallS (spD K S) W T) ρ o (FzR R)) := ⟨xf_of⟩
instance (priority := high) s1_bmF {Ty : String} {to : TE} : Stp1 (XE K (tBM K Ty rAppend to T) ρ o R) (XE K to ρ o fun a ρ1 o1 => TyD Ty a ∧ XAF K T ρ1 o1 fun bs ρ2 o2 => Kept ρ2 a ∧ XM K rAppend a bs ρ2 o2 R) := ⟨xe_bmF⟩
instance s1_kd {x : PyData} {Q : Prop} : Stp1 (Kept ρ (.d x) ∧ Q) Q := ⟨fun h => ⟨kept_d, h⟩⟩
instance s1_kr {v : V} {Q : Prop} : Stp1 (Kept ρ (.raw v) ∧ Q) Q := ⟨fun h => ⟨kept_r, h⟩⟩
instance s1_kn {c : Cont} {Q : Prop} : Stp1 (Kept ρ (.new c) ∧ Q) Q := ⟨fun h => ⟨kept_n, h⟩⟩
instance s1_tys {s : Str} {Q : Prop} : Stp1 (TyD "str" (.d (.str s)) ∧ Q) Q := ⟨fun h => ⟨ty_s, h⟩⟩
instance s1_tyo {s : List PyData} {Q : Prop} : Stp1 (TyD "list" (.sl i (.lst s)) ∧ Q) Q := ⟨fun h => ⟨ty_o, h⟩⟩
instance s1_tyl {s : List PyData} {Q : Prop} : Stp1 (TyD "list" (.d (.list s)) ∧ Q) Q := ⟨fun h => ⟨ty_l, h⟩⟩
instance s1_tyn {s : List PyData} {Q : Prop} : Stp1 (TyD "list" (.new (.lst s)) ∧ Q) Q := ⟨fun h => ⟨ty_n, h⟩⟩
instance s1_trb {k : Bool} {Q : Bool → Prop} : Stp1 (∃ b, TruD (.d (.bool k)) b ∧ Q b) (Q k) := ⟨fun h => ⟨_, tru_b, h⟩⟩
instance s1_trl {k : List PyData} {Q : Bool → Prop} : Stp1 (∃ b, TruD (.d (.list k)) b ∧ Q b) (Q (!k.isEmpty)) := ⟨fun h => ⟨_, tru_l, h⟩⟩
instance s1_trt {k : List PyData} {Q : Bool → Prop} : Stp1 (∃ b, TruD (.d (.tuple k)) b ∧ Q b) (Q (!k.isEmpty)) := ⟨fun h => ⟨_, tru_t, h⟩⟩
instance s1_trs {k : List PyData} {Q : Bool → Prop} : Stp1 (∃ b, TruD (.sl i (.lst k)) b ∧ Q b) (Q (!k.isEmpty)) := ⟨fun h => ⟨_, tru_s, h⟩⟩
instance s1_xi {k : Int} {Q : Int → Prop} : Stp1 (∃ n, DV.d (.int k) = DV.d (.int n) ∧ Q n) (Q k) := ⟨fun h => ⟨_, rfl, h⟩⟩
instance s1_xb {k : Bool} {Q : Bool → Prop} : Stp1 (∃ n, DV.d (.bool k) = DV.d (.bool n) ∧ Q n) (Q k) := ⟨fun h => ⟨_, rfl, h⟩⟩
instance s1_xs {k : Str} {Q : Str → Prop} : Stp1 (∃ n, DV.d (.str k) = DV.d (.str n) ∧ Q n) (Q k) := ⟨fun h => ⟨_, rfl, h⟩⟩
instance s1_xd {k : PyData} {Q : PyData → Prop} : Stp1 (∃ n, DV.d k = DV.d n ∧ Q n) (Q k) := ⟨fun h => ⟨_, rfl, h⟩⟩
instance (priority := low) s1_rfl {α : Sort _} {x : α} {Q : Prop} : Stp1 (x = x ∧ Q) Q := ⟨fun h => ⟨rfl, h⟩⟩
end
end DL

set_option Elab.async false
set_option linter.all false
set_option maxRecDepth 100000
namespace DL
open PySem PySem.Spec PyProof.Rows L2 TL
/-! ### the other of two objects -/
section
variable {K : Kx} {ρ : List Sl} {o A B : Ob} {R : RD} {N B' C : RE} {te ta tb tc : TE} {tt : TT} {i : Nat} {T : TA} {ts : TS}
theorem xe_conv (h : DL.XE K te ρ o fun dv ρ' o' => ∃ o2, Ob.le o' o2 ∧ R dv ρ' o2) : DL.XE K te ρ o R := fun G σ H e Q q =>
  h G σ H e Q fun v dv ρ' o1 G' H' ⟨o2, l, r⟩ s e' ok fr => q v dv ρ' o2 G' H' r (s.le l) (e'.le l) (ok.le l) fr
/-- the frame rule for the second object; the raised ones see both -/
theorem xe_and2 (h : DL.XE ⟨K.K, K.W, fun ex ρ o => K.Z ex ρ (o.and A)⟩ te ρ B fun dv ρ' B2 => R dv ρ' (A.and B2)) : DL.XE K te ρ (A.and B) R :=
  xe_obj and_comm_le (xe_conv (xe_frame (XE.mono h fun dv ρ' B2 r => ⟨A.and B2, and_comm_le, r⟩)))
end
/-! ### a text that grows, in a dict -/
abbrev outOb (K : PySem.W.Frag) (ω : Addr) (t : Str) : Ob := dicOb K ω [(Sum.inr "text", .str t)]
abbrev toOb (K : PySem.W.Frag) (τ ω : Addr) (t : Str) : Ob := (tapeOb K τ).and (outOb K ω t)
section
variable {K : Kx} {ρ : List Sl} {o A B : Ob} {R : RD} {N B' C : RE} {te : TE} {i : Nat} {τ ω : Addr} {t : Str}
end
/-! ### the place of a sign in a text -/
section
variable {K : Kx} {ρ : List Sl} {o : Ob} {R : RD}
end
/-! ### a pair of tuples of texts -/
end DL

set_option Elab.async false
set_option linter.all false
set_option maxRecDepth 100000
namespace DL
open PySem PySem.Spec PyProof.Rows L2 TL
/-! ### dicts that the module has written -/
def rInD (K : PySem.W.Frag) (d : Addr) : V → V → Hp → VK → Prop := fun x y H Q => ∃ (z : Str) (r : Option Value), x = .str z ∧ y = .ref d ∧ PySem.W.nsIn K d z = some r ∧ Q (.bl r.isSome) H
section
variable {X : Cx} {K : PySem.W.Frag} {w : World} {d : Addr}
end
section
variable {K : Kx} {w : World} {d f : Addr} {ρ : List Sl} {o : Ob} {R : RD} {z : Str}
end
/-! ### a call of a name that holds one of several defs, that may raise -/
def tCallAX (i : Nat) (S : Addr → Sp → Prop) (E : L2.St → XK) (t : TA) : TE := fun σ H Q => ∃ f sp, σ[i]? = some (some (.ref f)) ∧ S f sp ∧ t σ H fun vs H1 => sp vs H1 Q (E σ)
section
variable {X : Cx} {CX : CXT} {k i : Nat} {x : Str} {p pos : Pos} {e : Expr} {es : List Expr} {t : TA} {S : Addr → Sp → Prop} {E : L2.St → XK}
end
section
variable {K : Kx} {f : Addr} {ρ : List Sl} {o : Ob} {R : RD} {T : TA} {i : Nat}
end
/-! ### tuples of numbers that the module has written -/
/-! ### xs[::-1] -/
theorem rp_snoc {K : PySem.W.Frag} {G : Hp} {v : V} {d : PyData} (h : Rp K G v d) : ∀ {xs : List V} {ds : List PyData}, RpAll K G xs ds → RpAll K G (xs ++ [v]) (ds ++ [d])
  | _, _, .nil => .cons h .nil
  | _, _, .cons a r => .cons a (rp_snoc h r)
theorem rp_rev {K : PySem.W.Frag} {G : Hp} : ∀ {xs : List V} {ds : List PyData}, RpAll K G xs ds → RpAll K G xs.reverse ds.reverse
  | _, _, .nil => .nil
  | _, _, .cons a r => by
    rw [List.reverse_cons, List.reverse_cons]
    exact rp_snoc a (rp_rev r)
theorem pe_revLK {X : Cx} {K : PySem.W.Frag} {e : Expr} {te : TE} {k : Nat} {p1 p2 p3 pos : Pos} (hK : X.K = K) (he : PE X e te) : PE X (.Subscript e (.Slice none none (some (.UnaryOp .USub (.Constant (.int 1) k p1) p2)) p3) pos) (tRevL K te) := hK ▸ pe_revL he
section
variable {K : Kx} {ρ : List Sl} {o : Ob} {R : RD} {te : TE}
theorem xe_revL (h : DL.XE K te ρ o fun dv ρ1 o1 => ∃ ds, IsL ρ1 dv ds ∧ R (.new (.lst ds.reverse)) ρ1 o1) : DL.XE K (tRevL K te) ρ o R := fun G σ H e Q q =>
  h.seq e fun v dv ρ1 o1 G1 H1 ⟨ds, hl, r⟩ s1 e1 ok fr => by
    obtain ⟨p, xs, rfl, hp, rp⟩ := hl.at e1 ok
    exact ⟨p, xs, rfl, .inl (.inl hp), xq_new (fun v dv ρ' o' G' H' r s e' ok' fr' => q v dv ρ' o' G' H' r (s1.trans s) e' ok' (fr'.back s1)) e1 r (rp_rev rp)⟩
end
end DL

set_option Elab.async false
set_option linter.all false
set_option maxRecDepth 100000
namespace DL
open PySem PySem.Spec PyProof.Rows L2
section
variable {K : Kx} {ρ : List Sl} {o : Ob} {R : RD}
theorem vall_part {P F : Ob} {G : Hp} {σ : L2.St} {H : Hp} {vs : List V} {dvs : List DV} (ok : VAll K.K (Ob.and P F) ρ G σ H vs dvs) (hd : ∀ d ∈ dvs, (∃ x, d = .d x) ∨ ∃ v, d = .raw v) : VAll K.K P ρ G σ H vs dvs := by
  induction ok with
  | nil => exact .nil
  | cons h t ih =>
    refine .cons ?_ (ih fun d hd2 => hd d (List.mem_cons_of_mem _ hd2))
    rcases hd _ (List.mem_cons_self ..) with ⟨x, rfl⟩ | ⟨x, rfl⟩
    · exact h
    · exact h
end
end DL

set_option Elab.async false
set_option linter.all false
set_option maxRecDepth 100000
namespace DL
open PySem PySem.Spec PyProof.Rows L2 TL
/-! ### str of a number or of a truth -/
def rStrU : List V → Hp → VK → Prop := fun xs H Q => (∃ i : Int, xs = [.int i] ∧ i.natAbs.log2 < 1920 ∧ Q (.str (toString i)) H) ∨ ∃ b : Bool, xs = [.bl b] ∧ Q (.str (if b then "True" else "False")) H
theorem call_strU {X : Cx} : CallR X (.type "str") rStrU := by
  intro pins s σ H xs us Q I r h
  rcases h with ⟨i, rfl, hz, q⟩ | ⟨b, rfl, q⟩
  · obtain ⟨u, rfl, t, rfl⟩ := vals1 r
    exact PySem.P.str_of_int hz ⟨.str _, H, I.tok _, ⟨_, rfl⟩, q⟩
  · obtain ⟨u, rfl, r1⟩ := vals1 r
    cases r1
    exact PySem.P.str_of_bool ⟨.str _, H, I.tok _, ⟨_, rfl⟩, q⟩
section
variable {K : Kx} {ρ : List Sl} {o : Ob} {R : RD}
theorem xc_strI {n : Int} (h : n.natAbs.log2 < 1920) (r : R (.d (.str (Str.ofString (toString n)))) ρ o) : XC K rStrU [.d (.int n)] ρ o R := fun G σ H vs e h0 Q q => by
  obtain ⟨v, rfl, hv⟩ := va1 h0
  cases vok_int hv
  exact .inl ⟨n, rfl, h, xq_now q e r (.str _)⟩
end
/-! ### f-strings -/
def tJoined (ts : List TE) : TE := fun σ H Q => tJs ts Str.empty σ H fun out H1 => Q (.str out) H1
section
variable {K : Kx} {ρ : List Sl} {o : Ob} {R : RD} {te : TE} {ts : List TE} {acc : Str}
/-- the texts one behind the other, deeply -/
def XJ (K : Kx) (ts : List TE) (acc : Str) (ρ : List Sl) (o : Ob) (R : Str → RE) : Prop :=
  ∀ G σ H, En K o ρ G σ H → ∀ Q : Str → Hp → Prop, (∀ out ρ' o' G' H', R out ρ' o' → Stp ρ σ o G H ρ' σ o' G' H' → En K o' ρ' G' σ H' → Q out H') → tJs ts acc σ H Q
theorem xj_nil {R : Str → RE} (r : R acc ρ o) : XJ K [] acc ρ o R := fun G σ H e Q q => q _ _ _ _ _ r Stp.refl e
theorem xj_cons {R : Str → RE} (h : DL.XE K te ρ o fun dv ρ1 o1 => ∃ y, dv = .d (.str y) ∧ (acc ++ y).length ≤ sizeLine ∧ XJ K ts (acc ++ y) ρ1 o1 R) : XJ K (te :: ts) acc ρ o R := fun G σ H e Q q =>
  h.seq e fun v dv ρ1 o1 G1 H1 ⟨y, hd, hl, r⟩ s1 e1 ok fr => by
    subst hd
    exact ⟨y, vok_str ok, hl, r G1 σ H1 e1 Q fun out ρ' o' G' H' r s e => q out ρ' o' G' H' r (s1.trans s) e⟩
theorem xe_joined (h : XJ K ts Str.empty ρ o fun out ρ' o' => R (.d (.str out)) ρ' o') : DL.XE K (tJoined ts) ρ o R := fun G σ H e Q q =>
  h G σ H e _ fun out ρ' o' G' H' r s e => q _ _ _ _ _ _ r s e (.str _) trivial
theorem xe_fmt (h : DL.XE K te ρ o fun dv ρ1 o1 => ∃ y, dv = .d (.str y) ∧ y.length ≤ sizeLine ∧ R (.d (.str y)) ρ1 o1) : DL.XE K (tFmt te) ρ o R := fun G σ H e Q q =>
  h.seq e fun v dv ρ1 o1 G1 H1 ⟨y, hd, hl, r⟩ s1 e1 ok fr => by
    subst hd
    exact .inl ⟨y, vok_str ok, hl, q _ _ _ _ _ _ r s1 e1 (.str _) trivial⟩
instance s1_joined : Stp1 (DL.XE K (tJoined ts) ρ o R) (XJ K ts Str.empty ρ o fun out ρ' o' => R (.d (.str out)) ρ' o') := ⟨xe_joined⟩
instance s1_fmt : Stp1 (DL.XE K (tFmt te) ρ o R) (DL.XE K te ρ o fun dv ρ1 o1 => ∃ y, dv = .d (.str y) ∧ y.length ≤ sizeLine ∧ R (.d (.str y)) ρ1 o1) := ⟨xe_fmt⟩
instance s1_jn {R : Str → RE} : Stp1 (XJ K [] acc ρ o R) (R acc ρ o) := ⟨xj_nil⟩
instance s1_jc {R : Str → RE} : Stp1 (XJ K (te :: ts) acc ρ o R) (DL.XE K te ρ o fun dv ρ1 o1 => ∃ y, dv = .d (.str y) ∧ (acc ++ y).length ≤ sizeLine ∧ XJ K ts (acc ++ y) ρ1 o1 R) := ⟨xj_cons⟩
instance s1f_joined : Stp1 (XEF K (tJoined ts) ρ o R) (DL.XE K (tJoined ts) ρ o (FzR R)) := ⟨xf_of⟩
/-! ### numbers out of a written dict -/
/-! ### a text in a text -/
end
def nd : Bool → List Nat → Bool
  | _, [] => true
  | p, c :: r => if c = 32 then !p && nd true r else nd false r
end DL

set_option Elab.async false
set_option linter.all false
set_option maxRecDepth 100000
namespace DL
open PySem PySem.Spec PyProof.Rows L2 TL
/-! ### a written dict has no other keys -/
end DL

set_option Elab.async false
set_option linter.all false
set_option maxRecDepth 100000
namespace DL
open PySem PySem.Spec PyProof.Rows L2
/-! ### x in l, l.index(x) where the items are data -/
section
variable {X : Cx} {K : PySem.W.Frag}
end
section
variable {K : Kx} {ρ : List Sl} {o : Ob} {R : RD}
end
end DL

set_option Elab.async false
set_option linter.all false
set_option maxRecDepth 100000
namespace DL
open PySem PySem.Spec PyProof.Rows L2
/-! ### a written text in front of a replaced one: its token is out -/
end DL

set_option Elab.async false
set_option linter.all false
set_option maxRecDepth 100000
namespace DL
open PySem PySem.Spec PyProof.Rows L2
/-! ### d.setdefault(k, x), d.pop(k), d.pop(k, x) where keys are tuples -/
section
variable {X : Cx} {pins : List (Addr × Obj)} {σ : L2.St} {H : Hp} {s : Shared} {a b : Addr} {r : Value} {d v : V} {k : List L2.Key} {kvs : List (List L2.Key × V)} {A : Around} {E : Value → Shared → Prop} {Q : Value → Shared → Prop}
end
def tDSetdT (td ty tx : TE) : TE := fun σ H Q => td σ H fun x H1 => ∃ a, x = .ref a ∧ IsD H1 a ∧ ty σ H1 fun y H2 => tx σ H2 fun z H3 => ∃ (kvs : List (List L2.Key × V)) (k : List L2.Key) (b : Addr), H3 a = some (.dT kvs) ∧ y = .ref b ∧ H3 b = some (.tup (k.map kV)) ∧ kvs.length < sizeLine ∧
  (∀ v, valV kvs k = some v → Q v H3) ∧ (valV kvs k = none → Q z (upd H3 a (.dT (putK kvs k z))))
def tDPopT1 (td ty : TE) : TE := fun σ H Q => td σ H fun x H1 => ∃ a, x = .ref a ∧ IsD H1 a ∧ ty σ H1 fun y H2 => ∃ (kvs : List (List L2.Key × V)) (k : List L2.Key) (b : Addr) (v : V), H2 a = some (.dT kvs) ∧ y = .ref b ∧ H2 b = some (.tup (k.map kV)) ∧ valV kvs k = some v ∧ Q v (upd H2 a (.dT (dropK kvs k)))
section
variable {X : Cx} {o e f : Expr} {td ty tx : TE} {apos cpos : Pos}
end
/-! ### try: body finally: suite, where the body gives no value -/
def tFin (tb : WX → TS) (tf tfs : TS) (Wout : WX) : TS := fun D σ H => tb (wFin tfs Wout) { nx := fun σ1 H1 => tf D σ1 H1, rt := fun _ _ => False } σ H
section
variable {X : Cx} {body : List Stmt} {f₀ : Stmt} {fs : List Stmt} {pos : Pos} {tb : WX → TS} {tf tfs : TS} {Wout : WX}
end
end DL

set_option Elab.async false
set_option linter.all false
set_option maxRecDepth 100000
namespace DL
open PySem PySem.Spec PyProof.Rows L2
/-! ### objects as lists of cells -/
abbrev Cell := Addr × HO
def Mono (φ : Hp → Prop) : Prop := ∀ G G', Sub G G' → φ G → φ G'
def cOb (cs : List Cell) (φ : Hp → Prop) : Ob where
  fp := fun a => a ∈ cs.map Prod.fst
  ok := fun G H => (∀ p ∈ cs, H p.1 = some p.2) ∧ (cs.map Prod.fst).Nodup ∧ (∀ p ∈ cs, NT p.2) ∧ Mono φ ∧ φ G
  st := fun G H G' H' ⟨h1, h2, h3, h4, h5⟩ s h => ⟨fun p hp => by rw [h p.1 (List.mem_map.mpr ⟨p, hp, rfl⟩)]; exact h1 p hp, h2, h3, h4, h4 _ _ s h5⟩
theorem nodup_fst : ∀ {cs : List Cell}, (cs.map Prod.fst).Nodup → ∀ {p q : Cell}, p ∈ cs → q ∈ cs → p.1 = q.1 → p = q
  | [], _, p, _, hp, _, _ => nomatch hp
  | c :: r, nd, p, q, hp, hq, h => by
    rw [List.map_cons, List.nodup_cons] at nd
    obtain ⟨n1, n2⟩ := nd
    rcases List.mem_cons.mp hp with hp1 | hp1
    · rcases List.mem_cons.mp hq with hq1 | hq1
      · rw [hp1, hq1]
      · exact (n1 (by rw [← hp1, h]; exact List.mem_map.mpr ⟨q, hq1, rfl⟩)).elim
    · rcases List.mem_cons.mp hq with hq1 | hq1
      · exact (n1 (by rw [← hq1, ← h]; exact List.mem_map.mpr ⟨p, hp1, rfl⟩)).elim
      · exact nodup_fst n2 hp1 hq1 h
section
variable {K : Kx} {ρ : List Sl} {σ : L2.St} {o : Ob} {G H G' H' : Hp} {cs cs' : List Cell} {φ φ' : Hp → Prop} {x : Addr} {y y0 : HO}
/-- the cells move -/
theorem En.move (e : En K (cOb cs φ) ρ G σ H) (h1 : ∀ p ∈ cs', H' p.1 = some p.2) (nd : (cs'.map Prod.fst).Nodup) (nt : ∀ p ∈ cs', NT p.2) (hn : ∀ p ∈ cs', p.1 ∈ cs.map Prod.fst ∨ H p.1 = none)
    (ho : ∀ b z, H b = some z → b ∉ cs.map Prod.fst → H' b = some z) (mn : Mono φ') (hφ : φ' G) : Stp ρ σ (cOb cs φ) G H ρ σ (cOb cs' φ') G H' ∧ En K (cOb cs' φ') ρ G σ H' := by
  have fpm : ∀ a, a ∈ cs'.map Prod.fst → a ∈ cs.map Prod.fst ∨ H a = none := fun a ha => by
    obtain ⟨p, hp, rfl⟩ := List.mem_map.mp ha
    exact hn p hp
  have stp : Stp ρ σ (cOb cs φ) G H ρ σ (cOb cs' φ') G H' := ⟨Sub.refl, fun b z hb nf _ => ho b z hb nf, fun _ h _ _ _ => h, fun a ha => (fpm a ha).imp id .inl, fun _ h => .inl h⟩
  refine ⟨stp, e.step stp ⟨fun b z hb => ho b z (e.wd.sub b z hb) fun m => ?_, fun a ha => ?_, fun a ha => ?_, h1, nd, nt, mn, hφ⟩ fun a ha => ?_⟩
  · rw [e.wd.nfp b m] at hb; cases hb
  · exact (fpm a ha).elim (e.wd.nfp a) e.wd.gnone
  · obtain ⟨p, hp, rfl⟩ := List.mem_map.mp ha
    exact ⟨_, h1 p hp, nt p hp⟩
  · obtain ⟨g, z, hz⟩ := e.occ_own ha
    have nf := e.onf a ha
    refine ⟨g, by rw [ho a z hz nf, hz], fun m => ?_⟩
    rcases fpm a m with m | m
    · exact nf m
    · rw [m] at hz; cases hz
/-- a cell is put -/
structure CPut (cs : List Cell) (φ : Hp → Prop) (x : Addr) (y : HO) (ex : Hp → Prop) (cs' : List Cell) (φ' : Hp → Prop) : Prop where
  mem : (x, y) ∈ cs'
  sub : ∀ G, φ G → ∀ q ∈ cs', q = (x, y) ∨ q ∈ cs
  nd : ∀ G, φ G → (cs.map Prod.fst).Nodup → (cs'.map Prod.fst).Nodup
  nt : NT y
  mn : Mono φ → Mono φ'
  ph : ∀ G, φ G → ex G → φ' G
/-- a cell is new -/
structure CNew (cs : List Cell) (φ : Hp → Prop) (x : Addr) (y : HO) (ex : Hp → Prop) (cs' : List Cell) (φ' : Hp → Prop) : Prop where
  mem : (x, y) ∈ cs'
  sub : ∀ G, φ G → ∀ q ∈ cs', q = (x, y) ∨ q ∈ cs
  nd : ∀ G, φ G → (cs.map Prod.fst).Nodup → x ∉ cs.map Prod.fst → (cs'.map Prod.fst).Nodup
  nt : NT y
  mn : Mono φ → Mono φ'
  ph : ∀ G, φ G → ex G → φ' G
theorem En.cput {ex : Hp → Prop} (e : En K (cOb cs φ) ρ G σ H) (hm : (x, y0) ∈ cs) (c : CPut cs φ x y ex cs' φ') (hex : ex G) : Stp ρ σ (cOb cs φ) G H ρ σ (cOb cs' φ') G (upd H x y) ∧ En K (cOb cs' φ') ρ G σ (upd H x y) := by
  obtain ⟨k1, k2, k3, k4, k5⟩ := e.wd.ok
  have hx : x ∈ cs.map Prod.fst := List.mem_map.mpr ⟨_, hm, rfl⟩
  have nd := c.nd _ k5 k2
  refine e.move (fun p hp => ?_) nd (fun p hp => ?_) (fun p hp => ?_) (fun b z hb nf => ?_) (c.mn k4) (c.ph _ k5 hex)
  · by_cases h : p.1 = x
    · have := nodup_fst nd hp c.mem h
      subst this
      exact upd_same
    · rw [upd_ne h]
      rcases c.sub _ k5 p hp with rfl | q
      · exact absurd rfl h
      · exact k1 p q
  · rcases c.sub _ k5 p hp with rfl | q
    · exact c.nt
    · exact k3 p q
  · rcases c.sub _ k5 p hp with rfl | q
    · exact .inl hx
    · exact .inl (List.mem_map.mpr ⟨p, q, rfl⟩)
  · rw [upd_ne (fun h => nf (by rw [h]; exact hx))]; exact hb
theorem En.cfresh (e : En K (cOb cs φ) ρ G σ H) (hx : H x = none) : x ∉ cs.map Prod.fst := fun m => by
  obtain ⟨p, hp, rfl⟩ := List.mem_map.mp m
  rw [e.wd.ok.1 p hp] at hx; cases hx
theorem En.cnew {ex : Hp → Prop} (e : En K (cOb cs φ) ρ G σ H) (hx : H x = none) (c : CNew cs φ x y ex cs' φ') (hex : ex G) : Stp ρ σ (cOb cs φ) G H ρ σ (cOb cs' φ') G (upd H x y) ∧ En K (cOb cs' φ') ρ G σ (upd H x y) := by
  obtain ⟨k1, k2, k3, k4, k5⟩ := e.wd.ok
  have nx := e.cfresh hx
  have nd := c.nd _ k5 k2 nx
  refine e.move (fun p hp => ?_) nd (fun p hp => ?_) (fun p hp => ?_) (fun b z hb nf => ?_) (c.mn k4) (c.ph _ k5 hex)
  · by_cases h : p.1 = x
    · have := nodup_fst nd hp c.mem h
      subst this
      exact upd_same
    · rw [upd_ne h]
      rcases c.sub _ k5 p hp with rfl | q
      · exact absurd rfl h
      · exact k1 p q
  · rcases c.sub _ k5 p hp with rfl | q
    · exact c.nt
    · exact k3 p q
  · rcases c.sub _ k5 p hp with rfl | q
    · exact .inr hx
    · exact .inl (List.mem_map.mpr ⟨p, q, rfl⟩)
  · rw [upd_ne (ne_of_none hb hx)]; exact hb
/-! ### values out of cells and into them -/
def VD (K : PySem.W.Frag) (G : Hp) (v : V) (dv : DV) : Prop := dv = .raw v ∨ ∃ d, dv = .d d ∧ Rp K G v d
def Vd (dv : DV) (u : V) : Prop := match dv with
  | .raw v => u = v
  | .d (.int n) => u = .int n
  | .d .none => u = .non
  | .d (.bool b) => u = .bl b
  | .d (.str s) => u = .str s
  | .d _ => True
  | _ => False
def VdG (K : PySem.W.Frag) (dv : DV) (u : V) (G : Hp) : Prop := match dv with
  | .d d => Rp K G u d
  | _ => True
theorem vd_ok {K : PySem.W.Frag} {v : V} {dv : DV} (h : VOk K o ρ G σ H v dv) (hr : (∃ d, dv = .d d) ∨ ∃ u, dv = .raw u) : Vd dv v ∧ VdG K dv v G := by
  rcases hr with ⟨d, rfl⟩ | ⟨u, rfl⟩
  · refine ⟨?_, h⟩
    cases d with
    | none => exact vok_non h
    | bool b => exact vok_bl h
    | int n => exact vok_int h
    | str s => exact vok_str h
    | list _ => trivial
    | tuple _ => trivial
    | dict _ => trivial
  · exact ⟨h, trivial⟩
theorem vd_in {K : PySem.W.Frag} {v : V} {dv : DV} (h : VD K G v dv) : VOk K o ρ G σ H v dv := by
  rcases h with rfl | ⟨d, rfl, h⟩
  · rfl
  · exact h
theorem vd_fr {K : PySem.W.Frag} {v : V} {dv : DV} (h : VD K G v dv) : VFr ρ σ o H v dv := by
  rcases h with rfl | ⟨d, rfl, h⟩ <;> trivial
end
/-- the tuple of a key -/
def KeyAt (G : Hp) (b : Addr) (k : List L2.Key) : Prop := G b = some (.tup (k.map kV))
theorem KeyAt.sub {G G' : Hp} {b : Addr} {k : List L2.Key} (s : Sub G G') (h : KeyAt G b k) : KeyAt G' b k := s _ _ h
def kyD (k : List L2.Key) : PyData := .tuple (k.map kD)
theorem rp_kd {K : PySem.W.Frag} {G : Hp} : ∀ k : L2.Key, Rp K G (kV k) (kD k)
  | .inl i => .int i
  | .inr s => .str s
theorem rp_kds {K : PySem.W.Frag} {G : Hp} : ∀ k : List L2.Key, RpAll K G (k.map kV) (k.map kD)
  | [] => .nil
  | a :: r => .cons (rp_kd a) (rp_kds r)
theorem KeyAt.rp {K : PySem.W.Frag} {G : Hp} {b : Addr} {k : List L2.Key} (h : KeyAt G b k) : Rp K G (.ref b) (kyD k) := .tup (.inl (.inl h)) (rp_kds k)
/-! ### attributes -/
section
variable {K : Kx} {ρ : List Sl} {o : Ob} {R : RD} {N B C' : RE} {te tv td ta tx : TE} {T : TA} {C a dx p b : Addr} {f : Str} {i j : Nat} {cs : List Cell} {φ : Hp → Prop} {fs : List (Str × V)} {dv' : DV} {v : V} {kvs : List (List L2.Key × V)} {k : List L2.Key} {xs : List V}
theorem xe_cf (hi : ρ[i]? = some (.raw (.ref a))) (c : Cls K C) (n : NoAttr K C f) (hm : (a, HO.ins C dx fs) ∈ cs) (l : fs.lookup f = some v) (hv : ∀ G, φ G → VD K G v dv') (h : R dv' ρ (cOb cs φ)) : DL.XE K (tFld K (tVar i) f) ρ (cOb cs φ) R := fun G σ H e Q q => by
  obtain ⟨ov, k1, k2⟩ := e.sl i _ hi
  have k2 : ov = some (.ref a) := k2
  subst k2
  obtain ⟨g1, g2, g3, g4, g5⟩ := e.wd.ok
  have hv := hv G g5
  exact ⟨.ref a, k1, a, C, dx, fs, v, rfl, g1 _ hm, c, n, l, q _ _ _ _ _ _ h Stp.refl e (vd_in hv) (vd_fr hv)⟩
/-- x.f = e -/
theorem xs_cf (c : Cls K C) (n : NoAttr K C f) (h : DL.XE K tv ρ o (HandR fun dv ρ1 o1 => ρ1[i]? = some (.raw (.ref a)) ∧ ∃ cs φ dx fs, o1 = cOb cs φ ∧ (a, HO.ins C dx fs) ∈ cs ∧ fs.length < 1000 ∧ ∀ u, Vd dv u → ∃ cs' φ', CPut cs φ a (.ins C dx (putF f u fs)) (VdG K dv u) cs' φ' ∧ N ρ1 (cOb cs' φ'))) :
    XS K (sFld K (tVar i) tv f) ρ o N R B C' := fun G σ H e D qn qr qb qc =>
  h.seq e fun y dv ρ1 o1 G1 H1 r s1 e1 ok1 fr1 => by
    have hr : ((∃ d, dv = .d d) ∨ ∃ u, dv = .raw u) ∧ ρ1[i]? = some (.raw (.ref a)) ∧ ∃ cs φ dx fs, o1 = cOb cs φ ∧ (a, HO.ins C dx fs) ∈ cs ∧ fs.length < 1000 ∧ ∀ u, Vd dv u → ∃ cs' φ', CPut cs φ a (.ins C dx (putF f u fs)) (VdG K dv u) cs' φ' ∧ N ρ1 (cOb cs' φ') := by
      cases dv with
      | d x => exact ⟨.inl ⟨x, rfl⟩, r⟩
      | raw x => exact ⟨.inr ⟨x, rfl⟩, r⟩
      | sl _ _ => exact False.elim r
      | new _ => exact False.elim r
    obtain ⟨hr, hi, cs, φ, dx, fs, rfl, hm, hl, r⟩ := hr
    obtain ⟨hd, hg⟩ := vd_ok ok1 hr
    obtain ⟨cs', φ', cp, nn⟩ := r y hd
    obtain ⟨ov, k1, k2⟩ := e1.sl i _ hi
    have k2 : ov = some (.ref a) := k2
    subst k2
    obtain ⟨st, en⟩ := e1.cput hm cp hg
    exact ⟨.ref a, k1, a, C, dx, fs, rfl, e1.wd.ok.1 _ hm, c, n, hl, qn _ _ _ _ _ nn (s1.trans st) en⟩
/-- x.f += e, numbers -/
theorem xs_cfAug {rd : V → V → Hp → VK → Prop} {op : Int → Int → Int} (hop : ∀ m n H (Q : VK), Q (.int (op m n)) H → rd (.int m) (.int n) H Q) (c : Cls K C) (n : NoAttr K C f) {m : Int} (hi : ρ[i]? = some (.raw (.ref a))) (hm : (a, HO.ins C dx fs) ∈ cs) (l : fs.lookup f = some (.int m)) (hl : fs.length < 1000)
    (h : DL.XE K tv ρ (cOb cs φ) fun dv ρ1 o1 => ∃ n, dv = .d (.int n) ∧ o1 = cOb cs φ ∧ ∃ cs' φ', CPut cs φ a (.ins C dx (putF f (.int (op m n)) fs)) (fun _ => True) cs' φ' ∧ N ρ1 (cOb cs' φ')) :
    XS K (sFldAug K (tVar i) tv rd f) ρ (cOb cs φ) N R B C' := fun G σ H e D qn qr qb qc => by
  obtain ⟨ov, k1, k2⟩ := e.sl i _ hi
  have k2 : ov = some (.ref a) := k2
  subst k2
  refine ⟨.ref a, k1, a, C, dx, fs, _, rfl, e.wd.ok.1 _ hm, c, n, l, h.seq e fun y dv ρ1 o1 G1 H1 ⟨n, hd, ho, cs', φ', cp, nn⟩ s1 e1 ok1 fr1 => ?_⟩
  subst hd ho
  cases vok_int ok1
  obtain ⟨st, en⟩ := e1.cput hm cp trivial
  exact hop _ _ _ _ ⟨dx, fs, e1.wd.ok.1 _ hm, hl, qn _ _ _ _ _ nn (s1.trans st) en⟩
/-! ### dicts whose keys are tuples -/
theorem cell_sub {G H : Hp} {σ : L2.St} (e : En K (cOb cs φ) ρ G σ H) (hk : ∀ G, φ G → KeyAt G b k) : H b = some (.tup (k.map kV)) := e.wd.sub _ _ (hk G e.wd.ok.2.2.2.2)
theorem xe_cget (h : DL.XE K td ρ o fun dv ρ1 o1 => dv = .raw (.ref p) ∧ DL.XE K ta ρ1 o1 fun kv ρ2 o2 => kv = .raw (.ref b) ∧ ∃ cs φ kvs k v dv', o2 = cOb cs φ ∧ (p, HO.dT kvs) ∈ cs ∧ (∀ G, φ G → KeyAt G b k) ∧ valV kvs k = some v ∧ (∀ G, φ G → VD K G v dv') ∧ R dv' ρ2 o2) :
    DL.XE K (tDGet td ta) ρ o R := fun G σ H e Q q =>
  h.seq e fun x dv ρ1 o1 G1 H1 ⟨hd, r1⟩ s1 e1 ok1 fr1 => r1.seq e1 fun y kv ρ2 o2 G2 H2 ⟨hk, cs, φ, kvs, k, v, dv', ho, hm, ka, hv, hd', r⟩ s2 e2 ok2 fr2 => by
    subst hd hk ho
    have ok1 : x = .ref p := ok1
    have ok2 : y = .ref b := ok2
    subst ok1 ok2
    have g := hd' G2 e2.wd.ok.2.2.2.2
    refine ⟨p, v, rfl, ?_, q _ _ _ _ _ _ r (s1.trans s2) e2 (vd_in g) (vd_fr g)⟩
    rw [← hv]
    exact DGet.t (e2.wd.ok.1 _ hm) (cell_sub e2 ka)
theorem xe_cin (h : DL.XE K ta ρ o fun kv ρ1 o1 => kv = .raw (.ref b) ∧ DL.XE K td ρ1 o1 fun dv ρ2 o2 => dv = .raw (.ref p) ∧ ∃ cs φ kvs k, o2 = cOb cs φ ∧ (p, HO.dT kvs) ∈ cs ∧ (∀ G, φ G → KeyAt G b k) ∧ R (.d (.bool (valV kvs k).isSome)) ρ2 o2) :
    DL.XE K (tDIn ta td) ρ o R := fun G σ H e Q q =>
  h.seq e fun x dv ρ1 o1 G1 H1 ⟨hd, r1⟩ s1 e1 ok1 fr1 => r1.seq e1 fun y kv ρ2 o2 G2 H2 ⟨hk, cs, φ, kvs, k, ho, hm, ka, r⟩ s2 e2 ok2 fr2 => by
    subst hd hk ho
    have ok1 : x = .ref b := ok1
    have ok2 : y = .ref p := ok2
    subst ok1 ok2
    exact ⟨p, _, rfl, DGet.t (e2.wd.ok.1 _ hm) (cell_sub e2 ka), q _ _ _ _ _ _ r (s1.trans s2) e2 (.bl _) trivial⟩
/-- d[k] = e -/
theorem xs_cput (h : DL.XE K tv ρ o (HandR fun dv ρ0 o0 => DL.XE K td ρ0 o0 fun dp ρ1 o1 => dp = .raw (.ref p) ∧ DL.XE K ta ρ1 o1 fun kv ρ2 o2 => kv = .raw (.ref b) ∧ ∃ cs φ kvs k, o2 = cOb cs φ ∧ (p, HO.dT kvs) ∈ cs ∧ (∀ G, φ G → KeyAt G b k) ∧ kvs.length < sizeLine ∧
      ∀ u, Vd dv u → ∃ cs' φ', CPut cs φ p (.dT (putK kvs k u)) (VdG K dv u) cs' φ' ∧ N ρ2 (cOb cs' φ'))) :
    XS K (sDPut td ta tv) ρ o N R B C' := fun G σ H e D qn qr qb qc =>
  h.seq e fun w dv ρ0 o0 G0 H0 r0 s0 e0 ok0 fr0 => by
    have hr : ((∃ d, dv = .d d) ∨ ∃ u, dv = .raw u) ∧ DL.XE K td ρ0 o0 fun dp ρ1 o1 => dp = .raw (.ref p) ∧ DL.XE K ta ρ1 o1 fun kv ρ2 o2 => kv = .raw (.ref b) ∧ ∃ cs φ kvs k, o2 = cOb cs φ ∧ (p, HO.dT kvs) ∈ cs ∧ (∀ G, φ G → KeyAt G b k) ∧ kvs.length < sizeLine ∧
      ∀ u, Vd dv u → ∃ cs' φ', CPut cs φ p (.dT (putK kvs k u)) (VdG K dv u) cs' φ' ∧ N ρ2 (cOb cs' φ') := by
      cases dv with
      | d x => exact ⟨.inl ⟨x, rfl⟩, r0⟩
      | raw x => exact ⟨.inr ⟨x, rfl⟩, r0⟩
      | sl _ _ => exact False.elim r0
      | new _ => exact False.elim r0
    obtain ⟨hr, r0⟩ := hr
    refine r0.seq e0 fun x dp ρ1 o1 G1 H1 ⟨hd, r1⟩ s1 e1 ok1 fr1 => r1.seq e1 fun y kv ρ2 o2 G2 H2 ⟨hk, cs, φ, kvs, k, ho, hm, ka, hl, r⟩ s2 e2 ok2 fr2 => ?_
    subst hd hk ho
    have ok1 : x = .ref p := ok1
    have ok2 : y = .ref b := ok2
    subst ok1 ok2
    have okw := ok0.step (s1.trans s2) (by rcases hr with ⟨d, rfl⟩ | ⟨u, rfl⟩ <;> trivial)
    obtain ⟨hd, hg⟩ := vd_ok okw hr
    obtain ⟨cs', φ', cp, nn⟩ := r w hd
    obtain ⟨st, en⟩ := e2.cput hm cp hg
    exact ⟨p, _, rfl, DPut.t (e2.wd.ok.1 _ hm) (cell_sub e2 ka) hl, qn _ _ _ _ _ nn (((s0.trans s1).trans s2).trans st) en⟩
/-- d.pop(k, None) -/
theorem xe_cpop2 (h : DL.XE K td ρ o fun dv ρ1 o1 => dv = .raw (.ref p) ∧ (∃ cs φ kvs, o1 = cOb cs φ ∧ (p, HO.dT kvs) ∈ cs) ∧ XA K T ρ1 o1 fun bs ρ2 o2 => bs = [.raw (.ref b), .d .none] ∧ ∃ cs φ kvs k, o2 = cOb cs φ ∧ (p, HO.dT kvs) ∈ cs ∧ (∀ G, φ G → KeyAt G b k) ∧
      (valV kvs k = none → R (.d .none) ρ2 o2) ∧ (∀ v, valV kvs k = some v → ∃ cs' φ', CPut cs φ p (.dT (dropK kvs k)) (fun _ => True) cs' φ' ∧ R (.raw v) ρ2 (cOb cs' φ'))) :
    DL.XE K (tBM K "dict" DX.rPopT td T) ρ o R := fun G σ H e Q q =>
  h.seq e fun x dv ρ1 o1 G1 H1 ⟨hd, ⟨cs0, φ0, kvs0, ho0, hm0⟩, r1⟩ s1 e1 ok1 fr1 => by
    subst hd
    have ok1 : x = .ref p := ok1
    subst ok1
    refine ⟨.inr (.inr (.inl ⟨rfl, .inr ⟨kvs0, by subst ho0; exact e1.wd.ok.1 _ hm0⟩⟩)), r1 G1 σ H1 e1 _ fun vs bs ρ2 o2 G2 H2 ⟨hb, cs, φ, kvs, k, ho, hm, ka, q1, q2⟩ s2 e2 ok2 => ?_⟩
    subst hb ho
    obtain ⟨u1, u2, rfl, z1, z2⟩ := va2 ok2
    have z1 : u1 = .ref b := z1
    subst z1
    have z2 := vok_non z2
    subst z2
    refine ⟨p, kvs, k, b, .non, rfl, rfl, e2.wd.ok.1 _ hm, cell_sub e2 ka, fun v hv => ?_, fun hv => ?_⟩
    · obtain ⟨cs', φ', cp, r⟩ := q2 v hv
      obtain ⟨st, en⟩ := e2.cput hm cp trivial
      exact q v (.raw v) _ _ _ _ r ((s1.trans s2).trans st) en rfl trivial
    · exact q _ _ _ _ _ _ (q1 hv) (s1.trans s2) e2 .non trivial
/-- {} and [] as new cells -/
theorem xe_cnewT (h : ∀ p, ∃ cs' φ', CNew cs φ p (.dT []) (fun _ => True) cs' φ' ∧ R (.raw (.ref p)) ρ (cOb cs' φ')) : DL.XE K tDNewT ρ (cOb cs φ) R := fun G σ H e Q q => by
  intro p hp
  obtain ⟨cs', φ', cn, r⟩ := h p
  obtain ⟨st, en⟩ := e.cnew hp cn trivial
  exact q (.ref p) (.raw (.ref p)) _ _ _ _ r st en rfl trivial
theorem xe_cnewL (h : ∀ p, ∃ cs' φ', CNew cs φ p (.lst []) (fun _ => True) cs' φ' ∧ R (.raw (.ref p)) ρ (cOb cs' φ')) : DL.XE K (tLst tNil) ρ (cOb cs φ) R := fun G σ H e Q q => by
  refine ⟨Nat.zero_le _, fun p hp => ?_⟩
  obtain ⟨cs', φ', cn, r⟩ := h p
  obtain ⟨st, en⟩ := e.cnew hp cn trivial
  exact q (.ref p) (.raw (.ref p)) _ _ _ _ r st en rfl trivial
/-! ### lists -/
end
theorem cp_hd {x C d : Addr} {fs fs' : List (Str × V)} {c : List Cell} {φ ex : Hp → Prop} : CPut ((x, .ins C d fs) :: c) φ x (.ins C d fs') ex ((x, .ins C d fs') :: c) φ :=
  ⟨.head _, fun _ _ q hq => (List.mem_cons.mp hq).imp id fun h => .tail _ h, fun _ _ h => h, trivial, id, fun _ h _ => h⟩
end DL

set_option Elab.async false
set_option linter.all false
set_option maxRecDepth 100000
namespace DL
open PySem PySem.Spec PyProof.Rows L2
section
variable {K : Kx} {ρ : List Sl} {o : Ob} {R : RD} {N N1 B C' : RE} {te tv td ta tx : TE} {T : TA} {C a dx p b : Addr} {f m : Str} {i j : Nat} {cs : List Cell} {φ : Hp → Prop} {fs : List (Str × V)} {kvs : List (List L2.Key × V)} {k : List L2.Key} {S : DS}
/-! ### list(d): the key tuples stand for good -/
theorem En.keys {G H : Hp} {σ : L2.St} (e : En K (cOb cs φ) ρ G σ H) {bs : List Addr} (hk : IsKeys H kvs bs) : ∃ G', (∀ p ∈ kvs.zip bs, KeyAt G' p.2 p.1.1) ∧ bs.length = kvs.length ∧ Stp ρ σ (cOb cs φ) G H ρ σ (cOb cs φ) G' H ∧ En K (cOb cs φ) ρ G' σ H := by
  have tup : ∀ b ∈ bs, ∃ xs, H b = some (.tup xs) := by
    intro b hb
    unfold IsKeys at hk
    induction hk with
    | nil => exact nomatch hb
    | cons h t ih =>
      rcases List.mem_cons.mp hb with rfl | hb
      · exact ⟨_, h⟩
      · exact ih hb
  have sub1 : Sub G (fun b => if b ∈ bs then H b else G b) := fun b z hz => by
    dsimp only
    split
    · exact e.wd.sub _ _ hz
    · exact hz
  have notn : ∀ b z, H b = some z → NT z → b ∉ bs := fun b z hz nt hb => by
    obtain ⟨xs, hx⟩ := tup b hb
    rw [hx] at hz
    cases hz
    exact nt
  have keep : ∀ b z, G b = none → H b = some z → NT z → (if b ∈ bs then H b else G b) = none := fun b z hg hz nt => by rw [if_neg (notn b z hz nt)]; exact hg
  have stp : Stp ρ σ (cOb cs φ) G H ρ σ (cOb cs φ) (fun b => if b ∈ bs then H b else G b) H := ⟨sub1, fun _ _ h _ _ => h, fun a hg ⟨z, hz, nt⟩ _ _ => keep a z hg hz nt, fun _ h => .inl h, fun _ h => .inl h⟩
  refine ⟨_, ?_, ?_, stp, e.step stp ⟨fun b z hz => ?_, fun a ha => ?_, e.wd.occ, (cOb cs φ).st _ _ _ _ e.wd.ok sub1 fun _ _ => rfl⟩ fun a ha => ?_⟩
  · intro p hp
    have hb : p.2 ∈ bs := (List.of_mem_zip hp).2
    show (if p.2 ∈ bs then H p.2 else G p.2) = _
    rw [if_pos hb]
    clear tup sub1 notn keep stp hb
    unfold IsKeys at hk
    induction hk with
    | nil => exact nomatch hp
    | cons h t ih =>
      rw [List.zip_cons_cons] at hp
      rcases List.mem_cons.mp hp with rfl | hp
      · exact h
      · exact ih hp
  · exact (Paired.length hk).symm
  · split at hz
    · exact hz
    · exact e.wd.sub _ _ hz
  · obtain ⟨z, hz, nt⟩ := e.wd.occ a ha
    exact keep a z (e.wd.nfp a ha) hz nt
  · obtain ⟨g, z, hz⟩ := e.occ_own ha
    exact ⟨keep a z g hz (e.own_nt ha hz), rfl, e.onf a ha⟩
def rListT : List V → Hp → VK → Prop := fun xs H Q => ∃ d kvs, xs = [V.ref d] ∧ Rd H d (.dT kvs) ∧ ∀ p bs, H p = none → IsKeys H kvs bs → Q (.ref p) (upd H p (.lst (bs.map V.ref)))
/-! ### try: .. finally: .. -/
theorem EOk.sub {K : PySem.W.Frag} {G G' H H' : Hp} (s : Sub G G') : ∀ {d : Option Addr} {fs : Option (List (Str × PyData))}, EOk K G H d fs → EOk K G' H' d fs
  | none, none, _ => trivial
  | some d, some fs, ⟨vs, h1, h2, h3⟩ => ⟨vs, s _ _ h1, h2, RpAll.sub s h3⟩
  | none, some _, h => h.elim
  | some _, none, h => h.elim
/-! ### a key's slot holds its data -/
/-- more is known -/
theorem En.know {G H : Hp} {σ : L2.St} {φ' : Hp → Prop} (e : En K (cOb cs φ) ρ G σ H) (mn : Mono φ') (h : φ' G) : Stp ρ σ (cOb cs φ) G H ρ σ (cOb cs φ') G H ∧ En K (cOb cs φ') ρ G σ H := by
  obtain ⟨k1, k2, k3, k4, k5⟩ := e.wd.ok
  exact e.move k1 k2 k3 (fun p hp => .inl (List.mem_map.mpr ⟨p, hp, rfl⟩)) (fun _ _ h _ => h) mn h
theorem vall_kd {G H : Hp} {σ : L2.St} : ∀ {k : List L2.Key} {vs : List V}, VAll K.K o ρ G σ H vs ((k.map kD).map .d) → vs = k.map kV
  | [], _, .nil => rfl
  | a :: r, _, .cons h t => by
    have h := vok_key h
    rw [h, vall_kd t]; rfl
end
end DL

set_option Elab.async false
set_option linter.all false
set_option maxRecDepth 100000
namespace DL
open PySem PySem.Spec PyProof.Rows L2
abbrev Ky := List L2.Key
/-! ### lists by key -/
section
variable {α β κ : Type} [DecidableEq κ] {key : α → κ} {key' : β → κ} {h : α → β}
def getA (key : α → κ) (l : List α) (k : κ) : Option α := l.find? fun x => decide (key x = k)
def putA (key : α → κ) (l : List α) (a : α) : List α := if (l.any fun x => decide (key x = key a)) = true then l.map (fun x => if key x = key a then a else x) else l ++ [a]
def dropA (key : α → κ) (l : List α) (k : κ) : List α := l.filter fun x => decide (key x ≠ k)
theorem any_map (hk : ∀ x, key' (h x) = key x) (l : List α) (k : κ) : ((l.map h).any fun x => decide (key' x = k)) = l.any fun x => decide (key x = k) := by
  rw [List.any_map]
  congr 1
  funext x
  show decide (key' (h x) = k) = _
  rw [hk]
theorem getA_map (hk : ∀ x, key' (h x) = key x) (l : List α) (k : κ) : getA key' (l.map h) k = (getA key l k).map h := by
  unfold getA
  rw [List.find?_map]
  congr 2
  funext x
  show decide (key' (h x) = k) = _
  rw [hk]
theorem putA_map (hk : ∀ x, key' (h x) = key x) (l : List α) (a : α) : putA key' (l.map h) (h a) = (putA key l a).map h := by
  unfold putA
  rw [hk, any_map hk]
  split
  · rw [List.map_map, List.map_map]
    refine List.map_congr_left fun x _ => ?_
    show (if key' (h x) = key a then h a else h x) = h (if key x = key a then a else x)
    rw [hk]
    split <;> rfl
  · rw [List.map_append]; rfl
theorem dropA_map (hk : ∀ x, key' (h x) = key x) (l : List α) (k : κ) : dropA key' (l.map h) k = (dropA key l k).map h := by
  unfold dropA
  rw [List.filter_map]
  congr 2
  funext x
  show decide (key' (h x) ≠ k) = _
  rw [hk]
theorem valV_A {val : α → V} (l : List α) (k : κ) : valV (l.map fun x => (key x, val x)) k = (getA key l k).map val := by
  unfold valV
  rw [List.find?_map]
  unfold getA
  rw [Option.map_map]
  rfl
theorem putK_A {val : α → V} (l : List α) (a : α) : putK (l.map fun x => (key x, val x)) (key a) (val a) = (putA key l a).map fun x => (key x, val x) := by
  unfold putK putA
  have e : ((l.map fun x => (key x, val x)).any fun kv => decide (kv.1 = key a)) = l.any fun x => decide (key x = key a) := any_map (key' := Prod.fst) (h := fun x => (key x, val x)) (fun _ => rfl) l _
  rw [e]
  split
  · rw [List.map_map, List.map_map]
    refine List.map_congr_left fun x _ => ?_
    show (if key x = key a then (key x, val a) else (key x, val x)) = (fun x => (key x, val x)) (if key x = key a then a else x)
    by_cases hx : key x = key a
    · rw [if_pos hx, if_pos hx, hx]
    · rw [if_neg hx, if_neg hx]
  · rw [List.map_append]; rfl
theorem dropK_A {val : α → V} (l : List α) (k : κ) : dropK (l.map fun x => (key x, val x)) k = (dropA key l k).map fun x => (key x, val x) := by
  unfold dropK dropA
  rw [List.filter_map]
  rfl
theorem getA_mem {l : List α} {k : κ} {a : α} (e : getA key l k = some a) : a ∈ l ∧ key a = k := by
  unfold getA at e
  exact ⟨List.mem_of_find?_eq_some e, by simpa using List.find?_some e⟩
theorem putA_mem {l : List α} {a x : α} (hx : x ∈ putA key l a) : x = a ∨ x ∈ l := by
  unfold putA at hx
  split at hx
  · obtain ⟨y, hy, rfl⟩ := List.mem_map.mp hx
    by_cases c : key y = key a
    · rw [if_pos c]; exact .inl rfl
    · rw [if_neg c]; exact .inr hy
  · exact (List.mem_append.mp hx).symm.imp (fun h => by simpa using h) id
theorem dropA_mem {l : List α} {k : κ} {x : α} (hx : x ∈ dropA key l k) : x ∈ l := (List.mem_filter.mp hx).1
theorem getA_put {l : List α} {a : α} (k : κ) : getA key (putA key l a) k = if k = key a then some a else getA key l k := by
  unfold putA
  split
  · rename_i h
    induction l with
    | nil => cases h
    | cons x r ih =>
      unfold getA at ih ⊢
      rw [List.map_cons, List.find?_cons]
      by_cases hx : key x = key a
      · rw [if_pos hx]
        by_cases hk : k = key a
        · subst hk; simp
        · rw [if_neg hk]
          have e1 : decide (key a = k) = false := decide_eq_false fun z => hk z.symm
          rw [e1]
          by_cases hr : (r.any fun x => decide (key x = key a)) = true
          · have := ih hr
            rw [if_neg hk] at this
            rw [this, List.find?_cons, show decide (key x = k) = false from decide_eq_false fun z => hk (z.symm.trans hx)]
          · have hm : (r.map fun x => if key x = key a then a else x) = r := by
              conv => rhs; rw [← List.map_id r]
              refine List.map_congr_left fun y hy => ?_
              rw [if_neg]; rfl
              intro z
              exact hr (List.any_eq_true.mpr ⟨y, hy, by simpa using z⟩)
            rw [hm, List.find?_cons, show decide (key x = k) = false from decide_eq_false fun z => hk (z.symm.trans hx)]
      · rw [if_neg hx]
        have hr : (r.any fun x => decide (key x = key a)) = true := by
          rw [List.any_cons, decide_eq_false hx, Bool.false_or] at h; exact h
        by_cases hk : k = key a
        · rw [if_pos hk] at ih ⊢
          rw [show decide (key x = k) = false from decide_eq_false fun z => hx (z.trans hk)]
          exact ih hr
        · rw [if_neg hk] at ih ⊢
          rw [List.find?_cons]
          split
          · rfl
          · exact ih hr
  · rename_i h
    unfold getA
    rw [List.find?_append]
    by_cases hk : k = key a
    · subst hk
      have hn : l.find? (fun x => decide (key x = key a)) = none := by
        rw [List.find?_eq_none]
        intro x hx z
        exact h (List.any_eq_true.mpr ⟨x, hx, z⟩)
      rw [hn]; simp
    · rw [if_neg hk]
      have : ([a] : List α).find? (fun x => decide (key x = k)) = none := by
        rw [List.find?_eq_none]
        intro x hx z
        rw [List.mem_singleton.mp hx] at z
        have z2 : key a = k := by simpa using z
        exact hk z2.symm
      rw [this]; simp
theorem putA_len (l : List α) (a : α) : (putA key l a).length ≤ l.length + 1 := by
  unfold putA
  split
  · rw [List.length_map]; omega
  · rw [List.length_append]; exact Nat.le_refl _
end
/-! ### the keeper's cells -/
structure CIn where
  k : Ky
  v : V
  d : PyData
  r : Int
structure CEn where
  k : Ky
  e : Addr
  d : Addr
  u : Addr
  v : V
  val : PyData
  used : List (Addr × Ky)
  chk : Int
  chg : Int
structure KC where
  dx : Addr
  aI : Addr
  aE : Addr
  aG : Addr
  aA : Addr
  aD : Addr
  f : V
  ins : List CIn
  ents : List CEn
  going : List Ky
  asked : List (Addr × List Ky)
  done : List (Addr × Ky)
  rev : Int
  left : Option Int
def lV : Option Int → V
  | none => .non
  | some n => .int n
def lD : Option Int → PyData
  | none => .none
  | some n => .int n
def trK (l : List Ky) : List (Ky × V) := l.map fun k => (id k, V.bl true)
def KC.attrs (C : KC) : List (Str × V) := [("_compute", C.f), ("_inputs", .ref C.aI), ("_entries", .ref C.aE), ("_revision", .int C.rev), ("_left", lV C.left), ("_going", .ref C.aG), ("_asked", .ref C.aA), ("_done", .ref C.aD)]
def CEn.attrs (x : CEn) : List (Str × V) := [("value", x.v), ("used", .ref x.u), ("checked", .int x.chk), ("changed", .int x.chg)]
def CEn.cells (Ec : Addr) (x : CEn) : List Cell := [(x.e, .ins Ec x.d x.attrs), (x.d, .own x.e), (x.u, .lst (x.used.map fun q => .ref q.1))]
def KC.insK (C : KC) : List (Ky × V) := C.ins.map fun x => (x.k, x.v)
def KC.entK (C : KC) : List (Ky × V) := C.ents.map fun x => (x.k, V.ref x.e)
def askC (l : List (Addr × List Ky)) : List Cell := l.map fun q => (q.1, .dT (trK q.2))
def entC (Ec : Addr) (l : List CEn) : List Cell := l.flatMap (CEn.cells Ec)
def KC.head (Kc a : Addr) (C : KC) : List Cell :=
  [(a, .ins Kc C.dx C.attrs), (C.dx, .own a), (C.aI, .dT C.insK), (C.aE, .dT C.entK), (C.aG, .dT (trK C.going)), (C.aA, .lst (C.asked.map fun q => .ref q.1)), (C.aD, .lst (C.done.map fun q => .ref q.1))]
def KC.cells (Kc Ec a : Addr) (C : KC) (L : List Cell) : List Cell := C.head Kc a ++ (askC C.asked ++ (entC Ec C.ents ++ L))
structure KC.Abs (K : PySem.W.Frag) (C : KC) (kn : List (Addr × Ky)) (G : Hp) : Prop where
  i : ∀ x ∈ C.ins, Rp K G x.v (.tuple [x.d, .int x.r])
  e : ∀ x ∈ C.ents, Rp K G x.v x.val
  u : ∀ x ∈ C.ents, ∀ q ∈ x.used, KeyAt G q.1 q.2
  d : ∀ q ∈ C.done, KeyAt G q.1 q.2
  n : ∀ q ∈ kn, KeyAt G q.1 q.2
  w : (C.ents.map CEn.k).Nodup
def kpOb (K : PySem.W.Frag) (Kc Ec a : Addr) (C : KC) (L : List Cell) (kn : List (Addr × Ky)) : Ob := cOb (C.cells Kc Ec a L) (C.Abs K kn)
theorem abs_mono {K : PySem.W.Frag} {C : KC} {kn : List (Addr × Ky)} : Mono (C.Abs K kn) := fun G G' s h =>
  ⟨fun x hx => Rp.sub s (h.i x hx), fun x hx => Rp.sub s (h.e x hx), fun x hx q hq => (h.u x hx q hq).sub s, fun q hq => (h.d q hq).sub s, fun q hq => (h.n q hq).sub s, h.w⟩
/-! ### what the keeper is, purely -/
structure PIn where
  k : Ky
  d : PyData
  r : Int
structure PEn where
  k : Ky
  val : PyData
  used : List Ky
  chk : Int
  chg : Int
structure KS where
  ins : List PIn
  ents : List PEn
  going : List Ky
  asked : List (List Ky)
  done : List Ky
  rev : Int
  left : Option Int
def CIn.er (x : CIn) : PIn := ⟨x.k, x.d, x.r⟩
def CEn.er (x : CEn) : PEn := ⟨x.k, x.val, x.used.map Prod.snd, x.chk, x.chg⟩
def KC.er (C : KC) : KS := ⟨C.ins.map CIn.er, C.ents.map CEn.er, C.going, C.asked.map Prod.snd, C.done.map Prod.snd, C.rev, C.left⟩
/-! ### cells are told apart by counting -/
theorem nd_count {l l' : List Cell} (h : ∀ x, (l'.map Prod.fst).count x ≤ (l.map Prod.fst).count x) : (l.map Prod.fst).Nodup → (l'.map Prod.fst).Nodup := fun n => by
  rw [List.nodup_iff_count] at n ⊢
  exact fun x => Nat.le_trans (h x) (n x)
theorem nd_countN {l l' : List Cell} {p : Addr} (h : ∀ x, (l'.map Prod.fst).count x ≤ (l.map Prod.fst).count x + if p == x then 1 else 0) : (l.map Prod.fst).Nodup → p ∉ l.map Prod.fst → (l'.map Prod.fst).Nodup := fun n m => by
  rw [List.nodup_iff_count] at n ⊢
  intro x
  have h1 := h x
  by_cases e : p = x
  · subst e
    have := List.count_eq_zero.mpr m
    simp at h1
    omega
  · have e2 : (p == x) = false := by simpa using e
    rw [e2] at h1
    exact Nat.le_trans h1 (n x)
theorem cnt_app (x : Addr) (l l' : List Cell) : ((l ++ l').map Prod.fst).count x = (l.map Prod.fst).count x + (l'.map Prod.fst).count x := by rw [List.map_append, List.count_append]
theorem cnt_cons (x : Addr) (p : Cell) (l : List Cell) : ((p :: l).map Prod.fst).count x = (l.map Prod.fst).count x + if p.1 == x then 1 else 0 := by rw [List.map_cons, List.count_cons]
theorem entC_cons {Ec : Addr} (e : CEn) (l : List CEn) : entC Ec (e :: l) = e.cells Ec ++ entC Ec l := rfl
/-- at most one place has a key -/
def KNd (l : List CEn) : Prop := (l.map CEn.k).Nodup
theorem cnt_drop {Ec : Addr} (x : Addr) (k : Ky) : ∀ (l : List CEn), ((entC Ec (dropA CEn.k l k)).map Prod.fst).count x ≤ ((entC Ec l).map Prod.fst).count x
  | [] => Nat.le_refl _
  | y :: r => by
    have ih := cnt_drop (Ec := Ec) x k r
    unfold dropA at ih ⊢
    rw [List.filter_cons, entC_cons, cnt_app]
    split
    · rw [entC_cons, cnt_app]; omega
    · omega
theorem entC_mem {Ec : Addr} {l : List CEn} {q : Cell} : q ∈ entC Ec l ↔ ∃ y ∈ l, q ∈ y.cells Ec := by
  unfold entC; rw [List.mem_flatMap]
end DL

set_option Elab.async false
set_option linter.all false
set_option maxRecDepth 100000
namespace DL
open PySem PySem.Spec PyProof.Rows L2
section
variable {Kc Ec a : Addr} {C : KC} {L : List Cell}
theorem m_a : (a, HO.ins Kc C.dx C.attrs) ∈ C.cells Kc Ec a L := List.mem_append_left _ (.head _)
theorem m_dx : (C.dx, HO.own a) ∈ C.cells Kc Ec a L := List.mem_append_left _ (.tail _ (.head _))
theorem m_I : (C.aI, HO.dT C.insK) ∈ C.cells Kc Ec a L := List.mem_append_left _ (.tail _ (.tail _ (.head _)))
theorem m_E : (C.aE, HO.dT C.entK) ∈ C.cells Kc Ec a L := List.mem_append_left _ (.tail _ (.tail _ (.tail _ (.head _))))
theorem m_G : (C.aG, HO.dT (trK C.going)) ∈ C.cells Kc Ec a L := List.mem_append_left _ (.tail _ (.tail _ (.tail _ (.tail _ (.head _)))))
theorem m_A : (C.aA, HO.lst (C.asked.map fun q => .ref q.1)) ∈ C.cells Kc Ec a L := List.mem_append_left _ (.tail _ (.tail _ (.tail _ (.tail _ (.tail _ (.head _))))))
theorem m_D : (C.aD, HO.lst (C.done.map fun q => .ref q.1)) ∈ C.cells Kc Ec a L := List.mem_append_left _ (.tail _ (.tail _ (.tail _ (.tail _ (.tail _ (.tail _ (.head _)))))))
theorem m_ask {q : Cell} (h : q ∈ askC C.asked) : q ∈ C.cells Kc Ec a L := List.mem_append_right _ (List.mem_append_left _ h)
theorem m_ent {q : Cell} (h : q ∈ entC Ec C.ents) : q ∈ C.cells Kc Ec a L := List.mem_append_right _ (List.mem_append_right _ (List.mem_append_left _ h))
theorem m_L {q : Cell} (h : q ∈ L) : q ∈ C.cells Kc Ec a L := List.mem_append_right _ (List.mem_append_right _ (List.mem_append_right _ h))
theorem hd_all {P : Cell → Prop} (h1 : P (a, .ins Kc C.dx C.attrs)) (h2 : P (C.dx, .own a)) (h3 : P (C.aI, .dT C.insK)) (h4 : P (C.aE, .dT C.entK)) (h5 : P (C.aG, .dT (trK C.going))) (h6 : P (C.aA, .lst (C.asked.map fun q => .ref q.1))) (h7 : P (C.aD, .lst (C.done.map fun q => .ref q.1))) :
    ∀ q ∈ C.head Kc a, P q := fun q hq => by
  unfold KC.head at hq
  rcases List.mem_cons.mp hq with rfl | hq
  · exact h1
  rcases List.mem_cons.mp hq with rfl | hq
  · exact h2
  rcases List.mem_cons.mp hq with rfl | hq
  · exact h3
  rcases List.mem_cons.mp hq with rfl | hq
  · exact h4
  rcases List.mem_cons.mp hq with rfl | hq
  · exact h5
  rcases List.mem_cons.mp hq with rfl | hq
  · exact h6
  rcases List.mem_cons.mp hq with rfl | hq
  · exact h7
  · exact nomatch hq
/-- all cells -/
theorem c_all {P : Cell → Prop} (h : ∀ q ∈ C.head Kc a, P q) (hA : ∀ q ∈ askC C.asked, P q) (hE : ∀ q ∈ entC Ec C.ents, P q) (hL : ∀ q ∈ L, P q) : ∀ q ∈ C.cells Kc Ec a L, P q := fun q hq => by
  rcases List.mem_append.mp hq with hq | hq
  · exact h q hq
  rcases List.mem_append.mp hq with hq | hq
  · exact hA q hq
  rcases List.mem_append.mp hq with hq | hq
  · exact hE q hq
  · exact hL q hq
theorem sub_h {D : KC} {x : Addr} {y : HO} (h : ∀ q ∈ D.head Kc a, q = (x, y) ∨ q ∈ C.cells Kc Ec a L) (h2 : D.asked = C.asked) (h3 : D.ents = C.ents) : ∀ q ∈ D.cells Kc Ec a L, q = (x, y) ∨ q ∈ C.cells Kc Ec a L :=
  c_all h (fun q hq => .inr (m_ask (by rw [← h2]; exact hq))) (fun q hq => .inr (m_ent (by rw [← h3]; exact hq))) fun q hq => .inr (m_L hq)
theorem c_cnt (x : Addr) : ((C.cells Kc Ec a L).map Prod.fst).count x = ((C.head Kc a).map Prod.fst).count x + (((askC C.asked).map Prod.fst).count x + (((entC Ec C.ents).map Prod.fst).count x + (L.map Prod.fst).count x)) := by
  unfold KC.cells; rw [cnt_app, cnt_app, cnt_app]
end
/-! ### attributes of the keeper -/
section
variable {K : Kx} {ρ : List Sl} {o : Ob} {R : RD} {N B C' : RE} {te tv td ta tx : TE} {T : TA} {Kc Ec a b p : Addr} {i j : Nat} {C : KC} {L : List Cell} {kn : List (Addr × Ky)} {k : Ky}
theorem at_lk (C : KC) : C.attrs.lookup ("_compute" : Str) = some C.f ∧ C.attrs.lookup ("_inputs" : Str) = some (.ref C.aI) ∧ C.attrs.lookup ("_entries" : Str) = some (.ref C.aE) ∧ C.attrs.lookup ("_revision" : Str) = some (.int C.rev) ∧ C.attrs.lookup ("_left" : Str) = some (lV C.left) ∧
    C.attrs.lookup ("_going" : Str) = some (.ref C.aG) ∧ C.attrs.lookup ("_asked" : Str) = some (.ref C.aA) ∧ C.attrs.lookup ("_done" : Str) = some (.ref C.aD) := by
  refine ⟨?_, ?_, ?_, ?_, ?_, ?_, ?_, ?_⟩ <;> (unfold KC.attrs; with_unfolding_all rfl)
theorem kr_ins (c : Cls K Kc) (n : NoAttr K Kc "_inputs") (hi : ρ[i]? = some (.raw (.ref a))) (h : R (.raw (.ref C.aI)) ρ (kpOb K.K Kc Ec a C L kn)) : DL.XE K (tFld K (tVar i) "_inputs") ρ (kpOb K.K Kc Ec a C L kn) R := xe_cf hi c n m_a (at_lk C).2.1 (fun _ _ => .inl rfl) h
theorem kr_ent (c : Cls K Kc) (n : NoAttr K Kc "_entries") (hi : ρ[i]? = some (.raw (.ref a))) (h : R (.raw (.ref C.aE)) ρ (kpOb K.K Kc Ec a C L kn)) : DL.XE K (tFld K (tVar i) "_entries") ρ (kpOb K.K Kc Ec a C L kn) R := xe_cf hi c n m_a (at_lk C).2.2.1 (fun _ _ => .inl rfl) h
theorem kr_rev (c : Cls K Kc) (n : NoAttr K Kc "_revision") (hi : ρ[i]? = some (.raw (.ref a))) (h : R (.d (.int C.rev)) ρ (kpOb K.K Kc Ec a C L kn)) : DL.XE K (tFld K (tVar i) "_revision") ρ (kpOb K.K Kc Ec a C L kn) R := xe_cf hi c n m_a (at_lk C).2.2.2.1 (fun _ _ => .inr ⟨_, rfl, .int _⟩) h
theorem kr_done (c : Cls K Kc) (n : NoAttr K Kc "_done") (hi : ρ[i]? = some (.raw (.ref a))) (h : R (.raw (.ref C.aD)) ρ (kpOb K.K Kc Ec a C L kn)) : DL.XE K (tFld K (tVar i) "_done") ρ (kpOb K.K Kc Ec a C L kn) R := xe_cf hi c n m_a (at_lk C).2.2.2.2.2.2.2 (fun _ _ => .inl rfl) h
/-! ### attributes of an entry -/
variable {x : CEn}
/-! ### asking the dicts -/
theorem kn_at {K : PySem.W.Frag} (hk : (b, k) ∈ kn) : ∀ G, C.Abs K kn G → KeyAt G b k := fun G g => g.n _ hk
theorem ki_in (c : Cls K Kc) (n : NoAttr K Kc "_inputs") (hi : ρ[i]? = some (.raw (.ref a))) (hj : ρ[j]? = some (.raw (.ref b))) (hk : (b, k) ∈ kn) (h : R (.d (.bool (getA CIn.k C.ins k).isSome)) ρ (kpOb K.K Kc Ec a C L kn)) :
    DL.XE K (tDIn (tVar j) (tFld K (tVar i) "_inputs")) ρ (kpOb K.K Kc Ec a C L kn) R := xe_cin (xe_vr hj ⟨rfl, kr_ins c n hi ⟨rfl, _, _, _, _, rfl, m_I, kn_at hk, by
  have e : (valV C.insK k).isSome = (getA CIn.k C.ins k).isSome := by unfold KC.insK; rw [valV_A (key := CIn.k) (val := CIn.v), Option.isSome_map]
  rw [e]; exact h⟩⟩)
theorem ki_get {x : CIn} (c : Cls K Kc) (n : NoAttr K Kc "_inputs") (hi : ρ[i]? = some (.raw (.ref a))) (hj : ρ[j]? = some (.raw (.ref b))) (hk : (b, k) ∈ kn) (hx : getA CIn.k C.ins k = some x) (h : R (.d (.tuple [x.d, .int x.r])) ρ (kpOb K.K Kc Ec a C L kn)) :
    DL.XE K (tDGet (tFld K (tVar i) "_inputs") (tVar j)) ρ (kpOb K.K Kc Ec a C L kn) R := xe_cget (kr_ins c n hi ⟨rfl, xe_vr hj ⟨rfl, _, _, _, _, x.v, _, rfl, m_I, kn_at hk, by
  unfold KC.insK; rw [valV_A (key := CIn.k) (val := CIn.v), hx]; rfl, fun G g => .inr ⟨_, rfl, g.i x (getA_mem hx).1⟩, h⟩⟩)
end
/-! ### the keeper changes -/
section
variable {K : PySem.W.Frag} {Kc Ec a b p : Addr} {C : KC} {L : List Cell} {kn : List (Addr × Ky)} {k : Ky} {ex : Hp → Prop}
theorem cp_ins (i : CIn) : CPut (C.cells Kc Ec a L) (C.Abs K kn) C.aI (.dT (putK C.insK i.k i.v)) (Rp K · i.v (.tuple [i.d, .int i.r])) ({ C with ins := putA CIn.k C.ins i }.cells Kc Ec a L) ({ C with ins := putA CIn.k C.ins i }.Abs K kn) :=
  have e : putK C.insK i.k i.v = (putA CIn.k C.ins i).map fun x => (x.k, x.v) := putK_A (key := CIn.k) (val := CIn.v) C.ins i
  ⟨by rw [e]; exact m_I (C := { C with ins := putA CIn.k C.ins i }), fun _ _ => sub_h (C := C) (D := { C with ins := putA CIn.k C.ins i }) (hd_all (C := { C with ins := putA CIn.k C.ins i }) (.inr m_a) (.inr m_dx) (.inl (by rw [e]; rfl)) (.inr m_E) (.inr m_G) (.inr m_A) (.inr m_D)) rfl rfl, fun _ _ h => h, trivial, fun _ => abs_mono,
    fun G g r => ⟨fun x hx => (putA_mem hx).elim (fun z => by rw [z]; exact r) (g.i x), g.e, g.u, g.d, g.n, g.w⟩⟩
/-- the keeper's attributes change, the addresses stay -/
theorem cp_rev (r : Int) : CPut (C.cells Kc Ec a L) (C.Abs K kn) a (.ins Kc C.dx { C with rev := r }.attrs) ex ({ C with rev := r }.cells Kc Ec a L) ({ C with rev := r }.Abs K kn) :=
  ⟨m_a (C := { C with rev := r }), fun _ _ => sub_h (C := C) (D := { C with rev := r }) (hd_all (C := { C with rev := r }) (.inl rfl) (.inr m_dx) (.inr m_I) (.inr m_E) (.inr m_G) (.inr m_A) (.inr m_D)) rfl rfl, fun _ _ h => h, trivial, fun _ => abs_mono, fun G g _ => ⟨g.i, g.e, g.u, g.d, g.n, g.w⟩⟩
theorem at_put (C : KC) : (∀ r, putF "_revision" (.int r) C.attrs = { C with rev := r }.attrs) ∧ (∀ l, putF "_left" (lV l) C.attrs = { C with left := l }.attrs) ∧ (∀ p, putF "_going" (.ref p) C.attrs = { C with aG := p }.attrs) ∧ (∀ p, putF "_asked" (.ref p) C.attrs = { C with aA := p }.attrs) ∧
    (∀ p, putF "_done" (.ref p) C.attrs = { C with aD := p }.attrs) ∧ (∀ p, putF "_entries" (.ref p) C.attrs = { C with aE := p }.attrs) := by
  refine ⟨fun _ => ?_, fun _ => ?_, fun _ => ?_, fun _ => ?_, fun _ => ?_, fun _ => ?_⟩ <;> (unfold KC.attrs; with_unfolding_all rfl)
theorem hd_cnt (x : Addr) : ((C.head Kc a).map Prod.fst).count x = [a, C.dx, C.aI, C.aE, C.aG, C.aA, C.aD].count x := rfl
theorem dropA_nd {l : List CEn} {k : Ky} (h : (l.map CEn.k).Nodup) : ((dropA CEn.k l k).map CEn.k).Nodup := h.sublist (List.Sublist.map _ (List.filter_sublist ..))
/-- self._entries.pop(key): the cells of the entry are left behind -/
theorem cp_entD (k : Ky) : CPut (C.cells Kc Ec a L) (C.Abs K kn) C.aE (.dT (dropK C.entK k)) ex ({ C with ents := dropA CEn.k C.ents k }.cells Kc Ec a L) ({ C with ents := dropA CEn.k C.ents k }.Abs K kn) := by
  have e : dropK C.entK k = (dropA CEn.k C.ents k).map fun x => (x.k, V.ref x.e) := dropK_A (key := CEn.k) (val := fun x => V.ref x.e) C.ents k
  refine ⟨by rw [e]; exact m_E (C := { C with ents := dropA CEn.k C.ents k }), fun _ _ => c_all (C := { C with ents := dropA CEn.k C.ents k }) (hd_all (C := { C with ents := dropA CEn.k C.ents k }) (.inr m_a) (.inr m_dx) (.inr m_I) (.inl (by rw [e]; rfl)) (.inr m_G) (.inr m_A) (.inr m_D)) (fun q hq => .inr (m_ask hq)) (fun q hq => ?_) (fun q hq => .inr (m_L hq)), fun _ _ => nd_count fun x => ?_, trivial, fun _ => abs_mono,
    fun G g _ => ⟨g.i, fun x hx => g.e x (dropA_mem hx), fun x hx => g.u x (dropA_mem hx), g.d, g.n, dropA_nd g.w⟩⟩
  · obtain ⟨y, hy, h⟩ := entC_mem.mp hq
    exact .inr (m_ent (entC_mem.mpr ⟨y, dropA_mem hy, h⟩))
  · rw [c_cnt, c_cnt]
    have := cnt_drop (Ec := Ec) x k C.ents
    show ((C.head Kc a).map Prod.fst).count x + (((askC C.asked).map Prod.fst).count x + (((entC Ec (dropA CEn.k C.ents k)).map Prod.fst).count x + (L.map Prod.fst).count x)) ≤ _
    omega
/-! ### the asked -/
end
end DL

set_option Elab.async false
set_option linter.all false
set_option maxRecDepth 100000
namespace DL
open PySem PySem.Spec PyProof.Rows L2
/-! ### what a keeper does, as functions -/
/-- a computation: it asks for keys, then gives a value -/
inductive Prog where
  | ret (v : PyData)
  | ask (k : Ky) (c : PyData → Prog)
  | bad
inductive KX where
  | cyc
  | canc
inductive KR (α : Type) where
  | ok (a : α)
  | exc (e : KX)
  | out
abbrev Upd := KS → Ky → KR Int × KS
def lim : Nat := 1000000
def valOf (S : KS) (k : Ky) : Option PyData := match getA PIn.k S.ins k with
  | some x => some x.d
  | none => (getA PEn.k S.ents k).map PEn.val
def askIn (upd : Upd) (S : KS) (k : Ky) : KR PyData × KS := match S.asked.getLast? with
  | none => (.out, S)
  | some ks => if lim ≤ ks.length then (.out, S) else match upd { S with asked := S.asked.dropLast ++ [putA id ks k] } k with
    | (.ok _, S2) => match valOf S2 k with
      | some v => (.ok v, S2)
      | none => (.out, S2)
    | (.exc e, S2) => (.exc e, S2)
    | (.out, S2) => (.out, S2)
def runP (askf : KS → Ky → KR PyData × KS) : Prog → KS → KR PyData × KS
  | .ret v, S => (.ok v, S)
  | .bad, S => (.out, S)
  | .ask k c, S => match askf S k with
    | (.ok v, S1) => runP askf (c v) S1
    | (.exc e, S1) => (.exc e, S1)
    | (.out, S1) => (.out, S1)
def staleP (upd : Upd) : List Ky → Int → KS → KR Bool × KS
  | [], _, S => (.ok false, S)
  | k :: r, c, S => match upd S k with
    | (.ok h, S1) => if c < h then (.ok true, S1) else staleP upd r c S1
    | (.exc e, S1) => (.exc e, S1)
    | (.out, S1) => (.out, S1)
/-- what is left of a limit behind a computation -/
def less : Option Int → Option Int
  | none => none
  | some n => some (n - 1)
def chgOf (r : Int) (v : PyData) : Option PEn → Int
  | none => r
  | some o => if PyData.eqv o.val v then o.chg else r
def oldOk : Option PEn → Bool
  | none => true
  | some o => SeqAt.shaped o.val
def endP (k : Ky) (old : Option PEn) (v : PyData) (S : KS) : KR Int × KS := match S.asked.getLast? with
  | none => (.out, S)
  | some used => if lim ≤ S.ents.length ∨ lim ≤ S.done.length ∨ (getA id S.going k).isNone ∨ SeqAt.shaped v = false ∨ oldOk old = false then (.out, S) else
    (.ok (chgOf S.rev v old), { S with asked := S.asked.dropLast, going := dropA id S.going k, ents := putA PEn.k S.ents ⟨k, v, used, S.rev, chgOf S.rev v old⟩, done := S.done ++ [k] })
def renewP (comp : Ky → Prog) (upd : Upd) (S : KS) (k : Ky) (old : Option PEn) : KR Int × KS :=
  if S.left = some 0 then (.exc .canc, S) else
  if lim ≤ S.going.length ∨ lim ≤ S.asked.length then (.out, S) else
  match runP (askIn upd) (comp k) { S with left := less S.left, going := putA id S.going k, asked := S.asked ++ [[]] } with
  | (.ok v, S2) => endP k old v S2
  | (.exc e, S2) => (.exc e, S2)
  | (.out, S2) => (.out, S2)
def updP (comp : Ky → Prog) : Nat → Upd
  | 0, S, _ => (.out, S)
  | n + 1, S, k => match getA PIn.k S.ins k with
    | some x => (.ok x.r, S)
    | none => if (getA id S.going k).isSome then (.exc .cyc, S) else
      match getA PEn.k S.ents k with
      | none => renewP comp (updP comp n) S k none
      | some e => if e.chk = S.rev then (.ok e.chg, S) else
        if lim ≤ S.going.length then (.out, S) else
        match staleP (updP comp n) e.used e.chk { S with going := putA id S.going k } with
        | (.ok b, S2) => if (getA id S2.going k).isNone then (.out, S2) else
          if b then renewP comp (updP comp n) { S2 with going := dropA id S2.going k } k (some e)
          else (.ok e.chg, { S2 with going := dropA id S2.going k, ents := putA PEn.k S2.ents { e with chk := S2.rev } })
        | (.exc e, S2) => (.exc e, S2)
        | (.out, S2) => (.out, S2)
def eqO : Option PIn → PyData → Bool
  | some x, v => PyData.eqv x.d v
  | none, _ => false
def putP (S : KS) (k : Ky) (v : PyData) : KS := if eqO (getA PIn.k S.ins k) v = true then { S with ents := dropA PEn.k S.ents k } else
  { S with ents := dropA PEn.k S.ents k, rev := S.rev + 1, ins := putA PIn.k S.ins ⟨k, v, S.rev + 1⟩ }
def freeS (S : KS) : KS := { S with going := [], asked := [] }
def askOut (comp : Ky → Prog) (n : Nat) (S : KS) (k : Ky) : KR PyData × KS := match updP comp n S k with
  | (.ok _, S2) => match valOf (freeS S2) k with
    | some v => (.ok v, freeS S2)
    | none => (.out, S2)
  | (.exc e, S2) => (.exc e, freeS S2)
  | (.out, S2) => (.out, S2)
/-! ### the promises -/
def exn : KX → Str
  | .cyc => "CyclicKey"
  | .canc => "Cancelled"
/-- what stays of the keys that are being computed -/
structure KeepR (C D : KC) : Prop where
  f : D.f = C.f
  g : ∀ k ∈ C.going, k ∈ D.going ∧ getA CEn.k D.ents k = getA CEn.k C.ents k
theorem KeepR.refl {C : KC} : KeepR C C := ⟨rfl, fun _ h => ⟨h, rfl⟩⟩
theorem KeepR.trans {C D E : KC} (h : KeepR C D) (k : KeepR D E) : KeepR C E := ⟨k.f.trans h.f, fun x hx => by
  obtain ⟨h1, h2⟩ := h.g x hx
  obtain ⟨k1, k2⟩ := k.g x h1
  exact ⟨k1, k2.trans h2⟩⟩
abbrev kpO (K : PySem.W.Frag) (a : Addr) (C : KC) (L : List Cell) (kn : List (Addr × Ky)) : Ob := kpOb K (clsA K "Keeper") (clsA K "Entry") a C L kn
def RunK {α : Type} (K : PySem.W.Frag) (a : Addr) (C : KC) (L : List Cell) (kn : List (Addr × Ky)) (res : KR α × KS) (f : α → PyData) (R : DV → Ob → Prop) (X : Ex → Ob → Prop) : Prop := match res with
  | (.ok v, S) => ∀ (D : KC) (kn' : List (Addr × Ky)), D.er = S → KeepR C D → (∀ q ∈ kn, q ∈ kn') → R (.d (f v)) (kpO K a D L kn')
  | (.exc e, S) => ∀ (D : KC) (kn' : List (Addr × Ky)) (ex : Ex), D.er = S → KeepR C D → (∀ q ∈ kn, q ∈ kn') → ExN K (exn e) ex → X ex (kpO K a D L kn')
  | (.out, _) => False
theorem RunK.imp {α : Type} {K : PySem.W.Frag} {a : Addr} {C : KC} {L : List Cell} {kn : List (Addr × Ky)} {res : KR α × KS} {f : α → PyData} {R R' : DV → Ob → Prop} {X X' : Ex → Ob → Prop} (h : RunK K a C L kn res f R X) (hR : ∀ v o', R (.d (f v)) o' → R' (.d (f v)) o') (hX : ∀ ex o', X ex o' → X' ex o') : RunK K a C L kn res f R' X' := by
  obtain ⟨r, S⟩ := res
  cases r with
  | ok v => exact fun D kn' h1 h2 h3 => hR v _ (h D kn' h1 h2 h3)
  | exc e => exact fun D kn' ex h1 h2 h3 h4 => hX _ _ (h D kn' ex h1 h2 h3 h4)
  | out => exact h
theorem RunK.move {α : Type} {K : PySem.W.Frag} {a : Addr} {C D : KC} {L : List Cell} {kn kn' : List (Addr × Ky)} {res : KR α × KS} {f : α → PyData} {R : DV → Ob → Prop} {X : Ex → Ob → Prop} (h : RunK K a C L kn res f R X) (k : KeepR C D) (hk : ∀ q ∈ kn, q ∈ kn') : RunK K a D L kn' res f R X := by
  obtain ⟨r, S⟩ := res
  cases r with
  | ok v => exact fun E kn2 h1 h2 h3 => h E kn2 h1 (k.trans h2) fun q hq => h3 q (hk q hq)
  | exc e => exact fun E kn2 ex h1 h2 h3 h4 => h E kn2 ex h1 (k.trans h2) (fun q hq => h3 q (hk q hq)) h4
  | out => exact h
/-- the keeper whose computations are those of a def -/
def KpAt (K : PySem.W.Frag) (cf : Addr) (o : Ob) (a b : Addr) (C : KC) (L : List Cell) (kn : List (Addr × Ky)) (k : Ky) : Prop := o = kpO K a C L kn ∧ C.f = .ref (cf) ∧ (b, k) ∈ kn
def S_Keeper__update (cf : Addr) (comp : Ky → Prog) (n : Nat) (K : PySem.W.Frag) : DS := fun dvs o R X => ∃ a b C L kn k, dvs = [.raw (.ref a), .raw (.ref b)] ∧ KpAt K cf o a b C L kn k ∧ RunK K a C L kn (updP comp n C.er k) .int R X
def S_Keeper__is_stale (cf : Addr) (comp : Ky → Prog) (n : Nat) (K : PySem.W.Frag) : DS := fun dvs o R X => ∃ a C L kn x, dvs = [.raw (.ref a), .raw (.ref x.e)] ∧ o = kpO K a C L kn ∧ C.f = .ref (cf) ∧ x.k ∈ C.going ∧ getA CEn.k C.ents x.k = some x ∧ RunK K a C L kn (staleP (updP comp n) (x.used.map Prod.snd) x.chk C.er) .bool R X
def oldV : Option CEn → DV
  | none => .d .none
  | some x => .raw (.ref x.e)
def S_Keeper__renew (cf : Addr) (comp : Ky → Prog) (n : Nat) (K : PySem.W.Frag) : DS := fun dvs o R X => ∃ a b C L kn k old, dvs = [.raw (.ref a), .raw (.ref b), oldV old] ∧ KpAt K cf o a b C L kn k ∧ k ∉ C.going ∧ (∀ x, old = some x → getA CEn.k C.ents k = some x) ∧ RunK K a C L kn (renewP comp (updP comp n) C.er k (old.map CEn.er)) .int R X
def S_comp (cf : Addr) (comp : Ky → Prog) (n : Nat) (K : PySem.W.Frag) : DS := fun dvs o R X => ∃ a b C L kn k, dvs = [.raw (.ref a), .raw (.ref b)] ∧ KpAt K cf o a b C L kn k ∧ RunK K a C L kn (runP (askIn (updP comp n)) (comp k) C.er) id R X
def S_Keeper_ask (cf : Addr) (comp : Ky → Prog) (n : Nat) (K : PySem.W.Frag) : DS := fun dvs o R X => ∃ a b C L kn k, dvs = [.raw (.ref a), .raw (.ref b)] ∧ KpAt K cf o a b C L kn k ∧ (C.asked = [] → C.going = []) ∧ RunK K a C L kn (if C.asked = [] then askOut comp n C.er k else askIn (updP comp n) C.er k) id R X
def S_Keeper__ask_outside (cf : Addr) (comp : Ky → Prog) (n : Nat) (K : PySem.W.Frag) : DS := fun dvs o R X => ∃ a b C L kn k, dvs = [.raw (.ref a), .raw (.ref b)] ∧ KpAt K cf o a b C L kn k ∧ C.going = [] ∧ (match updP comp n C.er k with
  | (.ok _, S) => ∀ (D : KC) (kn' : List (Addr × Ky)), D.er = freeS S → D.f = C.f → (∀ q ∈ kn, q ∈ kn') → R (.d .none) (kpO K a D L kn')
  | (.exc e, S) => ∀ (D : KC) (kn' : List (Addr × Ky)) (ex : Ex), D.er = freeS S → D.f = C.f → (∀ q ∈ kn, q ∈ kn') → ExN K (exn e) ex → X ex (kpO K a D L kn')
  | (.out, _) => False)
def S_Keeper_put (K : PySem.W.Frag) : DS := fun dvs o R X => ∃ a b C L kn k v, dvs = [.raw (.ref a), .raw (.ref b), .d v] ∧ o = kpO K a C L kn ∧ (b, k) ∈ kn ∧ C.ins.length < lim ∧ SeqAt.shaped v = true ∧ (∀ x ∈ C.ins, SeqAt.shaped x.d = true) ∧
  ∀ D : KC, D.er = putP C.er k v → D.f = C.f → R (.d .none) (kpO K a D L kn)
def S_Keeper___init__ (K : PySem.W.Frag) : DS := fun dvs o R X => ∃ (x dx f : Addr), dvs = [.raw (.ref x), .raw (.ref f)] ∧ o = insOb K (clsA K "Keeper") x dx [] ∧
  ∀ C : KC, C.er = ⟨[], [], [], [], [], 0, none⟩ → C.f = .ref f → R (.d .none) (kpO K x C [] [])
def S_Entry___init__ (K : PySem.W.Frag) : DS := fun dvs o R X => ∃ (e d u : Addr) (val : PyData) (c h : Int) (cs : List Cell) (φ : Hp → Prop), dvs = [.raw (.ref e), .d val, .raw (.ref u), .d (.int c), .d (.int h)] ∧ o = cOb ((e, .ins (clsA K "Entry") d []) :: (d, .own e) :: cs) φ ∧
  ∀ v : V, R (.d .none) (cOb ((e, .ins (clsA K "Entry") d [("value", v), ("used", .ref u), ("checked", .int c), ("changed", .int h)]) :: (d, .own e) :: cs) (fun G => φ G ∧ Rp K G v val))
/-- the classes of the keeper -/
structure KpF (K : PySem.W.Frag) : Prop where
  c : Cls K (clsA K "Keeper")
  comp : NoAttr K (clsA K "Keeper") "_compute"
  ins : NoAttr K (clsA K "Keeper") "_inputs"
  ent : NoAttr K (clsA K "Keeper") "_entries"
  rev : NoAttr K (clsA K "Keeper") "_revision"
  left : NoAttr K (clsA K "Keeper") "_left"
  going : NoAttr K (clsA K "Keeper") "_going"
  asked : NoAttr K (clsA K "Keeper") "_asked"
  done : NoAttr K (clsA K "Keeper") "_done"
  e : Cls K (clsA K "Entry")
  val : NoAttr K (clsA K "Entry") "value"
  used : NoAttr K (clsA K "Entry") "used"
  chk : NoAttr K (clsA K "Entry") "checked"
  chg : NoAttr K (clsA K "Entry") "changed"
theorem at_meth (C : KC) : C.attrs.lookup ("_update" : Str) = none ∧ C.attrs.lookup ("_is_stale" : Str) = none ∧ C.attrs.lookup ("_renew" : Str) = none ∧ C.attrs.lookup ("ask" : Str) = none ∧ C.attrs.lookup ("_ask_outside" : Str) = none ∧ C.attrs.lookup ("put" : Str) = none := by
  refine ⟨?_, ?_, ?_, ?_, ?_, ?_⟩ <;> (unfold KC.attrs; with_unfolding_all rfl)
/-! ### pure state and cells -/
theorem er_ins (C : KC) (k : Ky) : getA PIn.k C.er.ins k = (getA CIn.k C.ins k).map CIn.er := getA_map (key := CIn.k) (key' := PIn.k) (h := CIn.er) (fun _ => rfl) _ _
section
variable {K : Kx} {ρ : List Sl} {o : Ob} {R : RD} {N B C' : RE} {te tv td ta tx : TE} {T : TA} {Kc Ec a b p : Addr} {i j : Nat} {C : KC} {L : List Cell} {kn : List (Addr × Ky)} {k : Ky}
theorem lim_size : lim < sizeLine := by rw [sizeLine_eq]; decide
end
end DL

set_option Elab.async false
set_option linter.all false
set_option maxRecDepth 100000
namespace DL
open PySem PySem.Spec PyProof.Rows L2
theorem CPut.pre {cs cs' : List Cell} {φ φ' ψ ex : Hp → Prop} {x : Addr} {y : HO} (c : CPut cs φ x y ex cs' φ') (h : ∀ G, ψ G → φ G) (m : Mono φ') : CPut cs ψ x y ex cs' φ' :=
  ⟨c.mem, fun G g => c.sub G (h G g), fun G g => c.nd G (h G g), c.nt, fun _ => m, fun G g e => c.ph G (h G g) e⟩
section
variable {K : PySem.W.Frag} {Kc Ec a p : Addr} {y : HO} {C : KC} {L : List Cell} {kn : List (Addr × Ky)} {ex ψ : Hp → Prop}
/-- a cell beside the keeper -/
theorem cn_L (n : NT y) (m : Mono ψ) (h : ∀ G, C.Abs K kn G → ex G → ψ G) : CNew (C.cells Kc Ec a L) (C.Abs K kn) p y ex (C.cells Kc Ec a ((p, y) :: L)) ψ :=
  ⟨m_L (.head _), fun G g q hq => c_all (C := C) (P := fun q => q = (p, y) ∨ q ∈ C.cells Kc Ec a L) (L := (p, y) :: L) (fun q hq => .inr (List.mem_append_left _ hq)) (fun q hq => .inr (m_ask hq)) (fun q hq => .inr (m_ent hq)) (fun q hq => (List.mem_cons.mp hq).elim .inl fun h => .inr (m_L h)) q hq,
    fun G g nd nm => nd_countN (p := p) (fun x => by rw [c_cnt, c_cnt, cnt_cons]; dsimp only; omega) nd nm, n, fun _ => m, h⟩
end
section
variable {K : PySem.W.Frag} {Kc Ec a p : Addr} {C : KC} {L : List Cell} {kn : List (Addr × Ky)} {ex : Hp → Prop}
end
theorem dropA_none {α : Type} {key : α → Ky} {l : List α} {k : Ky} (h : getA key l k = none) : dropA key l k = l := by
  unfold getA at h
  unfold dropA
  rw [List.find?_eq_none] at h
  exact List.filter_eq_self.mpr fun x hx => by have := h x hx; simpa using this
theorem le_insC {K : PySem.W.Frag} {C a dx : Addr} : Ob.le (insOb K C a dx []) (cOb [(a, .ins C dx []), (dx, .own a)] fun _ => True) := by
  refine ⟨fun b => ?_, fun G H ⟨vs, h1, h2, h3⟩ => ?_⟩
  · show b ∈ [a, dx] ↔ b = a ∨ b = dx
    simp
  · cases h3
    refine ⟨fun q hq => ?_, ?_, fun q hq => ?_, fun _ _ _ h => h, trivial⟩
    · rcases List.mem_cons.mp hq with rfl | hq
      · exact h1
      · rcases List.mem_cons.mp hq with rfl | hq
        · exact h2
        · exact nomatch hq
    · show [a, dx].Nodup
      rw [List.nodup_cons]
      refine ⟨fun z => ?_, by simp⟩
      rw [List.mem_singleton.mp z, h2] at h1
      cases h1
    · rcases List.mem_cons.mp hq with rfl | hq
      · trivial
      · rcases List.mem_cons.mp hq with rfl | hq
        · trivial
        · exact nomatch hq
theorem cn_end {cs : List Cell} {φ ex : Hp → Prop} {p : Addr} {y : HO} (n : NT y) : CNew cs φ p y ex (cs ++ [(p, y)]) φ :=
  ⟨List.mem_append_right _ (.head _), fun _ _ q hq => (List.mem_append.mp hq).elim .inr fun h => .inl (List.mem_singleton.mp h), fun _ _ nd nm => by
    rw [List.map_append, List.nodup_append]
    refine ⟨nd, by simp, fun x hx y hy => ?_⟩
    have hy : y = p := by simpa using hy
    rw [hy]
    exact fun z => nm (z ▸ hx), n, id, fun _ h _ => h⟩
section
variable {K : Kx} {ρ : List Sl} {o : Ob} {R : RD}
end
end DL

set_option Elab.async false
set_option linter.all false
set_option maxRecDepth 100000
namespace DL
open PySem PySem.Spec PyProof.Rows L2
/-! ### the keeper's short defs -/
def S_Keeper_limit (K : PySem.W.Frag) : DS := fun dvs o R X => ∃ a C L kn l, dvs = [.raw (.ref a), .d (lD l)] ∧ o = kpO K a C L kn ∧ R (.d .none) (kpO K a { C with left := l } L kn)
def S_Keeper_forget (K : PySem.W.Frag) : DS := fun dvs o R X => ∃ a b C L kn k, dvs = [.raw (.ref a), .raw (.ref b)] ∧ o = kpO K a C L kn ∧ (b, k) ∈ kn ∧ R (.d .none) (kpO K a { C with ents := dropA CEn.k C.ents k } L kn)
def S_Keeper_computed (K : PySem.W.Frag) : DS := fun dvs o R X => ∃ (a : Addr) (C : KC) (L : List Cell) (kn : List (Addr × Ky)), dvs = [.raw (.ref a)] ∧ o = kpO K a C L kn ∧ ∀ p, R (.raw (.ref C.aD)) (kpO K a { C with aD := p, done := [] } ((C.aD, HO.lst (C.done.map fun q : Addr × Ky => V.ref q.1)) :: L) kn)
section
variable {K : PySem.W.Frag} {Kc Ec a p : Addr} {C : KC} {L : List Cell} {kn : List (Addr × Ky)} {ex : Hp → Prop}
/-- self._done = [] -/
theorem cp_aD : CPut (C.cells Kc Ec a ((p, .lst []) :: L)) (C.Abs K kn) a (.ins Kc C.dx { C with aD := p, done := [] }.attrs) ex ({ C with aD := p, done := [] }.cells Kc Ec a ((C.aD, HO.lst (C.done.map fun q : Addr × Ky => V.ref q.1)) :: L)) ({ C with aD := p, done := [] }.Abs K kn) := by
  refine ⟨m_a (C := { C with aD := p, done := [] }), fun _ _ => c_all (C := { C with aD := p, done := [] }) (hd_all (C := { C with aD := p, done := [] }) (.inl rfl) (.inr m_dx) (.inr m_I) (.inr m_E) (.inr m_G) (.inr m_A) (.inr (m_L (.head _)))) (fun q hq => .inr (m_ask hq)) (fun q hq => .inr (m_ent hq)) (fun q hq => .inr ((List.mem_cons.mp hq).elim (fun h => by rw [h]; exact m_D) fun h => m_L (.tail _ h))), fun _ _ => nd_count fun x => ?_, trivial, fun _ => abs_mono, fun G g _ => ⟨g.i, g.e, g.u, fun _ h => (nomatch h), g.n, g.w⟩⟩
  rw [c_cnt, c_cnt, DL.cnt_cons, DL.cnt_cons, hd_cnt, hd_cnt]
  show List.count x [a, C.dx, C.aI, C.aE, C.aG, C.aA, p] + (((askC C.asked).map Prod.fst).count x + (((entC Ec C.ents).map Prod.fst).count x + ((L.map Prod.fst).count x + if C.aD == x then 1 else 0))) ≤ _
  simp only [List.count_cons, List.count_nil]
  omega
end

/-! ### a displayed tuple as a key, other objects beside the keeper -/
theorem xf_tupKpF {K : Kx} {ρ : List Sl} {o : Ob} {R : RD} {TT : TA} (h : XAD K TT ρ o fun ds ρ1 o1 => ∃ Kc Ec a C L kn k F, o1 = (kpOb K.K Kc Ec a C L kn).and F ∧ ds = k.map kD ∧ k.length ≤ 100 ∧ ∀ b, R (.raw (.ref b)) ρ1 ((kpOb K.K Kc Ec a C L ((b, k) :: kn)).and F)) : XEF K (tTup TT) ρ o R := fun G σ H e Q q =>
  h G σ H e _ fun vs dvs ρ1 o1 G1 H1 ⟨_, ds, hd, Kc, Ec, a, C, L, kn, k, F, ho, hk, hl, r⟩ s1 e1 ok => by
    subst hd ho hk
    have hv := vall_kd ok
    subst hv
    refine ⟨by rw [List.length_map, sizeLine_eq]; omega, fun p hp => ?_⟩
    have s2 : Stp ρ1 σ ((kpOb K.K Kc Ec a C L kn).and F) G1 H1 ρ1 σ ((kpOb K.K Kc Ec a C L kn).and F) (upd G1 p (.tup (k.map kV))) (upd H1 p (.tup (k.map kV))) := Stp.newF e1.wd hp
    have e2 := e1.newF (x := .tup (k.map kV)) hp
    have e2p : En (K.fr F) (cOb (C.cells Kc Ec a L) (C.Abs K.K kn)) ρ1 (upd G1 p (.tup (k.map kV))) σ (upd H1 p (.tup (k.map kV))) := e2.part
    obtain ⟨_, _, _, mn, hφ⟩ := e2p.wd.ok
    obtain ⟨s3, e3⟩ := e2p.know (φ' := C.Abs K.K ((p, k) :: kn)) abs_mono ⟨hφ.i, hφ.e, hφ.u, hφ.d, fun q hq => (List.mem_cons.mp hq).elim (fun z => by rw [z]; exact upd_same) (hφ.n q), hφ.w⟩
    exact q (.ref p) (.raw (.ref p)) _ _ _ _ (r p) ((s1.trans s2).trans (Stp.whole e2.toEnB s3)) (e2.whole s3 e3) rfl trivial
end DL

set_option Elab.async false
set_option linter.all false
set_option maxRecDepth 100000
namespace DL
open PySem PySem.Spec PyProof.Rows L2
section
variable {K : Kx} {ρ : List Sl} {o : Ob} {R : RD} {N B C' : RE} {te tv td ta : TE} {T : TA} {C a p b : Addr} {m : Str} {S : DS}
end
end DL

set_option Elab.async false
set_option linter.all false
set_option maxRecDepth 100000
namespace DL
open PySem PySem.Spec PyProof.Rows L2
/-! ### dicts as data: frozen where they stand -/
/-- the thing that an expression gives is frozen from there on -/
def tFrzE (t : TE) : TE := fun σ H Q => t σ H fun v H' => ∃ d u, v = .ref d ∧ H' d = some u ∧ Mut (some u) ∧ ∀ od, Q v (upd H' d (.frz od u))
theorem pe_frz {X : Cx} {e : Expr} {t : TE} (h : PE X e t) : PE X e (tFrzE t) := ⟨fun pins s σ H Q I hw => thn (h.run pins s σ H _ I hw) fun v s1 ⟨x, H1, I1, r, d, u, hx, hd, mu, q⟩ => by
  obtain ⟨od, I2⟩ := I1.lock hd mu
  exact ⟨x, _, I2, r, q od⟩⟩
theorem kD_inj {a b : Key} (h : kD a = kD b) : a = b := by
  cases a <;> cases b <;> first | (cases h; rfl) | exact nomatch h
theorem dicP_inj : ∀ {a b : DKv}, dicP a = dicP b → a = b
  | [], [], _ => rfl
  | [], _ :: _, h => nomatch h
  | _ :: _, [], h => nomatch h
  | p :: a, q :: b, h => by
    have h : (kD p.1, p.2) :: dicP a = (kD q.1, q.2) :: dicP b := h
    obtain ⟨h1, h2⟩ := List.cons.inj h
    obtain ⟨k1, k2⟩ := Prod.mk.inj h1
    rw [dicP_inj h2, show p = q from Prod.ext (kD_inj k1) k2]
section
variable {K : PySem.W.Frag} {G : Hp}
theorem kvr_of : ∀ {kvs : List (Key × V)} {ps : DKv}, kvs.map Prod.fst = ps.map Prod.fst → RpAll K G (kvs.map Prod.snd) (ps.map Prod.snd) → KvR K G kvs ps
  | [], [], _, _ => .nil
  | [], _ :: _, h, _ => nomatch h
  | _ :: _, [], h, _ => nomatch h
  | p :: a, q :: b, h, r => by
    obtain ⟨h1, h2⟩ := List.cons.inj h
    cases r with
    | cons r1 r2 => exact .cons ⟨h1, r1⟩ (kvr_of h2 r2)
theorem KvR.split {kvs : List (Key × V)} {ps : DKv} (h : KvR K G kvs ps) : kvs.map Prod.fst = ps.map Prod.fst ∧ RpAll K G (kvs.map Prod.snd) (ps.map Prod.snd) := by
  induction h with
  | nil => exact ⟨rfl, .nil⟩
  | cons h t ih => exact ⟨by rw [List.map_cons, List.map_cons, ih.1, h.1], .cons h.2 ih.2⟩
theorem KvR.sub {G' : Hp} (s : Sub G G') {kvs : List (Key × V)} {ps : DKv} (h : KvR K G kvs ps) : KvR K G' kvs ps := Paired.mapP h fun a b z => ⟨z.1, Rp.sub s z.2⟩
theorem rp_dic {v : V} {ps : DKv} (h : Rp K G v (dicD ps)) : ∃ a od kvs, v = .ref a ∧ G a = some (.frz od (.dK kvs)) ∧ KvR K G kvs ps := by
  cases h with
  | dic h1 h2 h3 h4 =>
    have := dicP_inj h4
    subst this
    exact ⟨_, _, _, rfl, h1, kvr_of h2 h3⟩
theorem rp_mk {a : Addr} {od : Obj} {kvs : List (Key × V)} {ps : DKv} (h : G a = some (.frz od (.dK kvs))) (k : KvR K G kvs ps) : Rp K G (.ref a) (dicD ps) := .dic h k.split.1 k.split.2 rfl
end
/-- a dict, read where it stands -/
def IsDc (ρ : List Sl) : DV → DKv → Prop
  | .d x, ps => x = dicD ps
  | .sl _ (.dic qs), ps => qs = ps
  | .new (.dic qs), ps => qs = ps
  | _, _ => False
section
variable {K : Kx} {ρ ρ' : List Sl} {σ σ' : L2.St} {o o' : Ob} {G H G' H' : Hp} {R : RD} {N B C' : RE} {te ta td tv tx : TE} {T : TA} {i : Nat} {p : Addr}
theorem IsDc.at {x : V} {dv : DV} {ps : DKv} (l : IsDc ρ dv ps) (e : En K o ρ G σ H) (h : VOk K o ρ G σ H x dv) : ∃ p kvs, x = .ref p ∧ Rd H p (.dK kvs) ∧ KvR K G kvs ps := by
  cases dv with
  | d z =>
    have l : z = dicD ps := l
    subst l
    obtain ⟨a, od, kvs, h1, h2, h3⟩ := rp_dic h
    exact ⟨a, kvs, h1, .inr ⟨od, e.wd.sub _ _ h2⟩, h3⟩
  | raw u => exact l.elim
  | sl i c =>
    cases c with
    | lst _ => exact l.elim
    | dic qs =>
      have l : qs = ps := l
      subst l
      obtain ⟨h1, h2⟩ := h
      obtain ⟨q, y, k1, k2, k3, ok, _⟩ := e.own_at h2
      rw [h1] at k1
      cases k1
      obtain ⟨kvs, rfl, kv⟩ := dic_rep ok
      exact ⟨q, kvs, rfl, .inl k3, kv⟩
  | new c =>
    cases c with
    | lst _ => exact l.elim
    | dic qs =>
      have l : qs = ps := l
      subst l
      obtain ⟨q, y, h1, h2, h3, ok, _⟩ := h
      obtain ⟨kvs, rfl, kv⟩ := dic_rep ok
      exact ⟨q, kvs, h1, .inl h3, kv⟩
/-- a dict is frozen, in the heap too -/
theorem En.frzD {o0 : Ob} {ρ0 : List Sl} {σ0 : L2.St} {G0 H0 : Hp} {od : Obj} {kvs : List (Key × V)} (e0 : En K o0 ρ0 G0 σ0 H0) (s : Stp ρ0 σ0 o0 G0 H0 ρ σ o G H) (e : En K o ρ G σ H) (hG : G p = none) (hH : H p = some (.dK kvs)) (nf : ¬ o.fp p) (no : ¬ Own ρ σ p) (fr : H0 p = none ∨ o0.fp p ∨ Own ρ0 σ0 p) :
    Stp ρ0 σ0 o0 G0 H0 ρ σ o (upd G p (.frz od (.dK kvs))) (upd H p (.frz od (.dK kvs))) ∧ En K o ρ (upd G p (.frz od (.dK kvs))) σ (upd H p (.frz od (.dK kvs))) := by
  have sg : Sub G (upd G p (.frz od (.dK kvs))) := Sub.upd hG
  have np : ∀ a x, H0 a = some x → ¬ o0.fp a → ¬ Own ρ0 σ0 a → a ≠ p := fun a x h h1 h2 z => by
    subst z
    rcases fr with q | q | q
    · rw [h] at q; cases q
    · exact h1 q
    · exact h2 q
  have stp : Stp ρ0 σ0 o0 G0 H0 ρ σ o (upd G p (.frz od (.dK kvs))) (upd H p (.frz od (.dK kvs))) := by
    refine ⟨s.g.trans sg, fun a x h h1 h2 => ?_, fun a h ⟨y, hy, nt⟩ h1 h2 => ?_, fun a h => s.f a h, fun a h => s.w a h⟩
    · rw [upd_ne (np a x h h1 h2)]; exact s.h a x h h1 h2
    · rw [upd_ne (np a y hy h1 h2)]; exact s.n a h ⟨y, hy, nt⟩ h1 h2
  refine ⟨stp, ⟨⟨fun b z hb => ?_, fun a ha => ?_, fun a ha => ?_, ?_⟩, e.len, fun j s' hj => ?_, e.dis, e.onf⟩, e0.wo.step stp⟩
  · by_cases hbp : b = p
    · subst hbp; rw [upd_same] at hb ⊢; exact hb
    · rw [upd_ne hbp] at hb ⊢; exact e.wd.sub _ _ hb
  · rw [upd_ne (show a ≠ p from fun z => nf (by rw [← z]; exact ha))]; exact e.wd.nfp a ha
  · rw [upd_ne (show a ≠ p from fun z => nf (by rw [← z]; exact ha))]; exact e.wd.occ a ha
  · exact o.st _ _ _ _ e.wd.ok sg fun a ha => upd_ne (show a ≠ p from fun z => nf (by rw [← z]; exact ha))
  · obtain ⟨ov, h1, h2⟩ := e.sl j s' hj
    refine ⟨ov, h1, h2.step sg fun q c hs hv => ?_⟩
    subst hs
    have ow : Own ρ σ q := ⟨j, ⟨c, hj⟩, by rw [h1, hv]⟩
    have nq : q ≠ p := fun z => no (by rw [← z]; exact ow)
    exact ⟨by rw [upd_ne nq]; exact (e.occ_own ow).1, upd_ne nq⟩
theorem xe_frz (h : DL.XE K te ρ o fun dv ρ1 o1 => ∃ ps, dv = .new (.dic ps) ∧ R (.d (dicD ps)) ρ1 o1) : DL.XE K (tFrzE te) ρ o R := fun G σ H e Q q =>
  h.seq e fun v dv ρ1 o1 G1 H1 ⟨ps, hd, r⟩ s1 e1 ok1 fr1 => by
    subst hd
    obtain ⟨a, y, rfl, g1, h1, ok, nf, no⟩ := ok1
    obtain ⟨kvs, rfl, kv⟩ := dic_rep ok
    refine ⟨a, _, rfl, h1, trivial, fun od => ?_⟩
    obtain ⟨st, en⟩ := En.frzD (od := od) e s1 e1 g1 h1 nf no (fr1 a rfl)
    exact q _ _ _ _ _ _ r st en (rp_mk upd_same (kv.sub (Sub.upd g1))) trivial
/-- an owned dict of a name is frozen -/
theorem xe_frzS {ps : DKv} (hi : ρ[i]? = some (.own (.dic ps))) (r : R (.d (dicD ps)) (ρ.set i (.val (dicD ps))) o) : DL.XE K (tFrzE (tVar i)) ρ o R := fun G σ H e Q q => by
  obtain ⟨a, y, h1, h2, h3, ok, nf⟩ := e.own_at hi
  obtain ⟨kvs, rfl, kv⟩ := dic_rep ok
  have hl : i < ρ.length := (List.getElem?_eq_some_iff.mp hi).1
  have own : Own ρ σ a := ⟨i, ⟨_, hi⟩, h1⟩
  refine ⟨_, h1, a, _, rfl, h3, trivial, fun od => ?_⟩
  have sg : Sub G (upd G a (.frz od (.dK kvs))) := Sub.upd h2
  have back : ∀ j q, OwnAt (ρ.set i (.val (dicD ps))) σ j q → OwnAt ρ σ j q ∧ j ≠ i := fun j q ⟨⟨c, hc⟩, hs⟩ => by
    by_cases hj : j = i
    · subst hj; rw [List.getElem?_set_self hl] at hc; cases hc
    · rw [List.getElem?_set_ne (Ne.symm hj)] at hc; exact ⟨⟨⟨c, hc⟩, hs⟩, hj⟩
  have stp : Stp ρ σ o G H (ρ.set i (.val (dicD ps))) σ o (upd G a (.frz od (.dK kvs))) (upd H a (.frz od (.dK kvs))) := by
    refine ⟨sg, fun b y h _ no => ?_, fun b h _ _ no => ?_, fun b h => .inl h, fun b ⟨j, hq⟩ => .inl ⟨j, (back j b hq).1⟩⟩
    · rw [upd_ne (show b ≠ a from fun z => no (by rw [z]; exact own))]; exact h
    · rw [upd_ne (show b ≠ a from fun z => no (by rw [z]; exact own))]; exact h
  refine q _ _ _ _ _ _ r stp ⟨⟨⟨fun b z hb => ?_, fun b hb => ?_, fun b hb => ?_, ?_⟩, by simpa using e.len, fun j s' hj => ?_, fun j k q a b => e.dis j k q (back j q a).1 (back k q b).1, fun q ⟨j, hq⟩ => e.onf q ⟨j, (back j q hq).1⟩⟩, e.wo.step stp⟩ (rp_mk upd_same (kv.sub sg)) trivial
  · by_cases hba : b = a
    · subst hba; rw [upd_same] at hb ⊢; exact hb
    · rw [upd_ne hba] at hb ⊢; exact e.wd.sub _ _ hb
  · rw [upd_ne (show b ≠ a from fun z => nf (by rw [← z]; exact hb))]; exact e.wd.nfp b hb
  · rw [upd_ne (show b ≠ a from fun z => nf (by rw [← z]; exact hb))]; exact e.wd.occ b hb
  · exact o.st _ _ _ _ e.wd.ok sg fun b hb => upd_ne (show b ≠ a from fun z => nf (by rw [← z]; exact hb))
  · by_cases hji : j = i
    · subst hji
      rw [List.getElem?_set_self hl] at hj
      cases hj
      exact ⟨_, h1, _, rfl, rp_mk upd_same (kv.sub sg)⟩
    · rw [List.getElem?_set_ne (Ne.symm hji)] at hj
      obtain ⟨ov, k1, k2⟩ := e.sl j s' hj
      refine ⟨ov, k1, k2.step sg fun q c hs hv => ?_⟩
      subst hs
      have oa : OwnAt ρ σ j q := ⟨⟨c, hj⟩, by rw [k1, hv]⟩
      have nq : q ≠ a := fun z => hji (e.dis j i a (by rw [← z]; exact oa) ⟨⟨_, hi⟩, h1⟩)
      exact ⟨by rw [upd_ne nq]; exact (e.occ_own ⟨j, oa⟩).1, upd_ne nq⟩
/-! ### what is read of a dict -/
theorem xe_ddget (h : DL.XE K td ρ o fun dv ρ1 o1 => ∃ ps, IsDc ρ1 dv ps ∧ DL.XE K ta ρ1 o1 fun b ρ2 o2 => Kept ρ2 dv ∧ ∃ k d, b = .d (kD k) ∧ valD ps k = some d ∧ R (.d d) ρ2 o2) : DL.XE K (tDGet td ta) ρ o R := fun G σ H e Q q =>
  h.seq e fun x dv ρ1 o1 G1 H1 ⟨ps, hl, r1⟩ s1 e1 ok1 fr1 => r1.seq e1 fun y b ρ2 o2 G2 H2 ⟨kp, k, d, hb, hv, r⟩ s2 e2 ok2 fr2 => by
    subst hb
    obtain ⟨a, kvs, rfl, rd, kv⟩ := IsDc.at (ρ := ρ2) hl e2 (ok1.step s2 kp)
    rcases kv.val k with ⟨_, z⟩ | ⟨v, d', z1, z2, rv⟩
    · rw [z] at hv; cases hv
    · rw [z2] at hv
      cases hv
      refine ⟨a, v, rfl, ?_, q _ _ _ _ _ _ r (s1.trans s2) e2 rv trivial⟩
      rw [← z1, vok_key ok2]
      exact .inl ⟨kvs, k, rd, rfl, rfl⟩
theorem KvR.some {K : PySem.W.Frag} {kvs : List (Key × V)} {ps : DKv} (h : KvR K G kvs ps) (k : Key) : (valV kvs k).isSome = (valD ps k).isSome := by
  rcases h.val k with ⟨z1, z2⟩ | ⟨v, d, z1, z2, _⟩ <;> rw [z1, z2] <;> rfl
theorem xe_ddnotin (h : DL.XE K ta ρ o fun b ρ1 o1 => ∃ k, b = .d (kD k) ∧ DL.XE K td ρ1 o1 fun dv ρ2 o2 => ∃ ps, IsDc ρ2 dv ps ∧ R (.d (.bool (!(valD ps k).isSome))) ρ2 o2) : DL.XE K (tDNotIn ta td) ρ o R := fun G σ H e Q q =>
  h.seq e fun x b ρ1 o1 G1 H1 ⟨k, hb, r1⟩ s1 e1 ok1 fr1 => r1.seq e1 fun y dv ρ2 o2 G2 H2 ⟨ps, hl, r⟩ s2 e2 ok2 fr2 => by
    subst hb
    obtain ⟨a, kvs, rfl, rd, kv⟩ := hl.at e2 ok2
    refine ⟨a, valV kvs k, rfl, by rw [vok_key ok1]; exact .inl ⟨kvs, k, rd, rfl, rfl⟩, ?_⟩
    rw [kv.some k]
    exact q _ _ _ _ _ _ r (s1.trans s2) e2 (.bl _) trivial
/-- d.get(k, x) -/
theorem xe_ddget2 (h : DL.XE K td ρ o fun dv ρ1 o1 => ∃ ps, IsDc ρ1 dv ps ∧ DL.XE K ta ρ1 o1 fun b ρ2 o2 => ∃ k, b = .d (kD k) ∧ DL.XE K tx ρ2 o2 fun c ρ3 o3 => Kept ρ2 dv ∧ Kept ρ3 dv ∧ ∃ d, c = .d d ∧ R (.d ((valD ps k).getD d)) ρ3 o3) : DL.XE K (tDGet2 td ta tx) ρ o R := fun G σ H e Q q =>
  h.seq e fun x dv ρ1 o1 G1 H1 ⟨ps, hl, r1⟩ s1 e1 ok1 fr1 => by
    obtain ⟨a, kvs, rfl, rd, _⟩ := hl.at e1 ok1
    refine ⟨a, rfl, .inl ⟨kvs, rd⟩, r1.seq e1 fun y b ρ2 o2 G2 H2 ⟨k, hb, r2⟩ s2 e2 ok2 fr2 => r2.seq e2 fun z c ρ3 o3 G3 H3 ⟨kp2, kp, d, hc, r⟩ s3 e3 ok3 fr3 => ?_⟩
    subst hb hc
    obtain ⟨a', kvs', ha, rd', kv⟩ := IsDc.at (ρ := ρ3) hl e3 ((ok1.step s2 kp2).step s3 kp)
    cases ha
    refine ⟨valV kvs' k, by rw [vok_key ok2]; exact .inl ⟨kvs', k, rd', rfl, rfl⟩, ?_⟩
    rcases kv.val k with ⟨z1, z2⟩ | ⟨v, d', z1, z2, rv⟩
    · rw [z2] at r
      rw [z1]
      exact q _ _ _ _ _ _ r ((s1.trans s2).trans s3) e3 ok3 trivial
    · rw [z2] at r
      rw [z1]
      exact q _ _ _ _ _ _ r ((s1.trans s2).trans s3) e3 rv trivial
end
/-! ### len, dict, sorted, list of a dict -/
def rLenDc : List V → Hp → VK → Prop := fun xs H Q => ∃ a kvs, xs = [V.ref a] ∧ Rd H a (.dK kvs) ∧ Q (.int kvs.length) H
theorem call_lenDc {X : Cx} : CallR X (.builtin "len") rLenDc := fun pins s σ H xs us Q I r h => by
  obtain ⟨a, kvs, rfl, ha, q⟩ := h
  obtain ⟨u, rfl, ru⟩ := vals1 r
  cases ru
  exact d_len I ha fun t s' I' => ⟨.int kvs.length, H, I', ⟨t, rfl⟩, q⟩
def rDictDc : List V → Hp → VK → Prop := fun xs H Q => ∃ (a : Addr) (kvs : List (Key × V)), xs = [.ref a] ∧ Rd H a (.dK kvs) ∧ ∀ p, H p = none → Q (.ref p) (upd H p (.dK kvs))
theorem call_dictDc {X : Cx} : CallR X (.type "dict") rDictDc := call_dictD
def rSortDc : List V → Hp → VK → Prop := fun xs H Q => ∃ (a : Addr) (kvs : List (Key × V)) (ks : List Str), xs = [.ref a] ∧ Rd H a (.dK kvs) ∧ kvs.map (·.1) = ks.map Sum.inr ∧ ks.length < 64 ∧ ∀ ys p, ys.Perm ks → sortedS ys = true → H p = none → Q (.ref p) (upd H p (.lst (ys.map V.str)))
theorem call_sortDc {X : Cx} (hc : X.calm = true) : CallR X (.builtin "sorted") rSortDc := call_sortedD hc
section
variable {K : Kx} {ρ ρ' : List Sl} {o o' : Ob} {R : RD} {N B C' : RE} {te ta td tv tx : TE} {T : TA} {i : Nat} {p : Addr} {dv : DV} {ps : DKv}
theorem xc_lenDc (l : IsDc ρ dv ps) (r : R (.d (.int ps.length)) ρ o) : XC K rLenDc [dv] ρ o R := fun G σ H vs e h0 Q q => by
  obtain ⟨v, rfl, h1⟩ := va1 h0
  obtain ⟨a, kvs, rfl, rd, kv⟩ := l.at e h1
  refine ⟨a, kvs, rfl, rd, ?_⟩
  rw [kv.len]
  exact xq_now q e r (.int _)
theorem xc_dictDc (l : IsDc ρ dv ps) (r : R (.new (.dic ps)) ρ o) : XC K rDictDc [dv] ρ o R := fun G σ H vs e h0 Q q => by
  obtain ⟨v, rfl, h1⟩ := va1 h0
  obtain ⟨a, kvs, rfl, rd, kv⟩ := l.at e h1
  refine ⟨a, kvs, rfl, rd, fun x hx => ?_⟩
  exact q (.ref x) (.new (.dic ps)) ρ o G _ r (Stp.newO hx) (e.newO hx) ⟨x, _, rfl, e.wd.gnone hx, upd_same, kv, nofp e hx, noown e hx⟩ fun y hy => by cases hy; exact .inl hx
theorem xc_sortDc {ks : List Str} (l : IsDc ρ dv ps) (hk : ps.map Prod.fst = ks.map Sum.inr) (h64 : ks.length < 64) (r : ∀ ys : List Str, ys.Perm ks → sortedS ys = true → R (.new (.lst (ys.map .str))) ρ o) : XC K rSortDc [dv] ρ o R := fun G σ H vs e h0 Q q => by
  obtain ⟨v, rfl, h1⟩ := va1 h0
  obtain ⟨a, kvs, rfl, rd, kv⟩ := l.at e h1
  refine ⟨a, kvs, ks, rfl, rd, kv.split.1.trans hk, h64, fun ys x hp hs hx => ?_⟩
  exact q (.ref x) (.new (.lst (ys.map .str))) ρ o G _ (r ys hp hs) (Stp.newO hx) (e.newO hx) ⟨x, _, rfl, e.wd.gnone hx, upd_same, RpAll.strs, nofp e hx, noown e hx⟩ fun y hy => by cases hy; exact .inl hx
/-- a dict of a name gets a key -/
theorem xs_dputS (h : DL.XE K tv ρ o (HandR fun dw ρ0 o0 => DL.XE K td ρ0 o0 fun dv ρ1 o1 => ∃ i ps, dv = .sl i (.dic ps) ∧ DL.XE K ta ρ1 o1 fun b ρ2 o2 => ∃ k d, b = .d (kD k) ∧ dw = .d d ∧ ρ2[i]? = some (.own (.dic ps)) ∧ ps.length < sizeLine ∧ N (ρ2.set i (.own (.dic (putD ps k d)))) o2)) :
    XS K (sDPut td ta tv) ρ o N R B C' := fun G σ H e D qn qr qb qc =>
  h.seq e fun w dw ρ0 o0 G0 H0 r0 s0 e0 ok0 fr0 => by
    have r0 : DL.XE K td ρ0 o0 fun dv ρ1 o1 => ∃ i ps, dv = .sl i (.dic ps) ∧ DL.XE K ta ρ1 o1 fun b ρ2 o2 => ∃ k d, b = .d (kD k) ∧ dw = .d d ∧ ρ2[i]? = some (.own (.dic ps)) ∧ ps.length < sizeLine ∧ N (ρ2.set i (.own (.dic (putD ps k d)))) o2 := by
      cases dw with
      | d x => exact r0
      | raw x => exact r0
      | sl _ _ => exact False.elim r0
      | new _ => exact False.elim r0
    refine r0.seq e0 fun x dv ρ1 o1 G1 H1 ⟨i, ps, hd, r1⟩ s1 e1 ok1 fr1 => r1.seq e1 fun y b ρ2 o2 G2 H2 ⟨k, d, hb, hw, hi, hl, n⟩ s2 e2 ok2 fr2 => ?_
    subst hd hb hw
    have okw : Rp K G2 w d := Rp.sub (s1.g.trans s2.g) ok0
    obtain ⟨a, kvs, rfl, rd, kv⟩ := IsDc.at (ρ := ρ2) (dv := .sl i (.dic ps)) (show IsDc ρ2 (.sl i (.dic ps)) ps from rfl) e2 (ok1.step s2 hi)
    obtain ⟨a', y', h1, h2, h3, ok, _⟩ := e2.own_at hi
    have hs : σ[i]? = some (some (.ref a)) := ok1.1
    have : a' = a := by rw [hs] at h1; cases h1; rfl
    subst this
    obtain ⟨kvs2, rfl, kv2⟩ := dic_rep ok
    obtain ⟨en, st⟩ := e2.mut (c' := .dic (putD ps k d)) (y := .dK (putK kvs2 k w)) hi hs (kv2.put k okw)
    refine ⟨a', _, rfl, ?_, qn _ _ _ _ _ n (((s0.trans s1).trans s2).trans st) en⟩
    rw [vok_key ok2]
    exact DPut.k h3 (by rw [kv2.len]; exact hl)
/-- for over the keys of a frozen dict -/
theorem xs_forDD {g : TG} {tb : TS} (h : DL.XE K td ρ o fun dv ρ1 o1 => ∃ ps, dv = .d (dicD ps) ∧ ∃ I : Nat → RE, I 0 ρ1 o1 ∧
      (∀ k key d ρ' o', ps[k]? = some (key, d) → I k ρ' o' → XG K g (.d (kD key)) ρ' o' fun ρ2 o2 => XS K tb ρ2 o2 (I (k + 1)) R N (I (k + 1))) ∧ ∀ ρ' o', I ps.length ρ' o' → N ρ' o') : XS K (tFor (iKeys td) g tb) ρ o N R B C' := fun G σ H e D qn qr qb qc =>
  h.seq e fun v dv ρ1 o1 G1 H1 ⟨ps, hd, I, i0, it, ie⟩ s1 e1 ok fr => by
    subst hd
    obtain ⟨a, od, kvs, rfl, hg, kv⟩ := rp_dic ok
    refine ⟨a, od, rfl, .inl ⟨kvs, e1.wd.sub _ _ hg, ?_⟩⟩
    refine L2.for_it L2.walk_keys (fun k σ' H' => ∃ ρ' o' G', I k ρ' o' ∧ Stp ρ σ o G H ρ' σ' o' G' H' ∧ En K o' ρ' G' σ' H' ∧ Sub G1 G') ⟨ρ1, o1, G1, i0, s1, e1, Sub.refl⟩ (fun k σ' H' _ ⟨ρ', o', G', _, _, e', sb⟩ => e'.wd.sub _ _ (sb _ _ hg)) (fun k x σ' H' H'' hk ⟨ρ', o', G', ik, s', e', sb⟩ y => ?_) (fun σ' H' ⟨ρ', o', G', ik, s', e', sb⟩ => ?_)
    · obtain ⟨rfl, key, v, hq, rfl⟩ := y
      have hk2 : (kvs.map Prod.fst)[k]? = some key := by rw [List.getElem?_map, hq]; rfl
      rw [kv.split.1, List.getElem?_map] at hk2
      obtain ⟨⟨key', d⟩, hp, hpk⟩ := Option.map_eq_some_iff.mp hk2
      have hpk : key' = key := hpk
      subst hpk
      refine it k key' d ρ' o' hp ik G' σ' _ _ e' (by cases key' <;> constructor) _ fun ρ2 o2 G2 σ2 H2 r s2 e2 => ?_
      have s12 := s'.trans s2
      exact r G2 σ2 H2 e2 _ (fun _ _ _ _ _ n s e => ⟨_, _, _, n, s12.trans s, e, sb.trans (s2.g.trans s.g)⟩) (fun _ _ _ _ _ _ _ n s e ok fr => qr _ _ _ _ _ _ _ n (s12.trans s) e ok (fr.back s12))
        (fun _ _ _ _ _ n s e => qn _ _ _ _ _ n (s12.trans s) e) (fun _ _ _ _ _ n s e => ⟨_, _, _, n, s12.trans s, e, sb.trans (s2.g.trans s.g)⟩)
    · rw [kv.len] at ik
      exact qn _ _ _ _ _ (ie _ _ ik) s' e'
end
theorem ki_dic_bool {ps : DKv} : kitB (tyN (dicD ps)) "bool" = some false := by show kitB "dict" "bool" = _; decide +kernel
theorem ki_dic_int {ps : DKv} : kitB (tyN (dicD ps)) "int" = some false := by show kitB "dict" "int" = _; decide +kernel
theorem ki_dic_str {ps : DKv} : kitB (tyN (dicD ps)) "str" = some false := by show kitB "dict" "str" = _; decide +kernel
theorem ki_dic_tuple {ps : DKv} : kitB (tyN (dicD ps)) "tuple" = some false := by show kitB "dict" "tuple" = _; decide +kernel
theorem ki_dic_list {ps : DKv} : kitB (tyN (dicD ps)) "list" = some false := by show kitB "dict" "list" = _; decide +kernel
theorem ki_dic_dict {ps : DKv} : kitB (tyN (dicD ps)) "dict" = some true := by show kitB "dict" "dict" = _; decide +kernel
theorem ki_key_bool (k : Key) : kitB (tyN (kD k)) "bool" = some false := by
  cases k
  · show kitB "int" "bool" = _; decide +kernel
  · show kitB "str" "bool" = _; decide +kernel
theorem valD_nth {ps : DKv} {k : Nat} {key : Key} {d : PyData} (nd : (ps.map Prod.fst).Nodup) (h : ps[k]? = some (key, d)) : valD ps key = some d := by
  induction ps generalizing k with
  | nil => cases h
  | cons p r ih =>
    rw [List.map_cons, List.nodup_cons] at nd
    cases k with
    | zero =>
      have : p = (key, d) := by simpa using h
      subst this
      simp [valD, List.find?_cons]
    | succ k =>
      have h : r[k]? = some (key, d) := by simpa using h
      have ne : p.1 ≠ key := fun z => nd.1 (by rw [z]; exact List.mem_map.mpr ⟨_, List.mem_of_getElem? h, rfl⟩)
      have := ih nd.2 h
      unfold valD at this ⊢
      rw [List.find?_cons, show decide (p.1 = key) = false from decide_eq_false ne]
      exact this
/-- what a nested comparison may be asked -/
def S__law_sub (n : Nat) (K : PySem.W.Frag) : DS := match n with
  | 0 => S_never K
  | m + 1 => S__law_same m K
end DL

set_option Elab.async false
set_option linter.all false
set_option maxRecDepth 100000
namespace DL
open PySem PySem.Spec PyProof.Rows L2
/-! ### try with several clauses, each with a name or without -/
structure Clz where
  c : Value
  i : Option Nat
  ts : Addr → Value → Option Addr → TS
/-- what stands behind a suite whose name is taken away -/
def endsAt (i : Nat) (D : Ends) : Ends := { nx := fun σ' H' => D.nx (σ'.set i none) H', rt := D.rt, bk := fun σ' H' => D.bk (σ'.set i none) H', ct := fun σ' H' => D.ct (σ'.set i none) H' }
def runClz (k : Clz) (a : Addr) (cls : Value) (d : Option Addr) (D : Ends) (σ : L2.St) (H : Hp) : Prop := match k.i with
  | none => k.ts a cls d D σ H
  | some i => k.ts a cls d (endsAt i D) (σ.set i (some (.ref a))) H
def wClz (K : PySem.W.Frag) (Wout : WX) (D : Ends) : List Clz → WX
  | [] => Wout
  | k :: r => fun cls d σ H => ∃ b, PySem.W.exmOne K cls k.c = some b ∧ (b = true → ∀ a, H a = none → runClz k a cls d D σ H) ∧ (b = false → wClz K Wout D r cls d σ H)
inductive HdOk (X : Cx) : List ExceptHandler → List Clz → Prop
  | nil : HdOk X [] []
  | only {x : Str} {c : Value} {ts : Addr → Value → Option Addr → TS} {b₀ : Stmt} {suite : List Stmt} {np pos' : Pos} {hds : List ExceptHandler} {l : List Clz} (hc : Names X x c)
      (hsu : ∀ (a : Addr) (oe : Obj) (cls : Value) (d : Option Addr) (pn : List (Addr × Obj)), Zc cls d oe → (∃ vs, oe.data = .fields vs) → PSs (X.suite a ((a, oe) :: pn)) (b₀ :: suite) (ts a cls d)) (r : HdOk X hds l) :
      HdOk X (.ExceptHandler (some (.Name x np)) none (b₀ :: suite) pos' :: hds) (⟨c, none, ts⟩ :: l)
  | as {x n : Str} {c : Value} {i : Nat} {ts : Addr → Value → Option Addr → TS} {b₀ : Stmt} {suite : List Stmt} {np pos' : Pos} {hds : List ExceptHandler} {l : List Clz} (hi : X.N[i]? = some n) (hln : X.env.kindOf n = some .local) (hc : Names X x c)
      (hsu : ∀ (a : Addr) (oe : Obj) (cls : Value) (d : Option Addr) (pn : List (Addr × Obj)), Zc cls d oe → (∃ vs, oe.data = .fields vs) → PSs (X.suite a ((a, oe) :: pn)) (b₀ :: suite) (ts a cls d)) (r : HdOk X hds l) :
      HdOk X (.ExceptHandler (some (.Name x np)) (some n) (b₀ :: suite) pos' :: hds) (⟨c, some i, ts⟩ :: l)
def tTryClz (K : PySem.W.Frag) (l : List Clz) (tb : WX → TS) (Wout : WX) : TS := fun D σ H => tb (wClz K Wout D l) D σ H
section
variable {X : Cx} {K : PySem.W.Frag} {body : List Stmt} {h₀ : ExceptHandler} {hds : List ExceptHandler} {l : List Clz} {pos : Pos} {tb : WX → TS} {Wout : WX}
theorem ps_tryClz (hK : X.K = K) (hs : X.stack = X.env :: X.outer) (hf : X.env.frame = some X.env.locals) (hN : X.N.Nodup) (tk : Takes X Wout)
    (hb : ∀ (W : WX) (pn : List (Addr × Obj)) (xe : Value → Shared → Prop), Takes (X.tr pn xe) W → PassesOwn (model X.prog X.w) X.A X.env xe → PSs (X.tr pn xe) body (tb W))
    (hh : HdOk X (h₀ :: hds) l) : PS X (.Try body (h₀ :: hds) [] [] pos) (tTryClz K l tb Wout) := by
  subst hK
  refine ⟨fun pins s σ H D I h => ?_⟩
  have ok := I.ok
  have hfr : X.A.frames = some (X.env :: X.outer) := by rw [ok.frames, hs]
  refine wpAny_Try_except ?_
  let XE0 : Value → Shared → Prop := fun e s₁ => wpAny (model X.prog X.w) X.A (noteFrame e X.env) (fun _ s₂ => wpAny (model X.prog X.w) X.A (setFlight e none) (fun _ s₃ => wpAny (model X.prog X.w) X.A (handleBy e X.env (h₀ :: hds)) (SP X pins D) X.xe s₃) X.xe s₂) X.xe s₁
  have hb0 := hb (wClz X.K Wout D l) (X.pn ++ pins) XE0
  refine wpAny_mono ((hb0 (fun u s' xx => ?_) PassesOwn.looking).run [] s σ H D (I.toTry _) h) (fun f s1 hsp => ?_) (fun e s1 he => he)
  · obtain ⟨a, B, sI, pins', σ', H', cls, d, rfl, J', nb, up, sky, na, os, ag, w⟩ := xx
    have J : Inv X pins σ' H' sI := J'.ofTry ok
    have sky' : Sky B (X.env :: X.outer) a (Zc cls d) X.env.locals s'.heap := by rw [← hs]; exact sky
    show wpAny (model X.prog X.w) X.A (noteFrame (.ref a) X.env) _ _ _
    refine Sky.land Zc.steady hfr hf sky' fun h3 fl3 up3 => ?_
    have J3 : Inv X pins σ' H' { s' with heap := h3 } := J.landed nb fl3.1 (up.trans up3) os ag
    obtain ⟨oe3, vs3, he3, hz3, hd3⟩ := fl3.there
    have nfr : a ∉ frs (X.env :: X.outer) := fun hm => by
      obtain ⟨_, o', e', hnf⟩ := fl3.2.2.1.mem hm
      rw [he3] at e'
      cases e'
      exact hnf _ hd3
    have nL : a ≠ X.env.locals := fun z => nfr (List.mem_filterMap.mpr ⟨X.env, List.mem_cons_self, by rw [hf, z]⟩)
    have nF : a ∉ X.fs := fun hm => by
      obtain ⟨e, he, q⟩ := List.mem_filterMap.mp hm
      exact nfr (List.mem_filterMap.mpr ⟨e, List.mem_cons_of_mem _ he, q⟩)
    have S3 := J3.suite he3 hd3 na nL nF
    have nm : ∀ {x : Str} {c : Value} {np : Pos} {Q : Value → Shared → Prop} {E : Value → Shared → Prop}, Names X x c → Q c { s' with heap := h3 } → wpAny (model X.prog X.w) (X.A.mark (some (.ref a))) (eval (.Name x np) X.env) Q E { s' with heap := h3 } := fun {x c np Q E} hc q => by
      obtain ⟨hg, hdbg, hm | ⟨hm, hv, hnn⟩⟩ := hc
      · exact ld_glob (X := X.suite a ((a, oe3) :: (X.pn ++ pins))) S3 hg hm q hdbg
      · exact ld_blt (X := X.suite a ((a, oe3) :: (X.pn ++ pins))) S3 hg hm hv q hnn hdbg
    have LT : PySem.W.Looks (model X.prog X.w) h3 (typeOf (.ref a)) cls := fun A Q E s k q => wpAny_typeOf_ref (k _ _ he3) (by rw [hz3.1]; exact q)
    have go : ∀ {hds' : List ExceptHandler} {l' : List Clz}, HdOk X hds' l' → wClz X.K Wout D l' cls d σ' H' → wpAny (model X.prog X.w) X.A (handleBy (.ref a) X.env hds') (SP X pins D) X.xe { s' with heap := h3 } := by
      intro hds' l' hk
      induction hk with
      | nil =>
        intro w
        refine wpAny_handleBy_nil ?_
        obtain ⟨k1, k2, k3, oe, vs, T, oT, ts', he, hz, hd, h1, hr⟩ := id fl3
        unfold PySem.passOn
        refine wpAny_bind (wpAny_field he hd h1 ?_)
        rw [if_neg (show ¬ ((Value.ref T == Value.none) = true) from by simp)]
        have fin : wpAny (model X.prog X.w) X.A (setFlight (.ref a) X.env.frame) (fun _ s4 => wpAny (model X.prog X.w) X.A (throw (.ref a) : Sem Flow) (SP X pins D) X.xe s4) X.xe { s' with heap := h3 } := by
          rw [hf]
          refine HandSPX.setFlight_upZ fl3 fun h4 hh4 up4 => wpAny_throw (tk _ _ ?_)
          exact ⟨a, B, sI, pins, σ', H', cls, d, rfl, J, nb, (up.trans up3).trans up4, .inr (.inr (by rw [hs]; exact hh4)), na, os, ag, w⟩
        first
          | exact wpAny_bind (wpAny_pure (wpAny_bind fin))
          | exact wpAny_bind fin
      | only hc hsu r ih =>
        rename_i x c ts b₀ suite np pos' hds2 l2
        intro w
        obtain ⟨b, hb1, hyes, hno⟩ := w
        refine wpAny_handleBy_cons (codeAny_handlers_test ?_) (by intro q; cases q)
        have LM := PySem.W.exm_one (M := model X.prog X.w) (J3.kIn) LT hb1
        refine nm hc (LM.here ?_)
        cases b with
        | true =>
          refine codeAny_handlers_suite ?_
          refine HandSPX.lands_againZ fl3 fun h4 fl4 up4 => ?_
          have J4 : Inv X pins σ' H' { s' with heap := h4 } := J.landed nb fl4.1 ((up.trans up3).trans up4) os ag
          obtain ⟨oe4, vs4, he4, hz4, hd4⟩ := fl4.there
          have S4 := J4.suite he4 hd4 na nL nF
          have hy : ts a cls d D σ' H' := hyes rfl a na
          refine wpAny_mono ((hsu a oe4 cls d (X.pn ++ pins) hz4 ⟨_, hd4⟩).run [] _ _ H' _ S4 hy) (fun f s6 hsp => ?_) (fun _ _ z => False.elim z)
          cases f with
          | next => obtain ⟨σ6, H6, S6, q6⟩ := hsp; exact ⟨_, _, S6.unsuite ok, q6⟩
          | brk => obtain ⟨σ6, H6, S6, q6⟩ := hsp; exact ⟨_, _, S6.unsuite ok, q6⟩
          | cont => obtain ⟨σ6, H6, S6, q6⟩ := hsp; exact ⟨_, _, S6.unsuite ok, q6⟩
          | ret u => obtain ⟨v6, σ6, H6, S6, r6, q6⟩ := hsp; exact ⟨_, _, _, S6.unsuite ok, r6, q6⟩
        | false =>
          show wpAny _ X.A (handleBy (.ref a) X.env hds2) _ _ _
          exact ih (hno rfl)
      | as hi hln hc hsu r ih =>
        rename_i x n c i ts b₀ suite np pos' hds2 l2
        intro w
        obtain ⟨b, hb1, hyes, hno⟩ := w
        refine wpAny_handleBy_cons (codeAny_handlers_test ?_) (by intro q; cases q)
        have LM := PySem.W.exm_one (M := model X.prog X.w) (J3.kIn) LT hb1
        refine nm hc (LM.here ?_)
        cases b with
        | true =>
          refine codeAny_handlers_suite_as ?_
          refine HandSPX.lands_againZ fl3 fun h4 fl4 up4 => ?_
          have J4 : Inv X pins σ' H' { s' with heap := h4 } := J.landed nb fl4.1 ((up.trans up3).trans up4) os ag
          obtain ⟨oe4, vs4, he4, hz4, hd4⟩ := fl4.there
          have S4 := J4.suite he4 hd4 na nL nF
          refine store_ok (X := X.suite a ((a, oe4) :: (X.pn ++ pins))) (v := .ref a) S4 hN hi (.inl hln) rfl (fun s5 S5 => ?_) (.inr hln)
          have hy : ts a cls d (endsAt i D) (σ'.set i (some (.ref a))) H' := hyes rfl a na
          refine wpAny_mono ((hsu a oe4 cls d (X.pn ++ pins) hz4 ⟨_, hd4⟩).run [] s5 _ H' _ S5 hy) (fun f s6 hsp => ?_) (fun _ _ z => False.elim z)
          have fin : ∀ {σ6 : L2.St} {H6 : Hp} {Q : Shared → Prop}, Inv (X.suite a ((a, oe4) :: (X.pn ++ pins))) [] σ6 H6 s6 → (∀ s7, Inv X pins (σ6.set i none) H6 s7 → Q s7) → wpAny (model X.prog X.w) X.A (do bindName X.env n .none; unbindBehindTheSuite X.env n pos') (fun _ s7 => Q s7) X.xe s6 := fun {σ6 H6 Q} S6 hq => gone_ok (S6.unsuite ok) hN hi hln hq
          cases f with
          | next => obtain ⟨σ6, H6, S6, q6⟩ := hsp; exact fin S6 fun s7 J7 => ⟨_, _, J7, q6⟩
          | brk => obtain ⟨σ6, H6, S6, q6⟩ := hsp; exact fin S6 fun s7 J7 => ⟨_, _, J7, q6⟩
          | cont => obtain ⟨σ6, H6, S6, q6⟩ := hsp; exact fin S6 fun s7 J7 => ⟨_, _, J7, q6⟩
          | ret u => obtain ⟨v6, σ6, H6, S6, r6, q6⟩ := hsp; exact fin S6 fun s7 J7 => ⟨_, _, _, J7, r6, q6⟩
        | false =>
          show wpAny _ X.A (handleBy (.ref a) X.env hds2) _ _ _
          exact ih (hno rfl)
    exact go hh w
  · cases f with
    | next =>
      obtain ⟨σ', H', J', q⟩ := hsp
      exact wpAny_execs_nil ⟨σ', H', J'.ofTry ok, q⟩
    | brk => obtain ⟨σ', H', J', q⟩ := hsp; exact ⟨σ', H', J'.ofTry ok, q⟩
    | cont => obtain ⟨σ', H', J', q⟩ := hsp; exact ⟨σ', H', J'.ofTry ok, q⟩
    | ret u => obtain ⟨v, σ', H', J', r, q⟩ := hsp; exact ⟨v, σ', H', J'.ofTry ok, r, q⟩
end
section
variable {K : Kx} {ρ : List Sl} {o : Ob} {R : RD} {N B C : RE} {tb : WX → TS}
/-- the answer to an exception: the clause that takes it -/
inductive ClzOk (K : Kx) (N : RE) (R : RD) (B C : RE) (cls : Value) (fs : Option (List (Str × PyData))) (ρ : List Sl) (o : Ob) : List Clz → Prop
  | no (h : K.Z (cls, fs) ρ o) : ClzOk K N R B C cls fs ρ o []
  | skip {k : Clz} {r : List Clz} (hb : PySem.W.exmOne K.K cls k.c = some false) (h : ClzOk K N R B C cls fs ρ o r) : ClzOk K N R B C cls fs ρ o (k :: r)
  | take {c : Value} {ts : Addr → Value → Option Addr → TS} {r : List Clz} (hb : PySem.W.exmOne K.K cls c = some true) (h : ∀ a d, (d = none ↔ fs = none) → XS K (ts a cls d) ρ o N R B C) : ClzOk K N R B C cls fs ρ o (⟨c, none, ts⟩ :: r)
  | takeAs {c : Value} {i : Nat} {ts : Addr → Value → Option Addr → TS} {r : List Clz} (hb : PySem.W.exmOne K.K cls c = some true) (hl : Nat.blt i ρ.length = true)
      (h : ∀ a d, (d = none ↔ fs = none) → XS K (ts a cls d) (ρ.set i (.raw (.ref a))) o (fun ρ2 o2 => Nat.blt i ρ2.length = true ∧ N (ρ2.set i .no) o2) R (fun ρ2 o2 => Nat.blt i ρ2.length = true ∧ B (ρ2.set i .no) o2) (fun ρ2 o2 => Nat.blt i ρ2.length = true ∧ C (ρ2.set i .no) o2)) : ClzOk K N R B C cls fs ρ o (⟨c, some i, ts⟩ :: r)
theorem xs_tryClz {l : List Clz} (Z : Ex → RE) (hb : ∀ W : WX, XS ⟨K.K, W, Z⟩ (tb W) ρ o N R B C) (hs : ∀ cls fs ρ' o', Z (cls, fs) ρ' o' → ClzOk K N R B C cls fs ρ' o' l) : XS K (tTryClz K.K l tb K.W) ρ o N R B C := fun G σ H e D qn qr qb qc => by
  have wo : WOk ⟨K.K, wClz K.K K.W D l, Z⟩ o ρ G σ H := fun cls fs d ρ' o' G' σ' H' z s e' ek => by
    have dn : d = none ↔ fs = none := by cases d <;> cases fs <;> simp_all [EOk]
    have e' : EnB K.K o' ρ' G' σ' H' := e'
    have ek : EOk K.K G' H' d fs := ek
    have main : ∀ {l' : List Clz}, ClzOk K N R B C cls fs ρ' o' l' → wClz K.K K.W D l' cls d σ' H' := fun ck => by
     induction ck with
     | no h => exact e.wo cls fs d ρ' o' G' σ' H' h s e' ek
     | skip hb h ih => exact ⟨false, hb, fun z => (nomatch z), fun _ => ih⟩
     | take hb h => exact ⟨true, hb, fun _ a _ => h a d dn G' σ' H' ⟨e', e.wo.step s⟩ D (fun _ _ _ _ _ n s2 e2 => qn _ _ _ _ _ n (s.trans s2) e2) (fun _ _ _ _ _ _ _ n s2 e2 ok fr => qr _ _ _ _ _ _ _ n (s.trans s2) e2 ok (fr.back s)) (fun _ _ _ _ _ n s2 e2 => qb _ _ _ _ _ n (s.trans s2) e2) (fun _ _ _ _ _ n s2 e2 => qc _ _ _ _ _ n (s.trans s2) e2), fun z => (nomatch z)⟩
     | @takeAs c i ts r hb hl h =>
       refine ⟨true, hb, fun _ a _ => ?_, fun z => (nomatch z)⟩
       obtain ⟨e3, s3⟩ := En.store (K := K) ⟨e', e.wo.step s⟩ (lt_of_blt hl) (v := .ref a) (s := .raw (.ref a)) rfl (fun c z => nomatch z)
       have s03 := s.trans s3
       exact h a d dn G' _ H' e3 (endsAt i D) (fun _ _ _ _ _ ⟨hl, n⟩ s2 e2 => qn _ _ _ _ _ n ((s03.trans s2).trans (e2.unset (lt_of_blt hl)).2) (e2.unset (lt_of_blt hl)).1) (fun _ _ _ _ _ _ _ n s2 e2 ok fr => qr _ _ _ _ _ _ _ n (s03.trans s2) e2 ok (fr.back s03))
         (fun _ _ _ _ _ ⟨hl, n⟩ s2 e2 => qb _ _ _ _ _ n ((s03.trans s2).trans (e2.unset (lt_of_blt hl)).2) (e2.unset (lt_of_blt hl)).1) (fun _ _ _ _ _ ⟨hl, n⟩ s2 e2 => qc _ _ _ _ _ n ((s03.trans s2).trans (e2.unset (lt_of_blt hl)).2) (e2.unset (lt_of_blt hl)).1)
    exact main (hs cls fs ρ' o' z)
  have up : ∀ {ρ' o' G' σ' H'}, Stp ρ σ o G H ρ' σ' o' G' H' → En ⟨K.K, wClz K.K K.W D l, Z⟩ o' ρ' G' σ' H' → En K o' ρ' G' σ' H' := fun s e' => ⟨e'.toEnB, e.wo.step s⟩
  exact hb _ G σ H ⟨e.toEnB, wo⟩ D (fun _ _ _ _ _ n s e => qn _ _ _ _ _ n s (up s e)) (fun _ _ _ _ _ _ _ n s e ok fr => qr _ _ _ _ _ _ _ n s (up s e) ok fr) (fun _ _ _ _ _ n s e => qb _ _ _ _ _ n s (up s e)) (fun _ _ _ _ _ n s e => qc _ _ _ _ _ n s (up s e))
end
end DL

set_option Elab.async false
set_option linter.all false
set_option maxRecDepth 100000
namespace DL
open PySem PySem.Spec PyProof.Rows L2
/-! ### cells wherever they stand -/
/-- the object p is y, whatever else there is -/
def At (o : Ob) (p : Addr) (y : HO) : Prop := ∀ G H, o.ok G H → H p = some y
/-- what is known -/
def Knows (o : Ob) (φ : Hp → Prop) : Prop := ∀ G H, o.ok G H → φ G
theorem at_cell {cs : List Cell} {φ : Hp → Prop} {p : Addr} {y : HO} (h : (p, y) ∈ cs) : At (cOb cs φ) p y := fun G H ok => ok.1 _ h
theorem At.l {A F : Ob} {p : Addr} {y : HO} (h : At A p y) : At (A.and F) p y := fun G H ok => h G H ok.1
theorem At.r {A F : Ob} {p : Addr} {y : HO} (h : At F p y) : At (A.and F) p y := fun G H ok => h G H ok.2.1
theorem kw_cell {cs : List Cell} {φ : Hp → Prop} : Knows (cOb cs φ) φ := fun G H ok => ok.2.2.2.2
theorem Knows.l {A F : Ob} {φ : Hp → Prop} (h : Knows A φ) : Knows (A.and F) φ := fun G H ok => h G H ok.1
theorem Knows.r {A F : Ob} {φ : Hp → Prop} (h : Knows F φ) : Knows (A.and F) φ := fun G H ok => h G H ok.2.1
theorem Knows.mono {o : Ob} {φ ψ : Hp → Prop} (h : Knows o φ) (k : ∀ G, φ G → ψ G) : Knows o ψ := fun G H ok => k G (h G H ok)
theorem Knows.any {o : Ob} {φ : Hp → Prop} (k : ∀ G, φ G) : Knows o φ := fun G _ _ => k G
/-- the cell p is written -/
structure PutO (o : Ob) (p : Addr) (y : HO) (ex : Hp → Prop) (o' : Ob) : Prop where
  fp : o.fp p
  nt : NT y
  sub : ∀ a, o'.fp a → o.fp a
  ok : ∀ G H, o.ok G H → ex G → o'.ok G (upd H p y)
theorem CPut.o {cs cs' : List Cell} {φ φ' ex : Hp → Prop} {p : Addr} {y y0 : HO} (hm : (p, y0) ∈ cs) (c : CPut cs φ p y ex cs' φ') (inh : ∀ a, a ∈ cs'.map Prod.fst → a ∈ cs.map Prod.fst) : PutO (cOb cs φ) p y ex (cOb cs' φ') := by
  refine ⟨List.mem_map.mpr ⟨_, hm, rfl⟩, c.nt, inh, fun G H ⟨k1, k2, k3, k4, k5⟩ hex => ?_⟩
  have nd := c.nd _ k5 k2
  refine ⟨fun q hq => ?_, nd, fun q hq => ?_, c.mn k4, c.ph _ k5 hex⟩
  · by_cases h : q.1 = p
    · have := nodup_fst nd hq c.mem h
      subst this
      exact upd_same
    · rw [upd_ne h]
      rcases c.sub _ k5 q hq with rfl | m
      · exact absurd rfl h
      · exact k1 q m
  · rcases c.sub _ k5 q hq with rfl | m
    · exact c.nt
    · exact k3 q m
theorem PutO.l {A A' F : Ob} {p : Addr} {y : HO} {ex : Hp → Prop} (h : PutO A p y ex A') : PutO (A.and F) p y ex (A'.and F) :=
  ⟨.inl h.fp, h.nt, fun a ha => ha.imp (h.sub a) id, fun G H ⟨h1, h2, h3⟩ hex => ⟨h.ok G H h1 hex, F.st G H G _ h2 Sub.refl fun a ha => upd_ne (fun z => h3 p h.fp (z ▸ ha)), fun a ha => h3 a (h.sub a ha)⟩⟩
theorem PutO.r {A F F' : Ob} {p : Addr} {y : HO} {ex : Hp → Prop} (h : PutO F p y ex F') : PutO (A.and F) p y ex (A.and F') :=
  ⟨.inr h.fp, h.nt, fun a ha => ha.imp id (h.sub a), fun G H ⟨h1, h2, h3⟩ hex => ⟨A.st G H G _ h1 Sub.refl fun a ha => upd_ne (fun z => h3 p (z ▸ ha) h.fp), h.ok G H h2 hex, fun a ha hb => h3 a ha (h.sub a hb)⟩⟩
theorem PutO.le {o o' o2 : Ob} {p : Addr} {y : HO} {ex : Hp → Prop} (h : PutO o p y ex o') (l : Ob.le o' o2) : PutO o p y ex o2 :=
  ⟨h.fp, h.nt, fun a ha => h.sub a ((l.fp a).mp ha), fun G H k hex => l.ok _ _ (h.ok G H k hex)⟩
theorem PutO.pre {o o2 o' : Ob} {p : Addr} {y : HO} {ex : Hp → Prop} (l : Ob.le o o2) (h : PutO o2 p y ex o') : PutO o p y ex o' :=
  ⟨(l.fp p).mp h.fp, h.nt, fun a ha => (l.fp a).mp (h.sub a ha), fun G H k hex => h.ok G H (l.ok G H k) hex⟩
/-- one cell of a list of cells is written -/
theorem put_at {l1 l2 : List Cell} {p : Addr} {y0 y : HO} {φ φ' ex : Hp → Prop} (nt : NT y) (mn : Mono φ') (ph : ∀ G, φ G → ex G → φ' G) : PutO (cOb (l1 ++ (p, y0) :: l2) φ) p y ex (cOb (l1 ++ (p, y) :: l2) φ') := by
  have ef : (l1 ++ (p, y) :: l2).map Prod.fst = (l1 ++ (p, y0) :: l2).map Prod.fst := by rw [List.map_append, List.map_append]; rfl
  refine CPut.o (y0 := y0) (List.mem_append_right _ (.head _)) ⟨List.mem_append_right _ (.head _), fun G _ q hq => ?_, fun G _ nd => by rw [ef]; exact nd, nt, fun _ => mn, ph⟩ fun a ha => by rw [ef] at ha; exact ha
  rcases List.mem_append.mp hq with h | h
  · exact .inr (List.mem_append_left _ h)
  · rcases List.mem_cons.mp h with rfl | h
    · exact .inl rfl
    · exact .inr (List.mem_append_right _ (.tail _ h))
theorem le_perm {cs cs' : List Cell} {φ φ' : Hp → Prop} (h : cs.Perm cs') (mn : Mono φ') (k : ∀ G, φ G → φ' G) : Ob.le (cOb cs φ) (cOb cs' φ') :=
  ⟨fun a => (show a ∈ cs'.map Prod.fst ↔ a ∈ cs.map Prod.fst from (h.map Prod.fst).mem_iff.symm), fun G H ⟨k1, k2, k3, k4, k5⟩ => ⟨fun q hq => k1 q (h.mem_iff.mpr hq), (h.map Prod.fst).nodup_iff.mp k2, fun q hq => k3 q (h.mem_iff.mpr hq), mn, k G k5⟩⟩
theorem le_merge {cs ds : List Cell} {φ ψ χ : Hp → Prop} (mn : Mono χ) (k : ∀ G, φ G → ψ G → χ G) : Ob.le ((cOb cs φ).and (cOb ds ψ)) (cOb (cs ++ ds) χ) :=
  ⟨fun a => by show a ∈ (cs ++ ds).map Prod.fst ↔ a ∈ cs.map Prod.fst ∨ a ∈ ds.map Prod.fst; rw [List.map_append, List.mem_append], fun G H ⟨⟨h1, h2, h3, h4, h5⟩, ⟨k1, k2, k3, k4, k5⟩, dj⟩ =>
    ⟨fun q hq => (List.mem_append.mp hq).elim (h1 q) (k1 q), by
      rw [List.map_append, List.nodup_append]
      exact ⟨h2, k2, fun x hx y hy z => dj x hx (z ▸ hy)⟩, fun q hq => (List.mem_append.mp hq).elim (h3 q) (k3 q), mn, k G h5 k5⟩⟩
section
variable {K : Kx} {ρ : List Sl} {σ : L2.St} {o o' : Ob} {G H G' H' : Hp} {p : Addr} {y : HO} {ex : Hp → Prop}
theorem En.putO (e : En K o ρ G σ H) (c : PutO o p y ex o') (hex : ex G) : Stp ρ σ o G H ρ σ o' G (upd H p y) ∧ En K o' ρ G σ (upd H p y) := by
  have nown : ∀ a, Own ρ σ a → a ≠ p := fun a ha z => e.onf a ha (z ▸ c.fp)
  have stp : Stp ρ σ o G H ρ σ o' G (upd H p y) := ⟨Sub.refl, fun a x hx h1 _ => by rw [upd_ne (show a ≠ p from fun z => h1 (by rw [z]; exact c.fp))]; exact hx, fun _ h _ _ _ => h, fun a ha => .inl (c.sub a ha), fun _ h => .inl h⟩
  refine ⟨stp, e.step stp ⟨fun b z hb => ?_, fun a ha => e.wd.nfp a (c.sub a ha), fun a ha => ?_, c.ok G H e.wd.ok hex⟩ fun a ha => ⟨(e.occ_own ha).1, upd_ne (nown a ha), fun z => e.onf a ha (c.sub a z)⟩⟩
  · rw [upd_ne (fun z => by rw [z, e.wd.nfp p c.fp] at hb; cases hb)]
    exact e.wd.sub b z hb
  · by_cases h : a = p
    · subst h; exact ⟨y, upd_same, c.nt⟩
    · rw [upd_ne h]; exact e.wd.occ a (c.sub a ha)
theorem and_swap2 {A B C : Ob} : Ob.le (A.and (B.and C)) (B.and (A.and C)) := and_assoc_le'.trans ((Ob.le.and and_comm_le .refl).trans and_assoc_le)
/-- a new cell -/
theorem En.newC (e : En K o ρ G σ H) (hp : H p = none) (nt : NT y) : Stp ρ σ o G H ρ σ ((cOb [(p, y)] fun _ => True).and o) G (upd H p y) ∧ En K ((cOb [(p, y)] fun _ => True).and o) ρ G σ (upd H p y) := by
  have np : ∀ a x, H a = some x → a ≠ p := fun a x h z => by rw [z, hp] at h; cases h
  have nfp : ¬ o.fp p := fun z => by obtain ⟨x, hx, _⟩ := e.wd.occ p z; rw [hp] at hx; cases hx
  have fpc : ∀ a, ((cOb [(p, y)] fun _ => True).and o).fp a → a = p ∨ o.fp a := fun a ha => ha.imp (fun z => by have z : a ∈ [p] := z; simpa using z) id
  have stp : Stp ρ σ o G H ρ σ ((cOb [(p, y)] fun _ => True).and o) G (upd H p y) := ⟨Sub.refl, fun a x hx _ _ => by rw [upd_ne (np a x hx)]; exact hx, fun _ h _ _ _ => h, fun a ha => (fpc a ha).elim (fun z => .inr (.inl (by rw [z]; exact hp))) .inl, fun _ h => .inl h⟩
  refine ⟨stp, e.step stp ⟨fun b z hb => ?_, fun a ha => ?_, fun a ha => ?_, ⟨?_, ?_, ?_⟩⟩ fun a ha => ?_⟩
  · rw [upd_ne (np b z (e.wd.sub b z hb))]; exact e.wd.sub b z hb
  · exact (fpc a ha).elim (fun z => by rw [z]; exact e.wd.gnone hp) (e.wd.nfp a)
  · rcases fpc a ha with rfl | h
    · exact ⟨y, upd_same, nt⟩
    · obtain ⟨x, hx, n⟩ := e.wd.occ a h
      exact ⟨x, by rw [upd_ne (np a x hx)]; exact hx, n⟩
  · refine ⟨fun q hq => ?_, by simp, fun q hq => ?_, fun _ _ _ _ => trivial, trivial⟩
    · obtain rfl := List.mem_singleton.mp hq; exact upd_same
    · obtain rfl := List.mem_singleton.mp hq; exact nt
  · exact o.st G H G _ e.wd.ok Sub.refl fun a ha => by
      obtain ⟨x, hx, _⟩ := e.wd.occ a ha
      exact upd_ne (np a x hx)
  · intro a ha hb
    have ha : a ∈ [p] := ha
    obtain rfl := List.mem_singleton.mp ha
    exact nfp hb
  · obtain ⟨g, x, hx⟩ := e.occ_own ha
    exact ⟨g, upd_ne (np a x hx), fun z => (fpc a z).elim (fun z => by rw [z, hp] at hx; cases hx) (e.onf a ha)⟩
end
section
variable {K : Kx} {ρ : List Sl} {o : Ob} {R : RD} {N B C' : RE} {te tv td ta tx : TE} {T : TA} {C a dx p : Addr} {f m : Str} {i : Nat} {S : DS} {E : XK}
/-! ### reading -/
theorem xe_gf {fs : List (Str × V)} {v : V} {dv' : DV} (c : Cls K C) (n : NoAttr K C f) (h : DL.XE K te ρ o fun dv ρ1 o1 => dv = .raw (.ref a) ∧ At o1 a (.ins C dx fs) ∧ fs.lookup f = some v ∧ Knows o1 (fun G => VD K G v dv') ∧ R dv' ρ1 o1) : DL.XE K (tFld K te f) ρ o R := fun G σ H e Q q =>
  h.seq e fun x dv ρ1 o1 G1 H1 ⟨hd, hm, l, hv, r⟩ s1 e1 ok1 fr1 => by
    subst hd
    have ok1 : x = .ref a := ok1
    subst ok1
    have g := hv _ _ e1.wd.ok
    exact ⟨a, C, dx, fs, v, rfl, hm _ _ e1.wd.ok, c, n, l, q _ _ _ _ _ _ r s1 e1 (vd_in g) (vd_fr g)⟩
/-- d[k], k a number or a text -/
theorem xe_gget (h : DL.XE K td ρ o fun dv ρ1 o1 => dv = .raw (.ref p) ∧ DL.XE K ta ρ1 o1 fun kv ρ2 o2 => ∃ k kvs v dv', kv = .d (kD k) ∧ At o2 p (.dK kvs) ∧ valV kvs k = some v ∧ Knows o2 (fun G => VD K G v dv') ∧ R dv' ρ2 o2) : DL.XE K (tDGet td ta) ρ o R := fun G σ H e Q q =>
  h.seq e fun x dv ρ1 o1 G1 H1 ⟨hd, r1⟩ s1 e1 ok1 fr1 => r1.seq e1 fun y kv ρ2 o2 G2 H2 ⟨k, kvs, v, dv', hk, hm, hv, hd', r⟩ s2 e2 ok2 fr2 => by
    subst hd hk
    have ok1 : x = .ref p := ok1
    subst ok1
    have g := hd' _ _ e2.wd.ok
    refine ⟨p, v, rfl, ?_, q _ _ _ _ _ _ r (s1.trans s2) e2 (vd_in g) (vd_fr g)⟩
    rw [← hv, vok_key ok2]
    exact DGet.k (hm _ _ e2.wd.ok)
theorem xe_gin (h : DL.XE K ta ρ o fun kv ρ1 o1 => ∃ k, kv = .d (kD k) ∧ DL.XE K td ρ1 o1 fun dv ρ2 o2 => dv = .raw (.ref p) ∧ ∃ kvs, At o2 p (.dK kvs) ∧ R (.d (.bool (valV kvs k).isSome)) ρ2 o2) : DL.XE K (tDIn ta td) ρ o R := fun G σ H e Q q =>
  h.seq e fun x kv ρ1 o1 G1 H1 ⟨k, hk, r1⟩ s1 e1 ok1 fr1 => r1.seq e1 fun y dv ρ2 o2 G2 H2 ⟨hd, kvs, hm, r⟩ s2 e2 ok2 fr2 => by
    subst hd hk
    have ok2 : y = .ref p := ok2
    subst ok2
    exact ⟨p, valV kvs k, rfl, by rw [vok_key ok1]; exact DGet.k (hm _ _ e2.wd.ok), q _ _ _ _ _ _ r (s1.trans s2) e2 (.bl _) trivial⟩
theorem xe_gnotin (h : DL.XE K ta ρ o fun kv ρ1 o1 => ∃ k, kv = .d (kD k) ∧ DL.XE K td ρ1 o1 fun dv ρ2 o2 => dv = .raw (.ref p) ∧ ∃ kvs, At o2 p (.dK kvs) ∧ R (.d (.bool (!(valV kvs k).isSome))) ρ2 o2) : DL.XE K (tDNotIn ta td) ρ o R := fun G σ H e Q q =>
  h.seq e fun x kv ρ1 o1 G1 H1 ⟨k, hk, r1⟩ s1 e1 ok1 fr1 => r1.seq e1 fun y dv ρ2 o2 G2 H2 ⟨hd, kvs, hm, r⟩ s2 e2 ok2 fr2 => by
    subst hd hk
    have ok2 : y = .ref p := ok2
    subst ok2
    exact ⟨p, valV kvs k, rfl, by rw [vok_key ok1]; exact DGet.k (hm _ _ e2.wd.ok), q _ _ _ _ _ _ r (s1.trans s2) e2 (.bl _) trivial⟩
theorem xr_gix {n : Int} {xs : List V} {v : V} {dv' : DV} (hm : At o p (.lst xs)) (ha : atI xs n = some v) (hv : Knows o (fun G => VD K G v dv')) (r : R dv' ρ o) : XR K (rIx K) (.raw (.ref p)) (.d (.int n)) ρ o R := fun G σ H x y e h1 h2 Q q => by
  have h1 : x = .ref p := h1
  subst h1
  cases vok_int h2
  have g := hv _ _ e.wd.ok
  exact .inl ⟨p, xs, n, v, rfl, rfl, .inl (.inl (hm _ _ e.wd.ok)), ha, q _ _ _ _ _ _ r Stp.refl e (vd_in g) (vd_fr g)⟩
theorem xt_gtru {R' : Bool → RE} {xs : List V} (h : DL.XE K te ρ o fun dv ρ1 o1 => dv = .raw (.ref p) ∧ At o1 p (.lst xs) ∧ R' (!xs.isEmpty) ρ1 o1) : XT K (tTru K te) ρ o R' := fun G σ H e Q q =>
  h.seq e fun x dv ρ1 o1 G1 H1 ⟨hd, hm, r⟩ s1 e1 ok1 fr1 => by
    subst hd
    have ok1 : x = .ref p := ok1
    subst ok1
    exact ⟨_, .inl ⟨xs, .inl (.inl (hm _ _ e1.wd.ok)), rfl⟩, q _ _ _ _ _ r s1 e1⟩
theorem xc_glenL {xs : List V} (hm : At o p (.lst xs)) (r : R (.d (.int xs.length)) ρ o) : XC K (fun xs H Q => ∃ x n, xs = [x] ∧ LenV K x H n ∧ Q (.int (n : Nat)) H) [.raw (.ref p)] ρ o R := fun G σ H vs e h0 Q q => by
  obtain ⟨v, rfl, h1⟩ := va1 h0
  have h1 : v = .ref p := h1
  subst h1
  exact ⟨_, _, rfl, .inl ⟨xs, .inl (.inl (hm _ _ e.wd.ok)), rfl⟩, xq_now q e r (.int _)⟩
theorem xc_glenD {kvs : List (Key × V)} (hm : At o p (.dK kvs)) (r : R (.d (.int kvs.length)) ρ o) : XC K rLenDc [.raw (.ref p)] ρ o R := fun G σ H vs e h0 Q q => by
  obtain ⟨v, rfl, h1⟩ := va1 h0
  have h1 : v = .ref p := h1
  subst h1
  exact ⟨p, kvs, rfl, .inl (hm _ _ e.wd.ok), xq_now q e r (.int _)⟩
theorem xc_gdict {kvs : List (Key × V)} {ps : DKv} (hm : At o p (.dK kvs)) (hk : Knows o (fun G => KvR K G kvs ps)) (r : R (.new (.dic ps)) ρ o) : XC K rDictDc [.raw (.ref p)] ρ o R := fun G σ H vs e h0 Q q => by
  obtain ⟨v, rfl, h1⟩ := va1 h0
  have h1 : v = .ref p := h1
  subst h1
  refine ⟨p, kvs, rfl, .inl (hm _ _ e.wd.ok), fun x hx => ?_⟩
  exact q (.ref x) (.new (.dic ps)) ρ o G _ r (Stp.newO hx) (e.newO hx) ⟨x, _, rfl, e.wd.gnone hx, upd_same, hk _ _ e.wd.ok, nofp e hx, noown e hx⟩ fun y hy => by cases hy; exact .inl hx
theorem xc_gsort {kvs : List (Key × V)} {ks : List Str} (hm : At o p (.dK kvs)) (hk : kvs.map Prod.fst = ks.map Sum.inr) (h64 : ks.length < 64) (r : ∀ ys : List Str, ys.Perm ks → sortedS ys = true → R (.new (.lst (ys.map .str))) ρ o) : XC K rSortDc [.raw (.ref p)] ρ o R := fun G σ H vs e h0 Q q => by
  obtain ⟨v, rfl, h1⟩ := va1 h0
  have h1 : v = .ref p := h1
  subst h1
  refine ⟨p, kvs, ks, rfl, .inl (hm _ _ e.wd.ok), hk, h64, fun ys x hp hs hx => ?_⟩
  exact q (.ref x) (.new (.lst (ys.map .str))) ρ o G _ (r ys hp hs) (Stp.newO hx) (e.newO hx) ⟨x, _, rfl, e.wd.gnone hx, upd_same, RpAll.strs, nofp e hx, noown e hx⟩ fun y hy => by cases hy; exact .inl hx
/-! ### new cells -/
theorem xe_gnewL (h : ∀ p, R (.raw (.ref p)) ρ ((cOb [(p, .lst [])] fun _ => True).and o)) : DL.XE K (tLst tNil) ρ o R := fun G σ H e Q q => by
  refine ⟨Nat.zero_le _, fun p hp => ?_⟩
  obtain ⟨st, en⟩ := e.newC (y := .lst []) hp trivial
  exact q (.ref p) (.raw (.ref p)) _ _ _ _ (h p) st en rfl trivial
/-- a fresh list becomes a cell -/
theorem xe_gcellL (h : DL.XE K te ρ o fun dv ρ1 o1 => ∃ ds, dv = .new (.lst ds) ∧ ∀ (p : Addr) (vs : List V), vs.length = ds.length → R (.raw (.ref p)) ρ1 ((cOb [(p, .lst vs)] fun G => RpAll K G vs ds).and o1)) : DL.XE K te ρ o R := fun G σ H e Q q =>
  h G σ H e Q fun v dv ρ1 o1 G1 H1 ⟨ds, hd, r⟩ s e' ok fr => by
    subst hd
    obtain ⟨a, y, rfl, g1, h1, ok, nf, no⟩ := ok
    obtain ⟨vs, rfl⟩ : ∃ xs, y = .lst xs := by cases y <;> first | exact ⟨_, rfl⟩ | exact ok.elim
    have ok : RpAll K G1 vs ds := ok
    have fpc : ∀ b, ((cOb [(a, .lst vs)] fun G => RpAll K G vs ds).and o1).fp b → b = a ∨ o1.fp b := fun b hb => hb.imp (fun z => by have z : b ∈ [a] := z; simpa using z) id
    have fra := fr a rfl
    have stp : Stp ρ σ o G H ρ1 σ ((cOb [(a, .lst vs)] fun G => RpAll K G vs ds).and o1) G1 H1 := ⟨s.g, s.h, s.n, fun b hb => (fpc b hb).elim (fun z => by rw [z]; rcases fra with q | q | q; exact .inr (.inl q); exact .inl q; exact .inr (.inr q)) (s.f b), s.w⟩
    refine q (.ref a) (.raw (.ref a)) _ _ _ _ (r a vs ok.len) stp ⟨⟨⟨e'.wd.sub, fun b hb => ?_, fun b hb => ?_, ⟨⟨fun q hq => ?_, by simp, fun q hq => ?_, fun _ _ s h => RpAll.sub s h, ok⟩, e'.wd.ok, fun b hb hc => ?_⟩⟩, e'.len, e'.sl, e'.dis, fun b hb z => ?_⟩, e.wo.step stp⟩ rfl trivial
    · exact (fpc b hb).elim (fun z => by rw [z]; exact g1) (e'.wd.nfp b)
    · rcases fpc b hb with rfl | h
      · exact ⟨_, h1, trivial⟩
      · exact e'.wd.occ b h
    · obtain rfl := List.mem_singleton.mp hq; exact h1
    · obtain rfl := List.mem_singleton.mp hq; trivial
    · have hb : b ∈ [a] := hb
      obtain rfl := List.mem_singleton.mp hb
      exact nf hc
    · rcases fpc b z with rfl | z
      · exact no hb
      · exact e'.onf b hb z
/-- a fresh dict becomes a cell -/
theorem xe_gcellD (h : DL.XE K te ρ o fun dv ρ1 o1 => ∃ ps, dv = .new (.dic ps) ∧ ∀ p kvs, kvs.map Prod.fst = ps.map Prod.fst → R (.raw (.ref p)) ρ1 ((cOb [(p, .dK kvs)] fun G => KvR K G kvs ps).and o1)) : DL.XE K te ρ o R := fun G σ H e Q q =>
  h G σ H e Q fun v dv ρ1 o1 G1 H1 ⟨ps, hd, r⟩ s e' ok fr => by
    subst hd
    obtain ⟨a, y, rfl, g1, h1, ok, nf, no⟩ := ok
    obtain ⟨kvs, rfl, ok⟩ := dic_rep ok
    have fpc : ∀ b, ((cOb [(a, .dK kvs)] fun G => KvR K G kvs ps).and o1).fp b → b = a ∨ o1.fp b := fun b hb => hb.imp (fun z => by have z : b ∈ [a] := z; simpa using z) id
    have fra := fr a rfl
    have stp : Stp ρ σ o G H ρ1 σ ((cOb [(a, .dK kvs)] fun G => KvR K G kvs ps).and o1) G1 H1 := ⟨s.g, s.h, s.n, fun b hb => (fpc b hb).elim (fun z => by rw [z]; rcases fra with q | q | q; exact .inr (.inl q); exact .inl q; exact .inr (.inr q)) (s.f b), s.w⟩
    refine q (.ref a) (.raw (.ref a)) _ _ _ _ (r a kvs (KvR.split ok).1) stp ⟨⟨⟨e'.wd.sub, fun b hb => ?_, fun b hb => ?_, ⟨⟨fun q hq => ?_, by simp, fun q hq => ?_, fun _ _ s h => KvR.sub s h, ok⟩, e'.wd.ok, fun b hb hc => ?_⟩⟩, e'.len, e'.sl, e'.dis, fun b hb z => ?_⟩, e.wo.step stp⟩ rfl trivial
    · exact (fpc b hb).elim (fun z => by rw [z]; exact g1) (e'.wd.nfp b)
    · rcases fpc b hb with rfl | h
      · exact ⟨_, h1, trivial⟩
      · exact e'.wd.occ b h
    · obtain rfl := List.mem_singleton.mp hq; exact h1
    · obtain rfl := List.mem_singleton.mp hq; trivial
    · have hb : b ∈ [a] := hb
      obtain rfl := List.mem_singleton.mp hb
      exact nf hc
    · rcases fpc b z with rfl | z
      · exact no hb
      · exact e'.onf b hb z
/-! ### writing -/
theorem hand_dr {dv : DV} {P : RD} (h : HandR P dv ρ o) : ((∃ d, dv = .d d) ∨ ∃ u, dv = .raw u) ∧ P dv ρ o := by
  cases dv with
  | d x => exact ⟨.inl ⟨x, rfl⟩, h⟩
  | raw x => exact ⟨.inr ⟨x, rfl⟩, h⟩
  | sl _ _ => exact False.elim h
  | new _ => exact False.elim h
/-- x.f = e -/
theorem xs_gf (c : Cls K C) (n : NoAttr K C f) (h : DL.XE K tv ρ o (HandR fun dv ρ1 o1 => ρ1[i]? = some (.raw (.ref a)) ∧ ∃ dx fs, At o1 a (.ins C dx fs) ∧ fs.length < 1000 ∧ ∀ u, Vd dv u → ∃ o2, PutO o1 a (.ins C dx (putF f u fs)) (VdG K dv u) o2 ∧ N ρ1 o2)) :
    XS K (sFld K (tVar i) tv f) ρ o N R B C' := fun G σ H e D qn qr qb qc =>
  h.seq e fun y dv ρ1 o1 G1 H1 r s1 e1 ok1 fr1 => by
    obtain ⟨hr, hi, dx, fs, hm, hl, r⟩ := hand_dr r
    obtain ⟨hd, hg⟩ := vd_ok ok1 hr
    obtain ⟨o2, cp, nn⟩ := r y hd
    obtain ⟨ov, k1, k2⟩ := e1.sl i _ hi
    have k2 : ov = some (.ref a) := k2
    subst k2
    obtain ⟨st, en⟩ := e1.putO cp hg
    exact ⟨.ref a, k1, a, C, dx, fs, rfl, hm _ _ e1.wd.ok, c, n, hl, qn _ _ _ _ _ nn (s1.trans st) en⟩
/-- d[k] = e -/
theorem xs_gput (h : DL.XE K tv ρ o (HandR fun dv ρ0 o0 => DL.XE K td ρ0 o0 fun dp ρ1 o1 => dp = .raw (.ref p) ∧ DL.XE K ta ρ1 o1 fun kv ρ2 o2 => ∃ k kvs, kv = .d (kD k) ∧ At o2 p (.dK kvs) ∧ kvs.length < sizeLine ∧ ∀ u, Vd dv u → ∃ o3, PutO o2 p (.dK (putK kvs k u)) (VdG K dv u) o3 ∧ N ρ2 o3)) :
    XS K (sDPut td ta tv) ρ o N R B C' := fun G σ H e D qn qr qb qc =>
  h.seq e fun w dv ρ0 o0 G0 H0 r0 s0 e0 ok0 fr0 => by
    obtain ⟨hr, r0⟩ := hand_dr r0
    refine r0.seq e0 fun x dp ρ1 o1 G1 H1 ⟨hd, r1⟩ s1 e1 ok1 fr1 => r1.seq e1 fun y kv ρ2 o2 G2 H2 ⟨k, kvs, hk, hm, hl, r⟩ s2 e2 ok2 fr2 => ?_
    subst hd hk
    have ok1 : x = .ref p := ok1
    subst ok1
    have okw := ok0.step (s1.trans s2) (by rcases hr with ⟨d, rfl⟩ | ⟨u, rfl⟩ <;> trivial)
    obtain ⟨hd, hg⟩ := vd_ok okw hr
    obtain ⟨o3, cp, nn⟩ := r w hd
    obtain ⟨st, en⟩ := e2.putO cp hg
    refine ⟨p, _, rfl, ?_, qn _ _ _ _ _ nn (((s0.trans s1).trans s2).trans st) en⟩
    rw [vok_key ok2]
    exact DPut.k (hm _ _ e2.wd.ok) hl
/-- l.append(e) -/
theorem xe_gapp (h : DL.XE K td ρ o fun dv ρ1 o1 => dv = .raw (.ref p) ∧ (∃ xs, At o1 p (.lst xs)) ∧ XA K T ρ1 o1 fun bs ρ2 o2 => ∃ dv xs, bs = [dv] ∧ ((∃ d, dv = .d d) ∨ ∃ u, dv = .raw u) ∧ At o2 p (.lst xs) ∧ xs.length < sizeLine ∧ ∀ u, Vd dv u → ∃ o3, PutO o2 p (.lst (xs ++ [u])) (VdG K dv u) o3 ∧ R (.d .none) ρ2 o3) :
    DL.XE K (tBM K "list" rAppend td T) ρ o R := fun G σ H e Q q =>
  h.seq e fun x dv ρ1 o1 G1 H1 ⟨hd, ⟨xs0, hm0⟩, r1⟩ s1 e1 ok1 fr1 => by
    subst hd
    have ok1 : x = .ref p := ok1
    subst ok1
    refine ⟨.inl ⟨rfl, xs0, .inl (.inl (hm0 _ _ e1.wd.ok))⟩, r1 G1 σ H1 e1 _ fun vs bs ρ2 o2 G2 H2 ⟨dv, xs, hb, hr, hm, hl, r⟩ s2 e2 ok2 => ?_⟩
    subst hb
    obtain ⟨w, rfl, z1⟩ := va1 ok2
    obtain ⟨hd, hg⟩ := vd_ok z1 hr
    obtain ⟨o3, cp, rr⟩ := r w hd
    obtain ⟨st, en⟩ := e2.putO cp hg
    exact ⟨p, xs, w, rfl, rfl, hm _ _ e2.wd.ok, hl, q _ _ _ _ _ _ rr ((s1.trans s2).trans st) en .non trivial⟩
/-- l.pop() -/
theorem xe_gpop (h : DL.XE K td ρ o fun dv ρ1 o1 => dv = .raw (.ref p) ∧ ∃ xs v dv' o2, At o1 p (.lst xs) ∧ xs[xs.length - 1]? = some v ∧ PutO o1 p (.lst xs.dropLast) (fun _ => True) o2 ∧ Knows o1 (fun G => VD K G v dv') ∧ R dv' ρ1 o2) :
    DL.XE K (tBM0 K "list" rPop td) ρ o R := fun G σ H e Q q =>
  h.seq e fun x dv ρ1 o1 G1 H1 ⟨hd, xs, v, dv', o2, hm, hv, cp, kn, r⟩ s1 e1 ok1 fr1 => by
    subst hd
    have ok1 : x = .ref p := ok1
    subst ok1
    have g := kn _ _ e1.wd.ok
    obtain ⟨st, en⟩ := e1.putO cp trivial
    exact ⟨.inl ⟨rfl, xs, .inl (.inl (hm _ _ e1.wd.ok))⟩, p, xs, v, rfl, rfl, hm _ _ e1.wd.ok, hv, q v dv' _ _ _ _ r (s1.trans st) en (vd_in g) ((vd_fr g).back s1)⟩
/-! ### calls that see a part of the objects -/
theorem vall_le {K : Kx} {o o2 : Ob} {ρ : List Sl} {G : Hp} {σ : L2.St} {H : Hp} {vs : List V} {dvs : List DV} (h : VAll K.K o ρ G σ H vs dvs) (l : Ob.le o o2) : VAll K.K o2 ρ G σ H vs dvs := by
  induction h with
  | nil => exact .nil
  | cons a _ ih => exact .cons (VOk.le a l) ih
/-- the promise, about a part of the objects -/
def Part (S : DS) (dvs : List DV) (o : Ob) (R : DV → Ob → Prop) (X : Ex → Ob → Prop) : Prop :=
  ∃ P F, Ob.le o (P.and F) ∧ S dvs P (fun dv o3 => ∃ o4, Ob.le (o3.and F) o4 ∧ R dv o4) (fun ex o3 => ∃ o4, Ob.le (o3.and F) o4 ∧ X ex o4)
theorem part_run {Q : VK} {G H : Hp} {σ : L2.St} {G1 H1 : Hp} {ρ1 : List Sl} {o1 : Ob} {vs : List V} {dvs : List DV} (q : XQ K ρ o G σ H R Q) (hd : ∀ d ∈ dvs, (∃ x, d = .d x) ∨ ∃ v, d = .raw v) {Z : Ex → Ob → Prop}
    (r : Part S dvs o1 (fun dv o2 => R dv ρ1 o2) Z) (hz : ∀ cls fs d o2 G2 H2, Z (cls, fs) o2 → Stp ρ1 σ o1 G1 H1 ρ1 σ o2 G2 H2 → EnB K o2 ρ1 G2 σ H2 → EOk K G2 H2 d fs → E cls d H2)
    (s1 : Stp ρ σ o G H ρ1 σ o1 G1 H1) (e1 : En K o1 ρ1 G1 σ H1) (ok : VAll K o1 ρ1 G1 σ H1 vs dvs) : spD K S vs H1 Q E := by
  obtain ⟨P, F, l, r⟩ := r
  have e2 : En K (P.and F) ρ1 G1 σ H1 := e1.le l
  have ok2 := vall_le ok l
  have s12 : Stp ρ1 σ o1 G1 H1 ρ1 σ (P.and F) G1 H1 := Stp.refl.le l
  have sz : ∀ {o3 G3 H3}, Stp ρ1 σ P G1 H1 ρ1 σ o3 G3 H3 → Stp ρ1 σ o1 G1 H1 ρ1 σ (o3.and F) G3 H3 := fun s3 => s12.trans (Stp.whole e2.toEnB s3)
  refine call_run (K := K.fr F) (o := P) (ρ := ρ1) (G := G1) (H := H1) (R := fun dv ρ' o' => ∃ o4, Ob.le (o'.and F) o4 ∧ R dv ρ' o4) (fun v dv ρ' o' G' H' ⟨o4, l4, r⟩ s e' ok fr => ?_) hd r (fun cls fs d o3 G3 H3 ⟨o4, l4, z⟩ s3 e3 ek => hz cls fs d o4 G3 H3 z ((sz s3).le l4) ((EnB.whole e2.toEnB s3 e3).le l4) ek) Stp.refl e2.part (vall_part ok2 hd)
  have w := VOk.whole e2.toEnB s ok fr
  have st : Stp ρ1 σ o1 G1 H1 ρ' σ (o'.and F) G' H' := s12.trans (Stp.whole e2.toEnB s)
  exact q v dv ρ' o4 G' H' r ((s1.trans st).le l4) ((e2.whole s e').le l4) (w.1.le l4) (((w.2.back s12)).back s1)
theorem xe_callP (h : XAF K T ρ o fun dvs ρ1 o1 => Part S dvs o1 (fun dv o2 => R dv ρ1 o2) (fun _ _ => False)) : DL.XE K (tCall (spD K S) [] E T) ρ o R := fun G σ H e Q q =>
  h G σ H e _ fun vs dvs ρ1 o1 G1 H1 ⟨hd, r⟩ s1 e1 ok => by
    show spD K S (vs ++ []) H1 Q E
    rw [List.append_nil]
    exact part_run q hd r (fun _ _ _ _ _ _ z => z.elim) s1 e1 ok
/-- a method of an instance -/
theorem xe_methP (h : DL.XE K te ρ o fun dv ρ1 o1 => dv = .raw (.ref a) ∧ (∃ dx fs, At o1 a (.ins C dx fs) ∧ fs.lookup m = none) ∧ XAF K T ρ1 o1 fun dvs ρ2 o2 => Part S (.raw (.ref a) :: dvs) o2 (fun dv o3 => R dv ρ2 o3) (fun _ _ => False)) :
    DL.XE K (tMeth C m (spD K S) [] E te T) ρ o R := fun G σ H e Q q =>
  h.seq e fun x dv ρ1 o1 G1 H1 ⟨hd, ⟨dx, fs, hm, hl⟩, r1⟩ s1 e1 ok1 fr1 => by
    subst hd
    have ok1 : x = .ref a := ok1
    subst ok1
    refine ⟨a, dx, fs, rfl, hm _ _ e1.wd.ok, hl, r1 G1 σ H1 e1 _ fun us dvs ρ2 o2 G2 H2 ⟨hd, r⟩ s2 e2 ok => ?_⟩
    show spD K S (.ref a :: (us ++ [])) H2 Q E
    rw [List.append_nil]
    have hd2 : ∀ d ∈ (DV.raw (.ref a) :: dvs), (∃ x, d = .d x) ∨ ∃ v, d = .raw v := fun d hd' => (List.mem_cons.mp hd').elim (fun z => .inr ⟨_, z⟩) (hd d)
    exact part_run q hd2 r (fun _ _ _ _ _ _ z => z.elim) (s1.trans s2) e2 (.cons rfl ok)
theorem xe_methWP (h : DL.XE K te ρ o fun dv ρ1 o1 => dv = .raw (.ref a) ∧ (∃ dx fs, At o1 a (.ins C dx fs) ∧ fs.lookup m = none) ∧ XAF K T ρ1 o1 fun dvs ρ2 o2 => Part S (.raw (.ref a) :: dvs) o2 (fun dv o3 => R dv ρ2 o3) (fun ex o3 => K.Z ex ρ2 o3)) :
    DL.XE K (tMethW C m (spD K S) (WE K.W) te T) ρ o R := fun G σ H e Q q =>
  h.seq e fun x dv ρ1 o1 G1 H1 ⟨hd, ⟨dx, fs, hm, hl⟩, r1⟩ s1 e1 ok1 fr1 => by
    subst hd
    have ok1 : x = .ref a := ok1
    subst ok1
    refine ⟨a, dx, fs, rfl, hm _ _ e1.wd.ok, hl, r1 G1 σ H1 e1 _ fun us dvs ρ2 o2 G2 H2 ⟨hd, r⟩ s2 e2 ok => ?_⟩
    have hd2 : ∀ d ∈ (DV.raw (.ref a) :: dvs), (∃ x, d = .d x) ∨ ∃ v, d = .raw v := fun d hd' => (List.mem_cons.mp hd').elim (fun z => .inr ⟨_, z⟩) (hd d)
    exact part_run q hd2 r (fun cls fs d o3 G3 H3 z s3 e3 ek => e2.wo cls fs d ρ2 o3 G3 σ H3 z s3 e3 ek) (s1.trans s2) e2 (.cons rfl ok)
end
theorem atI_end {α : Type} {xs : List α} {w : α} (hw : xs[xs.length - 1]? = some w) : atI xs (-1) = some w := by
  have hl := (List.getElem?_eq_some_iff.mp hw).1
  unfold atI ixN
  rw [if_neg (by decide), if_pos (by omega)]
  show xs[((-1 : Int) + (xs.length : Int)).toNat]? = some w
  rw [show ((-1 : Int) + (xs.length : Int)).toNat = xs.length - 1 by omega]
  exact hw
end DL

set_option Elab.async false
set_option linter.all false
set_option maxRecDepth 100000
namespace DL
open PySem PySem.Spec PyProof.Rows L2
/-! ### a displayed dict as a cell -/
section
variable {K : Kx} {ρ ρ0 : List Sl} {σ σ0 : L2.St} {o o0 : Ob} {G H G0 H0 : Hp} {p : Addr} {y y0 : HO} {φ : Hp → Prop}
theorem En.adopt (e0 : En K o0 ρ0 G0 σ0 H0) (s : Stp ρ0 σ0 o0 G0 H0 ρ σ o G H) (e : En K o ρ G σ H) (hG : G p = none) (nf : ¬ o.fp p) (no : ¬ Own ρ σ p) (fr : H0 p = none) (nt : NT y) (mn : Mono φ) (hφ : φ G) :
    Stp ρ0 σ0 o0 G0 H0 ρ σ ((cOb [(p, y)] φ).and o) G (upd H p y) ∧ En K ((cOb [(p, y)] φ).and o) ρ G σ (upd H p y) := by
  have fpc : ∀ b, ((cOb [(p, y)] φ).and o).fp b → b = p ∨ o.fp b := fun b hb => hb.imp (fun z => by have z : b ∈ [p] := z; simpa using z) id
  have stp : Stp ρ0 σ0 o0 G0 H0 ρ σ ((cOb [(p, y)] φ).and o) G (upd H p y) :=
    ⟨s.g, fun a z hz h1 h2 => by rw [upd_ne (ne_of_none hz fr)]; exact s.h a z hz h1 h2, s.n, fun b hb => (fpc b hb).elim (fun z => .inr (.inl (by rw [z]; exact fr))) (s.f b), s.w⟩
  refine ⟨stp, ⟨⟨⟨fun b z hb => ?_, fun b hb => ?_, fun b hb => ?_, ⟨fun q hq => ?_, by simp, fun q hq => ?_, mn, hφ⟩, ?_, fun b hb hc => ?_⟩, e.len, fun j s' hj => ?_, e.dis, fun b hb z => ?_⟩, e0.wo.step stp⟩⟩
  · rw [upd_ne (fun z => by rw [z, hG] at hb; cases hb)]; exact e.wd.sub b z hb
  · exact (fpc b hb).elim (fun z => by rw [z]; exact hG) (e.wd.nfp b)
  · by_cases h : b = p
    · subst h; exact ⟨y, upd_same, nt⟩
    · rw [upd_ne h]; exact e.wd.occ b ((fpc b hb).resolve_left h)
  · obtain rfl := List.mem_singleton.mp hq; exact upd_same
  · obtain rfl := List.mem_singleton.mp hq; exact nt
  · exact o.st _ _ _ _ e.wd.ok Sub.refl fun b hb => upd_ne (show b ≠ p from fun z => nf (by rw [← z]; exact hb))
  · have hb : b ∈ [p] := hb
    obtain rfl := List.mem_singleton.mp hb
    exact nf hc
  · obtain ⟨ov, h1, h2⟩ := e.sl j s' hj
    refine ⟨ov, h1, h2.step Sub.refl fun q c hs hv => ?_⟩
    subst hs
    have ow : Own ρ σ q := ⟨j, ⟨c, hj⟩, by rw [h1, hv]⟩
    exact ⟨(e.occ_own ow).1, upd_ne (show q ≠ p from fun z => no (by rw [← z]; exact ow))⟩
  · rcases fpc b z with rfl | z
    · exact no hb
    · exact e.onf b hb z
end
abbrev GKv := List (Key × DV)
/-- the pairs of a display, read from left to right -/
inductive GPairs (K : Kx) : List (TE × TE) → List Sl → Ob → (GKv → RE) → Prop
  | nil {ρ : List Sl} {o : Ob} {J : GKv → RE} (r : J [] ρ o) : GPairs K [] ρ o J
  | cons {tk tv : TE} {r : List (TE × TE)} {ρ : List Sl} {o : Ob} {J : GKv → RE} (k : Key) (M : DV → RE) (h : DL.XE K tk ρ o fun a ρ1 o1 => a = .d (kD k) ∧ DL.XE K tv ρ1 o1 (HandR M))
      (t : ∀ b ρ2 o2, M b ρ2 o2 → GPairs K r ρ2 o2 fun ps => J ((k, b) :: ps)) : GPairs K ((tk, tv) :: r) ρ o J
/-- the values stand for what was given -/
def GVs (K : PySem.W.Frag) (G : Hp) (vs : List (Key × V)) (ps : GKv) : Prop := Paired (fun (p : Key × V) (q : Key × DV) => p.1 = q.1 ∧ Vd q.2 p.2 ∧ VdG K q.2 p.2 G) vs ps
theorem vdg_sub {K : PySem.W.Frag} {G G' : Hp} (s : Sub G G') {dv : DV} {v : V} (h : VdG K dv v G) : VdG K dv v G' := by
  cases dv with
  | d x => exact Rp.sub s h
  | _ => trivial
theorem GVs.sub {K : PySem.W.Frag} {G G' : Hp} (s : Sub G G') {vs : List (Key × V)} {ps : GKv} (h : GVs K G vs ps) : GVs K G' vs ps := Paired.mapP h fun a b z => ⟨z.1, z.2.1, vdg_sub s z.2.2⟩
theorem GVs.keys {K : PySem.W.Frag} {G : Hp} {vs : List (Key × V)} {ps : GKv} (h : GVs K G vs ps) : vs.map Prod.fst = ps.map Prod.fst := by
  induction h with
  | nil => rfl
  | cons h t ih => rw [List.map_cons, List.map_cons, ih, h.1]
theorem GVs.vd {K : PySem.W.Frag} {G : Hp} {vs : List (Key × V)} {ps : GKv} (h : GVs K G vs ps) : ∀ (i : Nat) (v : Key × V) (q : Key × DV), vs[i]? = some v → ps[i]? = some q → Vd q.2 v.2 := by
  induction h with
  | nil => intro i v q h; simp at h
  | cons h t ih =>
    intro i v q h1 h2
    cases i with
    | zero =>
      simp at h1 h2
      rw [← h1, ← h2]; exact h.2.1
    | succ i => exact ih i v q (by simpa using h1) (by simpa using h2)
section
variable {K : Kx} {ρ : List Sl} {o : Ob} {R : RD}
theorem GPairs.run {trs : List (TE × TE)} {J : GKv → RE} (h : GPairs K trs ρ o J) : ∀ G σ H, En K o ρ G σ H → ∀ Q : List (V × V) → Hp → Prop,
    (∀ vs ps ρ' o' G' H', J ps ρ' o' → Stp ρ σ o G H ρ' σ o' G' H' → En K o' ρ' G' σ H' → GVs K G' vs ps → Q (vs.map fun kv => (kV kv.1, kv.2)) H') → tPairs trs σ H Q := by
  induction h with
  | nil r => intro G σ H e Q q; exact q [] [] _ _ _ _ r Stp.refl e .nil
  | cons k M h t ih =>
    intro G σ H e Q q
    refine h.seq e fun x a ρ1 o1 G1 H1 ⟨hk, r1⟩ s1 e1 ok1 fr1 => ?_
    subst hk
    refine XE.seq r1 e1 fun y b ρ2 o2 G2 H2 m s2 e2 ok2 fr2 => ?_
    obtain ⟨hr, m⟩ := hand_dr m
    obtain ⟨hd, hg⟩ := vd_ok ok2 hr
    refine ih b ρ2 o2 m G2 σ H2 e2 _ fun vs ps ρ3 o3 G3 H3 r3 s3 e3 ok3 => ?_
    rw [vok_key ok1]
    exact q ((k, y) :: vs) ((k, b) :: ps) _ _ _ _ r3 ((s1.trans s2).trans s3) e3 (.cons ⟨rfl, hd, vdg_sub s3.g hg⟩ ok3)
theorem xe_gdisp {trs : List (TE × TE)} (h : GPairs K trs ρ o fun ps ρ' o' => ps.length ≤ 15 ∧ ∀ (p : Addr) (vs : List (Key × V)), (vs.map Prod.fst = ps.map Prod.fst) → (∀ (i : Nat) (v : Key × V) (q : Key × DV), vs[i]? = some v → ps[i]? = some q → Vd q.2 v.2) → R (.raw (.ref p)) ρ' ((cOb [(p, .dK (mergeK [] vs))] fun G => GVs K G vs ps).and o')) : DL.XE K (tDisp trs) ρ o R := fun G σ H e Q q p hp => by
  refine h.run G σ (upd H p (.dK [])) (e.newO hp) _ fun vs ps ρ' o' G' H' ⟨hl, r⟩ s e' ok => ?_
  have nf := nofp e hp
  have no := noown e hp
  have hpp : H' p = some (.dK []) := s.h p _ upd_same nf no
  have gp : G' p = none := s.n p (e.wd.gnone hp) ⟨_, upd_same, trivial⟩ nf no
  have nf' : ¬ o'.fp p := fun z => by
    rcases s.f p z with w | w | w
    · exact nf w
    · rw [upd_same] at w; cases w
    · exact no w
  have no' : ¬ Own ρ' σ p := fun z => by
    rcases s.w p z with w | w | w
    · exact no w
    · rw [upd_same] at w; cases w
    · exact nf w
  have len : vs.length = ps.length := Paired.length ok
  have keys := GVs.keys ok
  have vds := GVs.vd ok
  refine ⟨hpp, vs, rfl, by rw [len]; exact hl, ?_⟩
  have s1 : Stp ρ σ o G H ρ' σ o' G' H' := (Stp.newO hp).trans s
  obtain ⟨st, en⟩ := En.adopt (y := .dK (mergeK [] vs)) (φ := fun G => GVs K G vs ps) e s1 e' gp nf' no' hp trivial (fun _ _ s h => GVs.sub s h) ok
  exact q _ _ _ _ _ _ (r p vs keys vds) st en rfl trivial
end
theorem passP {X : Cx} : Passes (L2.CX X.prog X.w) X (fun _ _ _ => False) := fun _ _ _ _ _ _ _ h => by
  obtain ⟨_, _, _, _, _, _, _, _, _, _, _, _, z⟩ := h
  exact z.elim
/-! ### a list compared with an empty one -/
def rEqE (K : PySem.W.Frag) : R2 := fun x y H Q => ∃ a b xs, x = .ref a ∧ y = .ref b ∧ SqL K H a xs ∧ SqL K H b [] ∧ Q (.bl xs.isEmpty) H
theorem op_eqE {X : Cx} {K : PySem.W.Frag} (hK : X.K = K) (hu : X.A.units + 1 < cLine) : OpR X (compareOp .Eq) (rEqE K) := by
  subst hK
  intro pins s σ H x y v u Q I rx ry h
  obtain ⟨a, b, xs, rfl, rfl, ha, hb, q⟩ := h
  cases (show v = Value.ref a from rx)
  cases (show u = Value.ref b from ry)
  obtain ⟨us, r1, p1, _⟩ := I.list ha
  obtain ⟨ws, r2, p2, _⟩ := I.list hb
  cases r2
  cases xs with
  | nil =>
    cases r1
    exact SeqAt.RcAt.lists (e := fun _ => true) p1.isList p2.isList rfl (by omega) (fun j h1 _ => absurd h1 (by simp)) X.prog X.w _ _ ⟨.bl true, H, I, rfl, q⟩
  | cons z zs =>
    cases r1 with
    | cons r r' =>
      exact SeqAt.RcAt.lists_lengths p1.isList p2.isList (by simp) (by omega) X.prog X.w _ _ ⟨.bl false, H, I, rfl, q⟩
section
variable {K : Kx} {ρ : List Sl} {o : Ob} {R : RD} {p : Addr}
theorem xr_eqE {xs : List V} {b : DV} (hm : At o p (.lst xs)) (lb : IsL ρ b []) (r : R (.d (.bool xs.isEmpty)) ρ o) : XR K (rEqE K) (.raw (.ref p)) b ρ o R := fun G σ H x y e h1 h2 Q q => by
  have h1 : x = .ref p := h1
  subst h1
  obtain ⟨a, ys, rfl, hp, ok⟩ := lb.at e h2
  cases ok
  exact ⟨p, a, xs, rfl, rfl, .inl (.inl (hm _ _ e.wd.ok)), .inl (.inl hp), xq_now q e r (.bl _)⟩
end
end DL

set_option Elab.async false
set_option linter.all false
set_option maxRecDepth 100000
namespace DL
open PySem PySem.Spec PyProof.Rows L2
/-! ### law k22: the computation of a chain -/
def kTo (i : Int) : Ky := [.inr "to", .inl i]
def kSum (i : Int) : Ky := [.inr "sum", .inl i]
def comp3 (i : Int) : PyData → Prog
  | .int v => .ret (.int (i + v))
  | _ => .bad
def comp2 (i : Int) : PyData → Prog
  | .int g => if g < 0 then .ret (.int i) else .ask (kSum g) (comp3 i)
  | _ => .bad
def comp22 : Ky → Prog
  | [.inr _, .inl i] => .ask (kTo i) (comp2 i)
  | _ => .bad
/-! ### the goals and the chain that the law follows -/
def glKey (p : Int × Int) : L2.Key := .inl p.1
def glK (gl : List (Int × Int)) : List (L2.Key × V) := gl.map fun p => (glKey p, V.int p.2)
def glF (gl : List (Int × Int)) (i : Int) : Int := match getA glKey gl (.inl i) with
  | some p => p.2
  | none => 0
def folP (G : Int → Int) : Nat → List Int → Int → Option Int
  | 0, l, z => some (l ++ [z]).sum
  | n + 1, l, z => if 0 ≤ G z then (if G z ∈ l ++ [z] then none else folP G n (l ++ [z]) (G z)) else folP G n l z
def optD : Option Int → PyData
  | none => .none
  | some z => .int z
def S__law_follow (K : PySem.W.Frag) : DS := fun dvs o R X => ∃ g gl s cs φ, dvs = [.raw (.ref g), .d (.int s)] ∧ o = cOb cs φ ∧ (g, HO.dK (glK gl)) ∈ cs ∧ (∀ p ∈ gl, 0 ≤ p.2 → (getA glKey gl (.inl p.2)).isSome = true) ∧ (getA glKey gl (.inl s)).isSome = true ∧
  R (.d (optD (folP (glF gl) 8 [] s))) o
section
variable {K : Kx} {ρ : List Sl} {o : Ob} {R : RD} {N B C' : RE} {te tv td ta tx : TE} {p : Addr} {cs : List Cell} {φ : Hp → Prop}
end
theorem eqv_ii (a b : Int) : PyData.eqv (.int a) (.int b) = decide (a = b) := by
  with_unfolding_all rfl
end DL

set_option Elab.async false
set_option linter.all false
set_option maxRecDepth 100000
namespace DL
open PySem PySem.Spec PyProof.Rows L2
/-! ### law k22: what a chain of goals means -/
inductive EvN (G : Int → Int) : Int → Int → Nat → Prop
  | stop {i : Int} (h : G i < 0) : EvN G i i 0
  | step {i v : Int} {n : Nat} (h : 0 ≤ G i) (e : EvN G (G i) v n) : EvN G i (i + v) (n + 1)
def Ev (G : Int → Int) (i v : Int) : Prop := ∃ n, EvN G i v n
theorem EvN.uniq {G : Int → Int} {i v : Int} {n : Nat} (h : EvN G i v n) : ∀ {v' n'}, EvN G i v' n' → v = v' ∧ n = n' := by
  induction h with
  | stop h => intro v' n' k; cases k with
    | stop _ => exact ⟨rfl, rfl⟩
    | step h2 _ => omega
  | step h e ih => intro v' n' k; cases k with
    | stop h2 => omega
    | step h2 e2 =>
      obtain ⟨a, b⟩ := ih e2
      exact ⟨by omega, by omega⟩
theorem Ev.uniq {G : Int → Int} {i v v' : Int} : Ev G i v → Ev G i v' → v = v' := fun ⟨_, h⟩ ⟨_, k⟩ => (h.uniq k).1
inductive Rch (G : Int → Int) : Int → Int → Prop
  | one {i : Int} (h : 0 ≤ G i) : Rch G i (G i)
  | more {i j : Int} (r : Rch G i j) (h : 0 ≤ G j) : Rch G i (G j)
theorem Rch.ev {G : Int → Int} {i j : Int} (r : Rch G i j) {v : Int} {n : Nat} (e : EvN G i v n) : ∃ v' n', n' < n ∧ EvN G j v' n' := by
  induction r with
  | one h => cases e with
    | stop h2 => omega
    | step _ e => exact ⟨_, _, Nat.lt_succ_self _, e⟩
  | more r h ih =>
    obtain ⟨v', n', hn, e'⟩ := ih
    cases e' with
    | stop h2 => omega
    | step _ e => exact ⟨_, _, by omega, e⟩
theorem Rch.no {G : Int → Int} {i : Int} (r : Rch G i i) : ∀ v, ¬ Ev G i v := fun v ⟨n, e⟩ => by
  obtain ⟨v', n', hn, e'⟩ := r.ev e
  have := (e.uniq e').2
  omega
theorem Ev.step {G : Int → Int} {i v : Int} (h : 0 ≤ G i) : Ev G (G i) v → Ev G i (i + v) := fun ⟨n, e⟩ => ⟨n + 1, .step h e⟩
theorem kSum_inj {i j : Int} (h : kSum i = kSum j) : i = j := by
  unfold kSum at h
  simpa using h
theorem kTo_sum (i j : Int) : kTo i ≠ kSum j := by
  unfold kTo kSum
  intro h
  have : ("to" : Str) = "sum" := by simpa using (List.cons.inj h).1
  exact absurd this (by decide +kernel)
/-! ### the invariant -/
def EntOk (G : Int → Int) (S : KS) (i : Int) (e : PEn) : Prop :=
  ∃ v, e.val = .int v ∧ e.chg ≤ e.chk ∧ e.chk ≤ S.rev ∧ (∃ rest, e.used = kTo i :: rest) ∧
    (∀ x, getA PIn.k S.ins (kTo i) = some x → x.r ≤ e.chk → (G i < 0 → e.used = [kTo i] ∧ v = i) ∧
      (0 ≤ G i → e.used = [kTo i, kSum (G i)] ∧ ∃ e2 v2, getA PEn.k S.ents (kSum (G i)) = some e2 ∧ e2.val = .int v2 ∧ e.chk ≤ e2.chk ∧ (e2.chg ≤ e.chk → v = i + v2))) ∧
    (e.chk = S.rev → Ev G i v)
structure J (G : Int → Int) (m : Int) (S : KS) : Prop where
  ins : ∀ i, 0 ≤ i → i < m → ∃ x, getA PIn.k S.ins (kTo i) = some x ∧ x.d = .int (G i) ∧ x.r ≤ S.rev
  nsum : ∀ i, getA PIn.k S.ins (kSum i) = none
  ent : ∀ k e, getA PEn.k S.ents k = some e → ∃ i, k = kSum i ∧ 0 ≤ i ∧ i < m ∧ EntOk G S i e
  left : S.left = none
theorem J.congr {G : Int → Int} {m : Int} {S S' : KS} (h : J G m S) (h1 : S'.ins = S.ins) (h2 : S'.ents = S.ents) (h3 : S'.rev = S.rev) (h4 : S'.left = S.left) : J G m S' := by
  obtain ⟨a, b, c, d⟩ := h
  obtain ⟨i1, i2, i3, i4, i5, i6, i7⟩ := S'
  cases h1; cases h2; cases h3; cases h4
  exact ⟨a, b, c, d⟩
theorem J.put {G : Int → Int} {m : Int} {S S' : KS} (h : J G m S) (h1 : S'.ins = S.ins) {ne : PEn} (h2 : S'.ents = putA PEn.k S.ents ne) (h3 : S'.rev = S.rev) (h4 : S'.left = S.left) {i v : Int} (i0 : 0 ≤ i) (im : i < m)
    (hk : ne.k = kSum i) (hv : ne.val = .int v) (hchg : ne.chg ≤ S.rev) (hchk : ne.chk = S.rev) (hev : Ev G i v)
    (hu : (G i < 0 → ne.used = [kTo i] ∧ v = i) ∧ (0 ≤ G i → ne.used = [kTo i, kSum (G i)] ∧ ∃ e2 v2, getA PEn.k S.ents (kSum (G i)) = some e2 ∧ e2.val = .int v2 ∧ e2.chk = S.rev ∧ v = i + v2))
    (hold : getA PEn.k S.ents (kSum i) = none ∨ ∃ o vo, getA PEn.k S.ents (kSum i) = some o ∧ o.val = .int vo ∧ ((ne.chg = o.chg ∧ v = vo) ∨ (ne.chg = S.rev ∧ o.chk ≠ S.rev))) : J G m S' := by
  have gi : ∀ k, getA PIn.k S'.ins k = getA PIn.k S.ins k := fun k => by rw [h1]
  have ge : ∀ k, getA PEn.k S'.ents k = if k = kSum i then some ne else getA PEn.k S.ents k := fun k => by rw [h2, getA_put, hk]
  refine ⟨fun j j0 jm => ?_, fun j => by rw [gi]; exact h.nsum j, fun k e he => ?_, h4.trans h.left⟩
  · obtain ⟨x, a, b, c⟩ := h.ins j j0 jm
    exact ⟨x, by rw [gi]; exact a, b, by rw [h3]; exact c⟩
  rw [ge] at he
  by_cases hki : k = kSum i
  · rw [if_pos hki] at he
    cases he
    refine ⟨i, hki, i0, im, v, hv, by rw [hchk]; exact hchg, by rw [hchk, h3]; exact Int.le_refl _, ?_, fun x hx hxr => ⟨hu.1, fun g0 => ?_⟩, fun _ => hev⟩
    · by_cases g0 : G i < 0
      · exact ⟨[], (hu.1 g0).1⟩
      · exact ⟨_, (hu.2 (by omega)).1⟩
    · obtain ⟨a, e2, v2, b, c, d, f⟩ := hu.2 g0
      have hne : G i ≠ i := fun z => by
        have r : Rch G i i := by
          have := Rch.one (G := G) (i := i) g0
          rw [z] at this; exact this
        exact r.no _ hev
      refine ⟨a, e2, v2, ?_, c, by rw [hchk, d]; exact Int.le_refl _, fun _ => f⟩
      rw [ge, if_neg (fun z => hne (kSum_inj z))]
      exact b
  · rw [if_neg hki] at he
    obtain ⟨j, hj, j0, jm, w, a1, a2, a3, a4, a5, a6⟩ := h.ent k e he
    refine ⟨j, hj, j0, jm, w, a1, a2, by rw [h3]; exact a3, a4, fun x hx hxr => ?_, fun z => a6 (z.trans h3)⟩
    rw [gi] at hx
    obtain ⟨b1, b2⟩ := a5 x hx hxr
    refine ⟨b1, fun g0 => ?_⟩
    obtain ⟨c1, e2, v2, c2, c3, c4, c5⟩ := b2 g0
    refine ⟨c1, ?_⟩
    by_cases hgi : G j = i
    · rw [hgi] at c2
      rw [hgi]
      rcases hold with hn | ⟨o, vo, ho, hvo, hh⟩
      · rw [hn] at c2; cases c2
      · rw [ho] at c2
        have hoe := Option.some.inj c2
        subst hoe
        have hvv : vo = v2 := by rw [hvo] at c3; cases c3; rfl
        refine ⟨ne, v, by rw [ge, if_pos rfl], hv, by rw [hchk]; exact a3, fun hc => ?_⟩
        rcases hh with ⟨d1, d2⟩ | ⟨d1, d2⟩
        · rw [d1] at hc
          rw [d2, hvv]
          exact c5 hc
        · rw [d1] at hc
          have h5 : o.chk ≤ S.rev := by
            obtain ⟨j2, q1, q2, q3, _, _, _, q4, _⟩ := h.ent _ _ ho
            exact q4
          exact (d2 (by omega)).elim
    · refine ⟨e2, v2, ?_, c3, c4, c5⟩
      rw [ge, if_neg (fun z => hgi (kSum_inj z))]
      exact c2
/-! ### one update -/
def Dn : Nat → Nat
  | 0 => 0
  | n + 1 => 2 * Dn n + 1
/-- room for b more -/
def Rm (S : KS) (b : Nat) : Prop := S.done.length + b ≤ lim ∧ S.ents.length + b ≤ lim
structure Same (G : Int → Int) (m : Int) (d : Nat) (gs : List Int) (S S' : KS) : Prop where
  j : J G m S'
  ins : S'.ins = S.ins
  rev : S'.rev = S.rev
  room : ∀ b, Rm S (b + d) → Rm S' b
  keep : ∀ g ∈ gs, getA PEn.k S'.ents (kSum g) = getA PEn.k S.ents (kSum g)
def PostU (G : Int → Int) (m : Int) (d : Nat) (gs : List Int) (S : KS) (i : Int) (res : KR Int × KS) : Prop := match res with
  | (.ok h, S') => Same G m d gs S S' ∧ S'.asked = S.asked ∧ S'.going = S.going ∧ ∃ e, getA PEn.k S'.ents (kSum i) = some e ∧ e.chk = S.rev ∧ e.chg = h
  | (.exc e, S') => e = .cyc ∧ (∀ v, ¬ Ev G i v) ∧ Same G m d gs S S'
  | (.out, _) => False
structure PreU (G : Int → Int) (m : Int) (n : Nat) (gs : List Int) (S : KS) (i : Int) : Prop where
  j : J G m S
  going : S.going = gs.map kSum
  nd : gs.Nodup
  bd : ∀ g ∈ gs, 0 ≤ g ∧ g < m
  rch : ∀ g ∈ gs, Rch G g i
  i0 : 0 ≤ i
  im : i < m
  fuel : m.toNat + 1 ≤ n + gs.length
  a : S.asked.length + n ≤ 100
  g : gs.length + n ≤ 100
  room : Rm S (Dn n)
theorem pigeon : ∀ (m : Nat) (gs : List Int), gs.Nodup → (∀ g ∈ gs, 0 ≤ g ∧ g < m) → gs.length ≤ m
  | 0, gs, _, bd => by
    cases gs with
    | nil => exact Nat.le_refl _
    | cons g r =>
      have := bd g (.head _)
      omega
  | m + 1, gs, nd, bd => by
    by_cases h : (m : Int) ∈ gs
    · have h1 := pigeon m (gs.erase m) (nd.erase _) fun g hg => by
        have h2 := (nd.mem_erase_iff).mp hg
        have h3 := bd g h2.2
        have h4 := h2.1
        omega
      rw [List.length_erase_of_mem h] at h1
      omega
    · have := pigeon m gs nd fun g hg => by
        have h3 := bd g hg
        have h4 : g ≠ m := fun z => h (z ▸ hg)
        omega
      omega
theorem Rm.mono {S : KS} {a b : Nat} (h : Rm S a) (hb : b ≤ a) : Rm S b := ⟨Nat.le_trans (Nat.add_le_add_left hb _) h.1, Nat.le_trans (Nat.add_le_add_left hb _) h.2⟩
/-- the pre of an update one level down, the key among the going ones -/
theorem PreU.down {G : Int → Int} {m : Int} {n : Nat} {gs : List Int} {S S1 : KS} {i : Int} (h : PreU G m (n + 1) gs S i) (cl : ∀ i, 0 ≤ i → i < m → G i < m) (hi : i ∉ gs) (g0 : 0 ≤ G i) (hj : J G m S1) (hgo : S1.going = (gs ++ [i]).map kSum) (ha : S1.asked.length ≤ S.asked.length + 1) (hr : Rm S1 (Dn n)) : PreU G m n (gs ++ [i]) S1 (G i) := by
  refine ⟨hj, hgo, ?_, fun g hg => ?_, fun g hg => ?_, g0, cl i h.i0 h.im, ?_, ?_, ?_, hr⟩
  · rw [List.nodup_append]
    refine ⟨h.nd, by simp, fun a ha b hb => ?_⟩
    rw [List.mem_singleton.mp hb]
    exact fun z => hi (z ▸ ha)
  · rcases List.mem_append.mp hg with hg | hg
    · exact h.bd g hg
    · rw [List.mem_singleton.mp hg]; exact ⟨h.i0, h.im⟩
  · rcases List.mem_append.mp hg with hg | hg
    · exact (h.rch g hg).more g0
    · rw [List.mem_singleton.mp hg]; exact .one g0
  · have := h.fuel
    rw [List.length_append, List.length_singleton]; omega
  · have := h.a; omega
  · have := h.g
    rw [List.length_append, List.length_singleton]; omega
theorem PreU.pos {G : Int → Int} {m : Int} {n : Nat} {gs : List Int} {S : KS} {i : Int} (h : PreU G m (n + 1) gs S i) (hi : i ∉ gs) : 1 ≤ n := by
  have h1 := pigeon m.toNat (gs ++ [i]) (by
    rw [List.nodup_append]
    refine ⟨h.nd, by simp, fun a ha b hb => ?_⟩
    rw [List.mem_singleton.mp hb]
    exact fun z => hi (z ▸ ha)) fun g hg => by
      have : 0 ≤ g ∧ g < m := (List.mem_append.mp hg).elim (h.bd g) fun z => by rw [List.mem_singleton.mp z]; exact ⟨h.i0, h.im⟩
      omega
  rw [List.length_append, List.length_singleton] at h1
  have := h.fuel
  omega
end DL

set_option Elab.async false
set_option linter.all false
set_option maxRecDepth 100000
namespace DL
open PySem PySem.Spec PyProof.Rows L2
theorem PostU.of {G : Int → Int} {m : Int} {gs : List Int} {S S1 : KS} {i : Int} {d1 d2 d : Nat} {res : KR Int × KS} (h1 : S1.ins = S.ins) (h2 : S1.rev = S.rev) (h3 : ∀ b, Rm S (b + d1) → Rm S1 b) (h4 : ∀ g ∈ gs, getA PEn.k S1.ents (kSum g) = getA PEn.k S.ents (kSum g)) (h5 : S1.asked = S.asked) (h6 : S1.going = S.going)
    (h : PostU G m d2 gs S1 i res) (hd : d1 + d2 ≤ d) : PostU G m d gs S i res := by
  obtain ⟨r, S2⟩ := res
  have sm : Same G m d2 gs S1 S2 → Same G m d gs S S2 := fun s => ⟨s.j, s.ins.trans h1, s.rev.trans h2, fun b hb => s.room b (h3 (b + d2) (hb.mono (by omega))), fun g hg => (s.keep g hg).trans (h4 g hg)⟩
  cases r with
  | ok v =>
    obtain ⟨s, a, b, e, e1, e2, e3⟩ := h
    exact ⟨sm s, a.trans h5, b.trans h6, e, e1, e2.trans h2, e3⟩
  | exc e => exact ⟨h.1, h.2.1, sm h.2.2⟩
  | out => exact h
end DL

set_option Elab.async false
set_option linter.all false
set_option maxRecDepth 100000
namespace DL
open PySem PySem.Spec PyProof.Rows L2
/-! ### kept values are fresh: any computation whose keys go down in rank -/
/-- what a computation may ask and give -/
structure Kind where
  comp : Ky → Prog
  rk : Ky → Nat
  ok : Ky → Prop
  W : Ky → PyData → Prop
  bnd : Nat
  eq : ∀ k a b, W k a → W k b → PyData.eqv a b = true → a = b
  sh : ∀ k a, W k a → SeqAt.shaped a = true
/-- the program asks at most b keys of a rank below r and gives a value of the key k -/
def GP (T : Kind) (k : Ky) (r : Nat) : Nat → Prog → Prop
  | _, .ret v => T.W k v
  | b + 1, .ask u c => T.ok u ∧ T.rk u < r ∧ ∀ d, T.W u d → GP T k r b (c d)
  | 0, .ask _ _ => False
  | _, .bad => False
/-- the program, answered as the list says, gives v -/
inductive RunsBy : Prog → List (Ky × PyData) → PyData → Prop
  | ret {v : PyData} : RunsBy (.ret v) [] v
  | ask {k : Ky} {c : PyData → Prog} {d v : PyData} {l : List (Ky × PyData)} (h : RunsBy (c d) l v) : RunsBy (.ask k c) ((k, d) :: l) v
theorem RunsBy.uniq {p : Prog} {l : List (Ky × PyData)} {v : PyData} {t : Ky → PyData} (h : RunsBy p l v) : (∀ q ∈ l, t q.1 = q.2) → ∀ {l' v'}, RunsBy p l' v' → (∀ q ∈ l', t q.1 = q.2) → v = v' := by
  induction h with
  | ret => intro _ l' v' h' _; cases h'; rfl
  | ask h ih =>
    intro hl l' v' h' hl'
    cases h' with
    | ask h2 =>
      have e1 := hl _ (.head _)
      have e2 := hl' _ (.head _)
      have e3 := e1.symm.trans e2
      subst e3
      exact ih (fun q hq => hl q (.tail _ hq)) h2 fun q hq => hl' q (.tail _ hq)
/-- the keys in the order in which they were asked first -/
def usedOf (l : List (Ky × PyData)) : List Ky := l.foldl (fun a q => putA id a q.1) []
/-- an entry: answered as at its check, and what is not newer than the check is as it was -/
def EntG (T : Kind) (t : Ky → PyData) (S : KS) (k : Ky) (e : PEn) : Prop :=
  e.chg ≤ e.chk ∧ e.chk ≤ S.rev ∧ T.W k e.val ∧ ∃ l, RunsBy (T.comp k) l e.val ∧ e.used = usedOf l ∧
    (∀ q ∈ l, T.ok q.1 ∧ T.rk q.1 < T.rk k ∧ T.W q.1 q.2 ∧ (∀ x, getA PIn.k S.ins q.1 = some x → x.r ≤ e.chk → x.d = q.2) ∧ (∀ e2, getA PEn.k S.ents q.1 = some e2 → e2.chg ≤ e.chk → e2.val = q.2)) ∧
    (e.chk = S.rev → (∀ q ∈ l, t q.1 = q.2) ∧ e.val = t k)
structure JG (T : Kind) (t : Ky → PyData) (S : KS) : Prop where
  ins : ∀ k x, getA PIn.k S.ins k = some x → t k = x.d ∧ T.W k x.d ∧ x.r ≤ S.rev
  node : ∀ k, T.ok k → getA PIn.k S.ins k = none → GP T k (T.rk k) T.bnd (T.comp k) ∧ ∃ l, RunsBy (T.comp k) l (t k) ∧ ∀ q ∈ l, t q.1 = q.2
  ent : ∀ k e, getA PEn.k S.ents k = some e → T.ok k ∧ getA PIn.k S.ins k = none ∧ EntG T t S k e
theorem JG.congr {T : Kind} {t : Ky → PyData} {S S' : KS} (h : JG T t S) (h1 : S'.ins = S.ins) (h2 : S'.ents = S.ents) (h3 : S'.rev = S.rev) : JG T t S' := by
  obtain ⟨a, b, c⟩ := h
  obtain ⟨i1, i2, i3, i4, i5, i6, i7⟩ := S'
  cases h1; cases h2; cases h3
  exact ⟨a, b, c⟩
theorem JG.put {T : Kind} {t : Ky → PyData} {S S' : KS} (h : JG T t S) (h1 : S'.ins = S.ins) {ne : PEn} (h2 : S'.ents = putA PEn.k S.ents ne) (h3 : S'.rev = S.rev) {k : Ky} (hok : T.ok k) (hin : getA PIn.k S.ins k = none) (hk : ne.k = k)
    (hchg : ne.chg ≤ S.rev) (hchk : ne.chk = S.rev) (hv : ne.val = t k) (hW : T.W k ne.val) {l : List (Ky × PyData)} (hr : RunsBy (T.comp k) l ne.val) (hu : ne.used = usedOf l) (hl : ∀ q ∈ l, T.ok q.1 ∧ T.rk q.1 < T.rk k ∧ T.W q.1 q.2 ∧ t q.1 = q.2 ∧ (∀ e2, getA PEn.k S.ents q.1 = some e2 → e2.chk = S.rev))
    (hold : ne.chg = S.rev ∨ ∃ o, getA PEn.k S.ents k = some o ∧ ne.chg = o.chg ∧ ne.val = o.val) : JG T t S' := by
  have gi : ∀ j, getA PIn.k S'.ins j = getA PIn.k S.ins j := fun j => by rw [h1]
  have ge : ∀ j, getA PEn.k S'.ents j = if j = k then some ne else getA PEn.k S.ents j := fun j => by rw [h2, getA_put, hk]
  refine ⟨fun j x hx => ?_, fun j hj hn => ?_, fun j e he => ?_⟩
  · rw [gi] at hx
    rw [h3]
    exact h.ins j x hx
  · rw [gi] at hn
    exact h.node j hj hn
  rw [ge] at he
  by_cases hjk : j = k
  · rw [if_pos hjk] at he
    cases he
    subst hjk
    refine ⟨hok, by rw [gi]; exact hin, by rw [hchk]; exact hchg, by rw [hchk, h3]; exact Int.le_refl _, hW, l, hr, hu, fun q hq => ?_, fun _ => ⟨fun q hq => (hl q hq).2.2.2.1, hv⟩⟩
    obtain ⟨a1, a2, a3, a4, a5⟩ := hl q hq
    refine ⟨a1, a2, a3, fun x hx _ => ?_, fun e2 he2 _ => ?_⟩
    · rw [gi] at hx
      exact (h.ins _ x hx).1.symm.trans a4
    · rw [ge, if_neg (fun z => by rw [z] at a2; exact Nat.lt_irrefl _ a2)] at he2
      obtain ⟨_, _, _, _, _, l2, _, _, _, fr⟩ := h.ent _ _ he2
      exact (fr (a5 e2 he2)).2.trans a4
  · rw [if_neg hjk] at he
    obtain ⟨b1, b2, c1, c2, c3, l2, c4, c5, c6, c7⟩ := h.ent j e he
    refine ⟨b1, by rw [gi]; exact b2, c1, by rw [h3]; exact c2, c3, l2, c4, c5, fun q hq => ?_, fun z => c7 (z.trans h3)⟩
    obtain ⟨a1, a2, a3, a4, a5⟩ := c6 q hq
    refine ⟨a1, a2, a3, fun x hx => a4 x (by rw [← gi]; exact hx), fun e2 he2 hc => ?_⟩
    rw [ge] at he2
    by_cases hqk : q.1 = k
    · rw [if_pos hqk] at he2
      cases he2
      rcases hold with ho | ⟨o, ho, ho1, ho2⟩
      · have hce : e.chk = S.rev := by omega
        rw [hv, ← hqk]
        exact (c7 hce).1 q hq
      · rw [ho2]
        rw [← hqk] at ho
        exact a5 o ho (by rw [← ho1]; exact hc)
    · rw [if_neg hqk] at he2
      exact a5 e2 he2 hc
end DL

set_option Elab.async false
set_option linter.all false
set_option maxRecDepth 100000
namespace DL
open PySem PySem.Spec PyProof.Rows L2
/-- room for b more -/
def RmG (S : KS) (b : Nat) : Prop := S.done.length + b ≤ lim ∧ S.ents.length + b ≤ lim
theorem RmG.mono {S : KS} {a b : Nat} (h : RmG S a) (hb : b ≤ a) : RmG S b := ⟨Nat.le_trans (Nat.add_le_add_left hb _) h.1, Nat.le_trans (Nat.add_le_add_left hb _) h.2⟩
def Dg (b : Nat) : Nat → Nat
  | 0 => 0
  | n + 1 => 2 * (b * Dg b n) + 1
structure SameG (T : Kind) (t : Ky → PyData) (d : Nat) (S S' : KS) : Prop where
  j : JG T t S'
  ins : S'.ins = S.ins
  rev : S'.rev = S.rev
  room : ∀ b, RmG S (b + d) → RmG S' b
  keep : ∀ g ∈ S.going, getA PEn.k S'.ents g = getA PEn.k S.ents g
  fr : ∀ j e, getA PEn.k S.ents j = some e → e.chk = S.rev → getA PEn.k S'.ents j = some e
  left : S.left = none → S'.left = none
theorem SameG.refl {T : Kind} {t : Ky → PyData} {d : Nat} {S : KS} (h : JG T t S) : SameG T t d S S := ⟨h, rfl, rfl, fun b hb => hb.mono (Nat.le_add_right _ _), fun _ _ => rfl, fun _ _ h _ => h, id⟩
theorem SameG.trans {T : Kind} {t : Ky → PyData} {d1 d2 d : Nat} {S S1 S2 : KS} (h : SameG T t d1 S S1) (k : SameG T t d2 S1 S2) (hg : ∀ g ∈ S.going, g ∈ S1.going) (hd : d1 + d2 ≤ d) : SameG T t d S S2 :=
  ⟨k.j, k.ins.trans h.ins, k.rev.trans h.rev, fun b hb => k.room b (h.room (b + d2) (hb.mono (by omega))), fun g hgs => (k.keep g (hg g hgs)).trans (h.keep g hgs), fun j e he hc => k.fr j e (h.fr j e he hc) (hc.trans h.rev.symm), fun z => k.left (h.left z)⟩
theorem SameG.mono {T : Kind} {t : Ky → PyData} {d d' : Nat} {S S' : KS} (h : SameG T t d S S') (hd : d ≤ d') : SameG T t d' S S' := ⟨h.j, h.ins, h.rev, fun b hb => h.room b (hb.mono (by omega)), h.keep, h.fr, h.left⟩
/-- only the going, the asked and the rest of the limit differ at the start -/
theorem SameG.from {T : Kind} {t : Ky → PyData} {d : Nat} {S S1 S' : KS} (h : SameG T t d S1 S') (h1 : S1.ins = S.ins) (h2 : S1.ents = S.ents) (h3 : S1.rev = S.rev) (h4 : S1.done = S.done) (h5 : S.left = none → S1.left = none) (hg : ∀ g ∈ S.going, g ∈ S1.going) : SameG T t d S S' :=
  ⟨h.j, h.ins.trans h1, h.rev.trans h3, fun b hb => h.room b ⟨by rw [h4]; exact hb.1, by rw [h2]; exact hb.2⟩, fun g hgs => (h.keep g (hg g hgs)).trans (by rw [h2]), fun j e he hc => h.fr j e (by rw [h2]; exact he) (hc.trans h3.symm), fun z => h.left (h5 z)⟩
def PostG (T : Kind) (t : Ky → PyData) (d : Nat) (S : KS) (k : Ky) (res : KR Int × KS) : Prop := match res with
  | (.ok h, S') => SameG T t d S S' ∧ S'.asked = S.asked ∧ S'.going = S.going ∧ (∀ x, getA PIn.k S.ins k = some x → h = x.r) ∧ (getA PIn.k S.ins k = none → ∃ e, getA PEn.k S'.ents k = some e ∧ e.chk = S.rev ∧ e.chg = h)
  | (.exc e, S') => e = .canc ∧ S.left ≠ none ∧ SameG T t d S S'
  | (.out, _) => False
structure PreG (T : Kind) (t : Ky → PyData) (n : Nat) (S : KS) (k : Ky) : Prop where
  j : JG T t S
  ok : T.ok k
  rk : T.rk k < n
  go : ∀ g ∈ S.going, T.rk k < T.rk g
  a : S.asked.length + n ≤ 1000
  g : S.going.length + n ≤ 1000
  room : RmG S (Dg T.bnd n)
end DL

set_option Elab.async false
set_option linter.all false
set_option maxRecDepth 100000
namespace DL
open PySem PySem.Spec PyProof.Rows L2
end DL

set_option Elab.async false
set_option linter.all false
set_option maxRecDepth 100000
namespace DL
open PySem PySem.Spec PyProof.Rows L2
/-! ### one question from outside -/
structure G0 (T : Kind) (t : Ky → PyData) (b : Nat) (S : KS) : Prop where
  j : JG T t S
  g : S.going = []
  a : S.asked = []
  room : RmG S b
end DL

set_option Elab.async false
set_option linter.all false
set_option maxRecDepth 100000
namespace DL
open PySem PySem.Spec PyProof.Rows L2
/-! ### law k21: its computation -/
def kIn (i : Int) : Ky := [.inr "in", .inl i]
def kNode (l s : Int) : Ky := [.inr "node", .inl l, .inl s]
def hd1 : PyData → Option Int
  | .tuple (.int a :: _) => some a
  | _ => none
def fin21 (f r : Int) : Prog := .ret (.tuple [.int (r.fmod 3), .int (f.fmod 2)])
def d21 (f r : Int) (d : PyData) : Prog := match hd1 d with
  | some a => fin21 f (r + 2 * a)
  | none => .bad
def b21 (l s f r : Int) : Prog := if f.fmod 2 = 0 then .ask (kNode (l - 1) ((s + 3).fmod 6)) (d21 f r) else fin21 f r
def e21 (l s f : Int) (d : PyData) : Prog := match hd1 d with
  | some a => b21 l s f (f + a)
  | none => .bad
def a21 (l s f : Int) : Prog := if 0 < f.fmod 3 then .ask (kNode (l - 1) ((s * 7 + f).fmod 6)) (e21 l s f) else b21 l s f f
def c21 (l s : Int) : PyData → Prog
  | .int f => if l = 0 then .ret (.tuple [.int (f.fmod 4), .int s]) else a21 l s f
  | _ => .bad
def comp21 : Ky → Prog
  | [.inr _, .inl l, .inl s] => .ask (kIn (s.fmod 4)) (c21 l s)
  | _ => .bad
/-- the keys that the law asks for, their ranks and their values -/
def rk21 : Ky → Nat
  | [.inr _, .inl l, .inl _] => l.toNat + 1
  | _ => 0
def isI (d : PyData) : Prop := ∃ i : Int, d = .int i
def isP (d : PyData) : Prop := ∃ i j : Int, d = .tuple [.int i, .int j]
def ok21 (k : Ky) : Prop := (∃ i, 0 ≤ i ∧ i < 4 ∧ k = kIn i) ∨ ∃ l s, 0 ≤ l ∧ l < 4 ∧ 0 ≤ s ∧ s < 6 ∧ k = kNode l s
def W21 (k : Ky) (d : PyData) : Prop := (k.length = 2 ∧ isI d) ∨ (k.length = 3 ∧ isP d)
theorem eqv_pp (a b c d : Int) : PyData.eqv (.tuple [.int a, .int b]) (.tuple [.int c, .int d]) = (decide (a = c) && (decide (b = d) && true)) := by
  with_unfolding_all rfl
theorem shp_pair (a b : Int) : SeqAt.shaped (.tuple [.int a, .int b]) = true := (shp_tup (n := 0) fun d hd => by
  have : d = .int a ∨ d = .int b := by simpa using hd
  rcases this with rfl | rfl <;> exact shp_int).shaped
def T21 : Kind where
  comp := comp21
  rk := rk21
  ok := ok21
  W := W21
  bnd := 3
  eq := fun k a b ha hb h => by
    rcases ha with ⟨h1, i, rfl⟩ | ⟨h1, i, j, rfl⟩ <;> rcases hb with ⟨h2, i2, rfl⟩ | ⟨h2, i2, j2, rfl⟩
    · rw [eqv_ii] at h
      rw [of_decide_eq_true h]
    · omega
    · omega
    · rw [eqv_pp] at h
      simp at h
      rw [h.1, h.2]
  sh := fun k a ha => by
    rcases ha with ⟨_, i, rfl⟩ | ⟨_, i, j, rfl⟩
    · exact (shp_int (n := 0)).shaped
    · exact shp_pair _ _
end DL

set_option Elab.async false
set_option linter.all false
set_option maxRecDepth 100000
namespace DL
open PySem PySem.Spec PyProof.Rows L2
/-! ### law k21: the true values -/
def val21 (G : Int → Int) : Nat → Int → Int × Int
  | 0, s => ((G (s.fmod 4)).fmod 4, s)
  | n + 1, s =>
    let f := G (s.fmod 4)
    let r := if 0 < f.fmod 3 then f + (val21 G n ((s * 7 + f).fmod 6)).1 else f
    let r := if f.fmod 2 = 0 then r + 2 * (val21 G n ((s + 3).fmod 6)).1 else r
    (r.fmod 3, f.fmod 2)
def pD (p : Int × Int) : PyData := .tuple [.int p.1, .int p.2]
def t21 (G : Int → Int) : Ky → PyData
  | [_, .inl i] => .int (G i)
  | [_, .inl l, .inl s] => pD (val21 G l.toNat s)
  | _ => .none
/-- between the calls: the four inputs are there -/
structure L21 (G : Int → Int) (m : Int) (b : Nat) (S : KS) : Prop where
  g : G0 T21 (t21 G) b S
  ins : ∀ i, 0 ≤ i → i < m → getA PIn.k S.ins (kIn i) ≠ none
  only : ∀ k, getA PIn.k S.ins k ≠ none → ∃ i, k = kIn i
end DL

set_option Elab.async false
set_option linter.all false
set_option maxRecDepth 100000
namespace DL
open PySem PySem.Spec PyProof.Rows L2
/-- between the calls -/
structure J0 (G : Int → Int) (m : Int) (b : Nat) (S : KS) : Prop where
  j : J G m S
  g : S.going = []
  a : S.asked = []
  room : Rm S b
theorem put22 {G G' : Int → Int} {m m' : Int} {b : Nat} {S : KS} {i g : Int} (h : J0 G m b S) (hm : m ≤ m') (hi : ∀ j, 0 ≤ j → j < m' → j ≠ i → j < m) (hG : ∀ j, j ≠ i → G' j = G j) (hgi : G' i = g) (i0 : 0 ≤ i) (him : i < m ∨ getA PIn.k S.ins (kTo i) = none) :
    J0 G' m' b (putP S (kTo i) (.int g)) := by
  have hno : dropA PEn.k S.ents (kTo i) = S.ents := by
    have hn : getA PEn.k S.ents (kTo i) = none := by
      cases e : getA PEn.k S.ents (kTo i) with
      | none => rfl
      | some x =>
        obtain ⟨j, hj, _⟩ := h.j.ent _ _ e
        exact (kTo_sum i j hj).elim
    unfold getA at hn
    unfold dropA
    rw [List.find?_eq_none] at hn
    exact List.filter_eq_self.mpr fun x hx => by have := hn x hx; simpa using this
  have hJ := h.j
  unfold putP
  rw [hno]
  by_cases c : eqO (getA PIn.k S.ins (kTo i)) (.int g) = true
  · rw [if_pos c]
    have him2 : i < m := him.elim id fun z => by rw [z] at c; cases c
    obtain ⟨x, hx, hxd, hxr⟩ := hJ.ins i i0 him2
    rw [hx] at c
    have c : PyData.eqv x.d (.int g) = true := c
    rw [hxd, eqv_ii] at c
    have hGi : G i = g := of_decide_eq_true c
    have hGG : G' = G := funext fun j => by
      by_cases e : j = i
      · rw [e, hgi, hGi]
      · exact hG j e
    rw [hGG]
    refine ⟨⟨fun j j0 jm => ?_, hJ.nsum, fun k e he => ?_, hJ.left⟩, h.g, h.a, h.room⟩
    · by_cases e : j = i
      · exact hJ.ins j j0 (by omega)
      · exact hJ.ins j j0 (hi j j0 jm e)
    · obtain ⟨j, a, b, c, d⟩ := hJ.ent k e he
      exact ⟨j, a, b, by omega, d⟩
  · rw [if_neg c]
    have gi : ∀ k, getA PIn.k (putA PIn.k S.ins ⟨kTo i, .int g, S.rev + 1⟩) k = if k = kTo i then some ⟨kTo i, .int g, S.rev + 1⟩ else getA PIn.k S.ins k := fun k => getA_put k
    have kt : ∀ j, kTo j = kTo i → j = i := fun j e => by unfold kTo at e; simpa using e
    refine ⟨⟨fun j j0 jm => ?_, fun j => ?_, fun k e he => ?_, hJ.left⟩, h.g, h.a, h.room⟩
    · by_cases e : j = i
      · refine ⟨⟨kTo i, .int g, S.rev + 1⟩, ?_, ?_, Int.le_refl _⟩
        · exact (gi _).trans (if_pos (by rw [e]))
        · rw [e, hgi]
      · obtain ⟨x, a, b, c⟩ := hJ.ins j j0 (hi j j0 jm e)
        refine ⟨x, (gi _).trans ((if_neg fun z => e (kt j z)).trans a), by rw [hG j e]; exact b, ?_⟩
        show x.r ≤ S.rev + 1
        omega
    · exact (gi _).trans ((if_neg fun z => kTo_sum i j z.symm).trans (hJ.nsum j))
    · obtain ⟨j, a, j0, jm, w, b1, b2, b3, b4, b5, b6⟩ := hJ.ent k e he
      refine ⟨j, a, j0, by omega, w, b1, b2, ?_, b4, fun x hx hxr => ?_, fun z => ?_⟩
      · show e.chk ≤ S.rev + 1
        omega
      · have hx := (gi _).symm.trans hx
        by_cases ej : j = i
        · rw [if_pos (by rw [ej])] at hx
          cases hx
          have hxr : S.rev + 1 ≤ e.chk := hxr
          omega
        · rw [if_neg fun z => ej (kt j z)] at hx
          have := b5 x hx hxr
          rw [hG j ej]
          exact this
      · have z : e.chk = S.rev + 1 := z
        omega
end DL

set_option Elab.async false
set_option linter.all false
set_option maxRecDepth 100000
namespace DL
open PySem PySem.Spec PyProof.Rows L2
section
variable {K : Kx} {ρ : List Sl} {o : Ob} {R : RD} {N B C' : RE} {te tv td ta tx : TE} {p : Addr} {cs : List Cell} {φ : Hp → Prop}
end
section
variable {K : PySem.W.Frag} {Kc Ec a p : Addr} {y y' : HO} {C : KC} {L : List Cell} {kn : List (Addr × Ky)} {ex : Hp → Prop}
end
section
variable {K : Kx} {ρ : List Sl} {o : Ob} {R : RD} {N B C : RE} {ts : TS} {i : Nat}
theorem xs_pubT {ns : List Int} {a l s t : Int} (hi : ρ[i]? = some (.own (.dic (tapeKvs ns a l s t)))) (inv : TInv ns a l s t) (h : ∀ τ, XS K ts (ρ.set i (.raw (.ref τ))) (tapeOb K.K τ) N R B C) : XS K ts ρ o N R B C := fun G σ H e D qn qr qb qc => by
  obtain ⟨p, y, h1, h2, h3, ok, nf⟩ := e.own_at hi
  obtain ⟨kvs, rfl, kv⟩ := dic_rep ok
  have hl : i < ρ.length := (List.getElem?_eq_some_iff.mp hi).1
  have own : Own ρ σ p := ⟨i, ⟨_, hi⟩, h1⟩
  have back : ∀ j q, OwnAt (ρ.set i (.raw (.ref p))) σ j q → OwnAt ρ σ j q ∧ j ≠ i := fun j q ⟨⟨c, hc⟩, hs⟩ => by
    by_cases hj : j = i
    · subst hj; rw [List.getElem?_set_self hl] at hc; cases hc
    · rw [List.getElem?_set_ne (Ne.symm hj)] at hc; exact ⟨⟨⟨c, hc⟩, hs⟩, hj⟩
  have s0 : Stp ρ σ o G H (ρ.set i (.raw (.ref p))) σ (tapeOb K.K p) G H := ⟨Sub.refl, fun _ _ h _ _ => h, fun _ h _ _ _ => h, fun a ha => .inr (.inr (by have : a = p := ha; rw [this]; exact own)), fun a ⟨j, hq⟩ => .inl ⟨j, (back j a hq).1⟩⟩
  have e2 : En K (tapeOb K.K p) (ρ.set i (.raw (.ref p))) G σ H := by
    refine ⟨⟨⟨e.wd.sub, fun a ha => ?_, fun a ha => ?_, ⟨ns, _, _, _, _, inv, kvs, h3, kv⟩⟩, by simpa using e.len, fun j s' hj => ?_, fun j k q a b => e.dis j k q (back j q a).1 (back k q b).1, fun q ⟨j, hq⟩ z => ?_⟩, e.wo.step s0⟩
    · have : a = p := ha
      rw [this]; exact h2
    · have : a = p := ha
      rw [this]; exact ⟨_, h3, trivial⟩
    · by_cases hji : j = i
      · subst hji
        rw [List.getElem?_set_self hl] at hj
        cases hj
        exact ⟨_, h1, rfl⟩
      · rw [List.getElem?_set_ne (Ne.symm hji)] at hj
        exact e.sl j s' hj
    · have : q = p := z
      subst this
      exact (back j q hq).2 (e.dis j i q (back j q hq).1 ⟨⟨_, hi⟩, h1⟩)
  exact h p G σ H e2 D (fun _ _ _ _ _ n s e => qn _ _ _ _ _ n (s0.trans s) e) (fun _ _ _ _ _ _ _ n s e ok fr => qr _ _ _ _ _ _ _ n (s0.trans s) e ok (fr.back s0)) (fun _ _ _ _ _ n s e => qb _ _ _ _ _ n (s0.trans s) e) (fun _ _ _ _ _ n s e => qc _ _ _ _ _ n (s0.trans s) e)
end
theorem glF_put (gl : List (Int × Int)) (i v j : Int) : glF (putA glKey gl (i, v)) j = if j = i then v else glF gl j := by
  unfold glF
  rw [getA_put]
  by_cases h : j = i
  · rw [if_pos h, if_pos (show (Sum.inl j : L2.Key) = glKey (i, v) by rw [h]; rfl)]
  · rw [if_neg h, if_neg (show ¬ (Sum.inl j : L2.Key) = glKey (i, v) from fun z => h (Sum.inl.inj z))]

/-! ### what holds between the steps of the law -/
structure GL (M : Int) (k : Int) (gl : List (Int × Int)) : Prop where
  has : ∀ j, 0 ≤ j → j < k → (getA glKey gl (.inl j)).isSome = true
  lt : ∀ p ∈ gl, p.2 < M
  len : (gl.length : Int) ≤ 20
theorem GL.put {M k k' : Int} {gl : List (Int × Int)} (h : GL M k gl) {i v : Int} (hk : ∀ j, 0 ≤ j → j < k' → j ≠ i → j < k) (hv : v < M) (hl : ((putA glKey gl (i, v)).length : Int) ≤ 20) : GL M k' (putA glKey gl (i, v)) := by
  refine ⟨fun j j0 jk => ?_, fun p hp => ?_, hl⟩
  · rw [getA_put]
    by_cases e : j = i
    · rw [if_pos (show (Sum.inl j : L2.Key) = glKey (i, v) by rw [e]; rfl)]; rfl
    · rw [if_neg (show ¬ (Sum.inl j : L2.Key) = glKey (i, v) from fun z => e (Sum.inl.inj z))]
      exact h.has j j0 (hk j j0 jk e)
  · rcases putA_mem hp with rfl | hp
    · exact hv
    · exact h.lt p hp
theorem GL.f {M k : Int} {gl : List (Int × Int)} (h : GL M k gl) (M0 : 0 < M) (i : Int) : glF gl i < M := by
  unfold glF
  cases e : getA glKey gl (.inl i) with
  | none => exact M0
  | some p => exact h.lt p (getA_mem e).1
/-- the state: b rooms left, at most n inputs -/
structure LI (gl : List (Int × Int)) (M k : Int) (b n : Nat) (S : KS) : Prop where
  j : J0 (glF gl) k b S
  no : ∀ j, k ≤ j → getA PIn.k S.ins (kTo j) = none
  len : S.ins.length ≤ n
  sh : ∀ x ∈ S.ins, SeqAt.shaped x.d = true
  g : GL M k gl
theorem putP_ins (S : KS) (k : Ky) (v : PyData) : (putP S k v).ins.length ≤ S.ins.length + 1 ∧ (∀ x ∈ (putP S k v).ins, x ∈ S.ins ∨ x.d = v) ∧ ∀ j, j ≠ k → getA PIn.k (putP S k v).ins j = getA PIn.k S.ins j := by
  unfold putP
  split
  · exact ⟨Nat.le_succ _, fun x hx => .inl hx, fun _ _ => rfl⟩
  · refine ⟨putA_len (key := PIn.k) S.ins _, fun x hx => (putA_mem hx).elim (fun e => .inr (by rw [e])) .inl, fun j hj => ?_⟩
    show getA PIn.k (putA PIn.k S.ins _) j = _
    rw [getA_put, if_neg hj]
theorem kTo_inj {i j : Int} (h : kTo i = kTo j) : i = j := by
  unfold kTo at h
  simpa using h
theorem LI.put {gl : List (Int × Int)} {M k k' : Int} {b n : Nat} {S : KS} (h : LI gl M k b n S) {i v : Int} (i0 : 0 ≤ i) (hkk : k ≤ k') (hik : i < k') (hk : ∀ j, 0 ≤ j → j < k' → j ≠ i → j < k) (him : i < k ∨ i = k) (hv : v < M) (hl : ((putA glKey gl (i, v)).length : Int) ≤ 20) :
    LI (putA glKey gl (i, v)) M k' b (n + 1) (putP S (kTo i) (.int v)) := by
  obtain ⟨p1, p2, p3⟩ := putP_ins S (kTo i) (.int v)
  refine ⟨put22 h.j hkk hk (fun j hj => by rw [glF_put, if_neg hj]) (by rw [glF_put, if_pos rfl]) i0 (him.imp id fun e => h.no i (by omega)), fun j hj => ?_, by have := h.len; omega, fun x hx => ?_, h.g.put hk hv hl⟩
  · rw [p3 _ fun z => by have := kTo_inj z; omega]
    exact h.no j (by omega)
  · rcases p2 x hx with hx | hx
    · exact h.sh x hx
    · rw [hx]; exact (shp_int (n := 0)).shaped

theorem LI.nil {M : Int} {S : KS} (h : S = ⟨[], [], [], [], [], 0, none⟩) : LI [] M ((0 : Nat) : Int) 2040 0 S := by
  subst h
  refine ⟨⟨⟨fun i h0 h1 => by omega, fun i => rfl, fun k e he => (nomatch he), rfl⟩, rfl, rfl, ⟨by decide, by decide⟩⟩, fun j _ => rfl, Nat.le_refl _, fun _ h => (nomatch h), ⟨fun j h0 h1 => by omega, fun _ h => (nomatch h), by decide⟩⟩
theorem LI.room {gl : List (Int × Int)} {M k : Int} {b b' n n' : Nat} {S : KS} (h : LI gl M k b n S) (hb : b' ≤ b) (hn : n ≤ n') : LI gl M k b' n' S :=
  ⟨⟨h.j.j, h.j.g, h.j.a, h.j.room.mono hb⟩, h.no, Nat.le_trans h.len hn, h.sh, h.g⟩

theorem LI.ask {gl : List (Int × Int)} {M k : Int} {b b' n : Nat} {S S' : KS} (h : LI gl M k b n S) (j : J0 (glF gl) k b' S') (hi : S'.ins = S.ins) : LI gl M k b' n S' :=
  ⟨j, fun j hj => by rw [hi]; exact h.no j hj, by rw [hi]; exact h.len, by rw [hi]; exact h.sh, h.g⟩
end DL

set_option Elab.async false
set_option linter.all false
set_option maxRecDepth 100000
namespace DL
open PySem PySem.Spec PyProof.Rows L2 TL
theorem ble_f {a b : Nat} (h : b < a) : Nat.ble a b = false := by
  cases e : Nat.ble a b with
  | false => rfl
  | true => exact absurd (Nat.ble_eq.mp e) (by omega)
theorem mem_tab {L : List Nat} {p : Nat → Bool} (h1 : (L.all fun c => decide (c < 128)) = true) (h2 : ((List.range 128).all fun c => decide (c ∈ L) == p c) = true) (h3 : ∀ c, 128 ≤ c → p c = false) (c : Nat) : decide (c ∈ L) = p c := by
  by_cases h : c < 128
  · have := List.all_eq_true.mp h2 c (List.mem_range.mpr h)
    exact eq_of_beq this
  · rw [h3 c (by omega)]
    refine decide_eq_false fun hm => h ?_
    exact of_decide_eq_true (List.all_eq_true.mp h1 c hm)
/-! ### signs that may stand in a text -/
def okB (c : Nat) : Bool := c == 10 || (Nat.ble 32 c && Nat.ble c 126 && c != 37)
theorem okB_big (c : Nat) (h : 128 ≤ c) : okB c = false := by
  unfold okB
  rw [ble_f (show 126 < c by omega), Bool.and_false, Bool.false_and, Bool.or_false]
  simp; omega
theorem okB_okc {c : Nat} (h : okc c) : okB c = true := by
  unfold okB
  rcases h with h | ⟨h1, h2, h3⟩
  · subst h; rfl
  · rw [Nat.ble_eq.mpr h1, Nat.ble_eq.mpr h2]
    simp [h3]
def S_has_right_characters (_ : PySem.W.Frag) : DS := fun dvs o R X => ∃ t : Str, dvs = [.d (.str t)] ∧ R (.d (.bool ((tl t).all okB))) o
theorem all_take {p : Nat → Bool} {l : List Nat} {k c : Nat} (h : l[k]? = some c) (ha : (l.take k).all p = true) (hp : p c = true) : (l.take (k + 1)).all p = true := by
  rw [take_snoc h, List.all_append, ha]
  simp [hp]
theorem all_not {p : Nat → Bool} {l : List Nat} {k c : Nat} (h : l[k]? = some c) (hp : p c = false) : l.all p = false := by
  rw [List.all_eq_false]
  exact ⟨c, List.mem_of_getElem? h, by rw [hp]; decide⟩
theorem app_tl (a b : Str) : tl (a ++ b) = tl a ++ tl b := by
  show (a ++ b).cps.toList = _
  have : (a ++ b).cps = a.cps ++ b.cps := rfl
  rw [this, Array.toList_append]
end DL

set_option Elab.async false
set_option linter.all false
set_option maxRecDepth 100000
namespace DL
open PySem PySem.Spec PyProof.Rows L2 TL
/-! ### tokens -/
def isLet (c : Nat) : Bool := (Nat.ble 97 c && Nat.ble c 122) || (Nat.ble 65 c && Nat.ble c 90)
def isDig (c : Nat) : Bool := Nat.ble 48 c && Nat.ble c 57
def isNam (c : Nat) : Bool := isLet c || isDig c || c == 95
def isSgn (c : Nat) : Bool := (c == 40) || (c == 41) || (c == 91) || (c == 93) || (c == 44) || (c == 58) || (c == 46) || (c == 61) || (c == 60) || (c == 43) || (c == 45) || (c == 42) || (c == 47)
abbrev mkS (l : List Nat) : Str := ⟨l.toArray⟩
theorem isLet_big (c : Nat) (h : 128 ≤ c) : isLet c = false := by
  unfold isLet
  rw [ble_f (show 122 < c by omega), ble_f (show 90 < c by omega), Bool.and_false, Bool.and_false]; rfl
theorem isDig_big (c : Nat) (h : 128 ≤ c) : isDig c = false := by
  unfold isDig
  rw [ble_f (show 57 < c by omega), Bool.and_false]
theorem isNam_big (c : Nat) (h : 128 ≤ c) : isNam c = false := by
  unfold isNam
  rw [isLet_big c h, isDig_big c h]
  have : (c == 95) = false := by simp; omega
  rw [this]; rfl
theorem isSgn_big (c : Nat) (h : 128 ≤ c) : isSgn c = false := by
  unfold isSgn
  have e : ∀ n : Nat, n < 128 → (c == n) = false := fun n hn => by simp; omega
  rw [e 40 (by decide), e 41 (by decide), e 91 (by decide), e 93 (by decide), e 44 (by decide), e 58 (by decide), e 46 (by decide), e 61 (by decide), e 60 (by decide), e 43 (by decide), e 45 (by decide), e 42 (by decide), e 47 (by decide)]
  rfl
theorem mkS_tl {s : Str} {l : List Nat} (h : tl s = l) : s = mkS l := str_ext (by rw [h])
/-- how far p goes on -/
def run (p : Nat → Bool) : List Nat → Nat
  | [] => 0
  | c :: r => if p c = true then run p r + 1 else 0
theorem run_le (p : Nat → Bool) : ∀ l, run p l ≤ l.length
  | [] => Nat.le_refl _
  | c :: r => by
    have := run_le p r
    unfold run
    split <;> simp only [List.length_cons] <;> omega
theorem run_step {p : Nat → Bool} {l : List Nat} {k : Nat} {c : Nat} (h : l[k]? = some c) (hp : p c = true) (hk : k + run p (l.drop k) = n) : k + 1 + run p (l.drop (k + 1)) = n := by
  have hlt := (List.getElem?_eq_some_iff.mp h)
  rw [List.drop_eq_getElem_cons hlt.1, hlt.2] at hk
  unfold run at hk
  rw [if_pos hp] at hk
  omega
theorem run_stop {p : Nat → Bool} {l : List Nat} {k : Nat} {c : Nat} (h : l[k]? = some c) (hp : p c = false) : run p (l.drop k) = 0 := by
  have hlt := (List.getElem?_eq_some_iff.mp h)
  rw [List.drop_eq_getElem_cons hlt.1, hlt.2]
  unfold run
  rw [if_neg (by rw [hp]; decide)]
theorem run_end {p : Nat → Bool} {l : List Nat} {k : Nat} (h : l.length ≤ k) : run p (l.drop k) = 0 := by
  rw [List.drop_of_length_le h]; rfl
def wordL : List Str := (["import", "data", "trait", "with", "impl", "for", "def", "let", "in", "if", "then", "else", "loop"] : List Str) ++ (["times", "do", "not", "and", "or", "True", "False"] : List Str)
/-- a token: its sort and its places -/
structure Tk where
  s : Str
  a : Nat
  b : Nat
def tkD (t : Tk) : PyData := .tuple [.str t.s, nI t.a, nI t.b]
/-- the token that begins with the sign c -/
def tokC (a c : Nat) (r : List Nat) : Tk :=
  if isLet c = true then ⟨if mkS ((c :: r).take (run isNam (c :: r))) ∈ wordL then "word" else "name", a, a + run isNam (c :: r)⟩
  else if isDig c = true then ⟨"number", a, a + run isDig (c :: r)⟩
  else if (c :: r).take 2 = [61, 61] then ⟨"sign", a, a + 2⟩
  else ⟨if isSgn c = true then "sign" else "wrong", a, a + 1⟩
theorem run_pos {p : Nat → Bool} {c : Nat} {r : List Nat} (h : p c = true) : 0 < run p (c :: r) := by unfold run; rw [if_pos h]; omega
theorem tokC_a (a c : Nat) (r : List Nat) : (tokC a c r).a = a := by
  unfold tokC
  split
  · rfl
  · split
    · rfl
    · split <;> rfl
theorem tokC_b (a c : Nat) (r : List Nat) : a < (tokC a c r).b ∧ (tokC a c r).b ≤ a + (r.length + 1) := by
  unfold tokC
  split
  · rename_i hc
    have h1 : 0 < run isNam (c :: r) := run_pos (by unfold isNam; rw [hc]; rfl)
    have h2 := run_le isNam (c :: r)
    rw [List.length_cons] at h2
    exact ⟨by show a < a + _; omega, by show a + _ ≤ _; omega⟩
  · split
    · rename_i hc
      have h1 : 0 < run isDig (c :: r) := run_pos hc
      have h2 := run_le isDig (c :: r)
      rw [List.length_cons] at h2
      exact ⟨by show a < a + _; omega, by show a + _ ≤ _; omega⟩
    · split
      · rename_i hc
        refine ⟨by show a < a + 2; omega, ?_⟩
        have := congrArg List.length hc
        rw [List.length_take] at this
        simp only [List.length_cons, List.length_nil] at this
        show a + 2 ≤ _
        omega
      · exact ⟨by show a < a + 1; omega, by show a + 1 ≤ _; omega⟩
/-- the tokens, place by place: behind and comment are the law's -/
def scanT : Nat → Nat → Bool → List Nat → List Tk
  | _, _, _, [] => []
  | a, b, m, c :: r =>
    if a < b ∨ (m = true ∧ c ≠ 10) ∨ c = 32 ∨ c = 10 then scanT (a + 1) b (m && c != 10) r
    else if c = 35 then scanT (a + 1) b true r
    else tokC a c r :: scanT (a + 1) (tokC a c r).b false r
def toksN (t : List Nat) : List Tk := scanT 0 0 false t
def toksD (t : List Nat) : List PyData := (toksN t).map tkD
/-- behind does not matter where it is passed -/
theorem scan_low : ∀ (l : List Nat) (a b b' : Nat) (m : Bool), b ≤ a → b' ≤ a → scanT a b m l = scanT a b' m l
  | [], _, _, _, _, _, _ => rfl
  | c :: r, a, b, b', m, h, h' => by
    unfold scanT
    have e1 : ¬ a < b := by omega
    have e2 : ¬ a < b' := by omega
    simp only [e1, e2, false_or]
    rw [scan_low r (a + 1) b b' _ (by omega) (by omega), scan_low r (a + 1) b b' true (by omega) (by omega)]
/-- a token is passed -/
theorem scan_pass : ∀ (l : List Nat) (a e : Nat), a ≤ e → scanT a e false l = scanT e e false (l.drop (e - a))
  | [], a, e, _ => by rw [List.drop_nil]; unfold scanT; rfl
  | c :: r, a, e, h => by
    by_cases ha : a = e
    · subst ha; rw [Nat.sub_self]; rfl
    · have hlt : a < e := by omega
      have := scan_pass r (a + 1) e (by omega)
      conv => lhs; unfold scanT
      rw [if_pos (Or.inl hlt), Bool.false_and, this]
      have e2 : e - a = (e - (a + 1)) + 1 := by omega
      rw [e2, List.drop_succ_cons]
/-- a comment is passed -/
theorem scan_comment : ∀ (l : List Nat) (a b : Nat), b ≤ a → scanT a b true l = scanT (a + run (fun c => c != 10) l) b false (l.drop (run (fun c => c != 10) l))
  | [], a, b, _ => rfl
  | c :: r, a, b, h => by
    have e1 : ¬ a < b := by omega
    by_cases hc : c = 10
    · subst hc
      have : run (fun c => c != 10) (10 :: r) = 0 := by simp [run]
      rw [this]
      show scanT a b true (10 :: r) = scanT a b false (10 :: r)
      unfold scanT
      simp [e1]
    · have : run (fun c => c != 10) (c :: r) = run (fun c => c != 10) r + 1 := by simp [run, hc]
      rw [this, List.drop_succ_cons]
      conv => lhs; unfold scanT
      rw [if_pos (Or.inr (Or.inl ⟨rfl, hc⟩))]
      have e2 : (true && c != 10) = true := by simp [hc]
      rw [e2, scan_comment r (a + 1) b (by omega)]
      have : a + 1 + run (fun c => c != 10) r = a + (run (fun c => c != 10) r + 1) := by omega
      rw [this]
def S_run_end (_ : PySem.W.Frag) : DS := fun dvs o R X => ∃ (t : Str) (i : Nat) (al : Str) (p : Nat → Bool), dvs = [.d (.str t), .d (.int i), .d (.str al)] ∧ t.length ≤ 100000 ∧ i ≤ t.length ∧ (∀ c, decide (c ∈ al.cps.toList) = p c) ∧ R (.d (.int (i + run p ((tl t).drop i) : Nat))) o
def S_token_at (_ : PySem.W.Frag) : DS := fun dvs o R X => ∃ (t : Str) (i c : Nat) (r : List Nat), dvs = [.d (.str t), .d (.int i)] ∧ t.length ≤ 100000 ∧ (tl t).drop i = c :: r ∧ R (.d (tkD (tokC i c r))) o
def toksB (t : List Nat) (s e : Nat) : List Tk := (scanT s s false (t.drop s)).filter fun k => decide (k.a < e)
theorem drop_get {l : List Nat} {k c : Nat} (h : l[k]? = some c) : l.drop k = c :: l.drop (k + 1) := by
  obtain ⟨h1, h2⟩ := List.getElem?_eq_some_iff.mp h
  rw [List.drop_eq_getElem_cons h1, h2]
theorem scan_a : ∀ (l : List Nat) (a b : Nat) (m : Bool), ∀ k ∈ scanT a b m l, a ≤ k.a ∧ k.a < a + l.length
  | [], _, _, _, k, h => by unfold scanT at h; cases h
  | c :: r, a, b, m, k, h => by
    unfold scanT at h
    rw [List.length_cons]
    split at h
    · have := scan_a r _ _ _ k h; omega
    · split at h
      · have := scan_a r _ _ _ k h; omega
      · rcases List.mem_cons.mp h with e | e
        · rw [e, tokC_a]; omega
        · have := scan_a r _ _ _ k e; omega
theorem toksB_end {t : List Nat} {k e : Nat} (h : e ≤ k) : toksB t k e = [] := by
  unfold toksB
  refine List.filter_eq_nil_iff.mpr fun x hx => ?_
  have := scan_a _ _ _ _ x hx
  simp
  omega
theorem toksB_gap {t : List Nat} {k e c : Nat} (h : t[k]? = some c) (hc : c = 32 ∨ c = 10) : toksB t k e = toksB t (k + 1) e := by
  unfold toksB
  rw [drop_get h]
  conv => lhs; unfold scanT
  rw [if_pos (Or.inr (Or.inr hc)), Bool.false_and, scan_low _ (k + 1) k (k + 1) _ (by omega) (by omega)]
theorem toksB_comment {t : List Nat} {k e : Nat} (h : t[k]? = some 35) : toksB t k e = toksB t (k + run (fun c => c != 10) (t.drop k)) e := by
  unfold toksB
  have hr : run (fun c => c != 10) (35 :: t.drop (k + 1)) = run (fun c => c != 10) (t.drop (k + 1)) + 1 := by
    show (if (35 != 10) = true then _ else _) = _
    rw [if_pos (by decide)]
  have hd : t.drop (k + (run (fun c => c != 10) (t.drop (k + 1)) + 1)) = (t.drop (k + 1)).drop (run (fun c => c != 10) (t.drop (k + 1))) := by
    rw [List.drop_drop]
    congr 1
    omega
  rw [drop_get h, hr, hd]
  conv => lhs; unfold scanT
  rw [if_neg (by simp), if_pos rfl, scan_comment _ _ _ (by omega)]
  have : k + 1 + run (fun c => c != 10) (t.drop (k + 1)) = k + (run (fun c => c != 10) (t.drop (k + 1)) + 1) := by omega
  rw [this, scan_low _ _ k _ _ (by omega) (Nat.le_refl _)]
theorem toksB_tok {t : List Nat} {k e c : Nat} (h : t[k]? = some c) (he : k < e) (h1 : ¬ c = 32) (h2 : ¬ c = 10) (h3 : ¬ c = 35) : toksB t k e = tokC k c (t.drop (k + 1)) :: toksB t (tokC k c (t.drop (k + 1))).b e := by
  unfold toksB
  rw [drop_get h]
  conv => lhs; unfold scanT
  have hb := tokC_b k c (t.drop (k + 1))
  rw [if_neg (by simp [h1, h2]), if_neg h3, List.filter_cons_of_pos (by rw [tokC_a]; exact decide_eq_true he), scan_pass _ _ _ (by omega)]
  have : (t.drop (k + 1)).drop ((tokC k c (t.drop (k + 1))).b - (k + 1)) = t.drop (tokC k c (t.drop (k + 1))).b := by
    rw [List.drop_drop]
    congr 1
    omega
  rw [this]
theorem run_spec (p : Nat → Bool) : ∀ l : List Nat, (∀ v, v < run p l → ∃ c, l[v]? = some c ∧ p c = true) ∧ ∀ c, l[run p l]? = some c → p c = false
  | [] => ⟨fun v h => absurd h (Nat.not_lt_zero _), fun c h => by simp at h⟩
  | d :: r => by
    obtain ⟨h1, h2⟩ := run_spec p r
    by_cases hd : p d = true
    · have e : run p (d :: r) = run p r + 1 := by show (if p d = true then _ else _) = _; rw [if_pos hd]
      rw [e]
      refine ⟨fun v hv => ?_, fun c hc => h2 c (by simpa using hc)⟩
      cases v with
      | zero => exact ⟨d, rfl, hd⟩
      | succ v => exact (h1 v (by omega)).imp fun c hc => by simpa using hc
    · have e : run p (d :: r) = 0 := by show (if p d = true then _ else _) = _; rw [if_neg hd]
      rw [e]
      refine ⟨fun v hv => absurd hv (Nat.not_lt_zero _), fun c hc => ?_⟩
      have : d = c := by simpa using hc
      rw [← this]
      exact Bool.eq_false_iff.mpr hd
theorem getD_of {t : Str} {v c : Nat} (h : (tl t)[v]? = some c) : t.cps.getD v 0 = c := by
  have : t.cps[v]? = some c := by rw [← h]; simp
  rw [Array.getD_eq_getD_getElem?, this]; rfl
theorem find3_run (t : Str) (k : Nat) (hk : k ≤ t.length) : Txt.find3 t "\n" (k : Int) = if k + run (fun c => c != 10) ((tl t).drop k) < t.length then ((k + run (fun c => c != 10) ((tl t).drop k) : Nat) : Int) else -1 := by
  have e : ("\n" : Str) = ⟨#[10]⟩ := by decide +kernel
  have hfi : PySem.fromIndex t.length (k : Int) = k := by
    unfold PySem.fromIndex
    rw [if_neg (by omega)]
    omega
  obtain ⟨r1, r2⟩ := run_spec (fun c => c != 10) ((tl t).drop k)
  have htl := len_tl t
  generalize hj : run (fun c => c != 10) ((tl t).drop k) = j at r1 r2 ⊢
  have at10 : k + j < t.length → t.cps.getD (k + j) 0 = 10 := fun h => by
    have hg := List.getElem?_eq_getElem (show k + j < (tl t).length by omega)
    have hg2 := hg
    rw [← List.getElem?_drop] at hg2
    have := r2 _ hg2
    rw [getD_of hg]
    simpa using this
  rw [e]
  rcases StrLaws.find3_spec t 10 (k : Int) with ⟨h0, hn⟩ | ⟨i, h0, h1, h2, h3, h4⟩
  · rw [h0]
    rw [hfi] at hn
    split
    · rename_i hlt
      exact absurd (at10 hlt) (hn _ (by omega) hlt)
    · rfl
  · rw [h0]
    rw [hfi] at h1 h4
    have hij : i = k + j := by
      rcases Nat.lt_trichotomy i (k + j) with h | h | h
      · obtain ⟨c, hc, hp⟩ := r1 (i - k) (by omega)
        rw [List.getElem?_drop, show k + (i - k) = i by omega] at hc
        rw [getD_of hc] at h3
        subst h3
        simp at hp
      · exact h
      · exact absurd (at10 (by omega)) (h4 _ (by omega) h)
    rw [← hij, if_pos h2]
def SrtOk (s : Str) : Prop := s = "word" ∨ s = "name" ∨ s = "number" ∨ s = "sign" ∨ s = "wrong"
theorem SrtOk.ok {s : Str} (h : SrtOk s) : PyData.strOk s = true := by
  rcases h with rfl | rfl | rfl | rfl | rfl <;> decide +kernel
theorem tokC_s (a c : Nat) (r : List Nat) : SrtOk (tokC a c r).s := by
  unfold tokC SrtOk
  split
  · show (if _ then _ else _) = _ ∨ _
    split <;> simp
  · split
    · simp
    · split
      · simp
      · show (if _ then _ else _) = _ ∨ _
        split <;> simp
theorem scan_s : ∀ (l : List Nat) (a b : Nat) (m : Bool), ∀ k ∈ scanT a b m l, SrtOk k.s
  | [], a, b, m, k, h => by unfold scanT at h; cases h
  | c :: r, a, b, m, k, h => by
    unfold scanT at h
    split at h
    · exact scan_s r _ _ _ k h
    · split at h
      · exact scan_s r _ _ _ k h
      · rcases List.mem_cons.mp h with e | e
        · rw [e]; exact tokC_s a c r
        · exact scan_s r _ _ _ k e
theorem tk_shp {t : Tk} (h : SrtOk t.s) : Shp 1 (tkD t) := shp_tup fun d hd => by
  have : d = .str t.s ∨ d = nI t.a ∨ d = nI t.b := by simpa using hd
  rcases this with rfl | rfl | rfl
  · exact ⟨h.ok, Nat.zero_le _⟩
  · exact shp_int
  · exact shp_int
theorem toks_shp (t : List Nat) : Shp 2 (.list (toksD t)) := shp_lst fun d hd => by
  obtain ⟨k, hk, rfl⟩ := List.mem_map.mp hd
  exact tk_shp (scan_s _ _ _ _ k hk)
def S_tokens_between (_ : PySem.W.Frag) : DS := fun dvs o R X => ∃ (t : Str) (s e : Nat), dvs = [.d (.str t), .d (.int s), .d (.int e)] ∧ t.length ≤ 100000 ∧ s ≤ t.length ∧ e ≤ t.length ∧ R (.new (.lst ((toksB (tl t) s e).map tkD))) o
def S_tokens (_ : PySem.W.Frag) : DS := fun dvs o R X => ∃ (t : Str), dvs = [.d (.str t)] ∧ t.length ≤ 100000 ∧ R (.new (.lst (toksD (tl t)))) o
def S_is_name (_ : PySem.W.Frag) : DS := fun dvs o R X => ∃ (t : Str), dvs = [.d (.str t)] ∧ t.length ≤ 100000 ∧ R (.d (.bool (PyData.eqv (.list (toksD (tl t))) (.list [tkD ⟨"name", 0, t.length⟩])))) o
def S__law_is_letter (_ : PySem.W.Frag) : DS := fun dvs o R X => ∃ c : Nat, dvs = [.d (.str ⟨#[c]⟩)] ∧ R (.d (.bool (isLet c))) o
def S__law_is_digit (_ : PySem.W.Frag) : DS := fun dvs o R X => ∃ c : Nat, dvs = [.d (.str ⟨#[c]⟩)] ∧ R (.d (.bool (isDig c))) o
/-- the run that the law follows -/
def runL (c : Nat) (l : List Nat) : Nat := if isDig c = true then run isDig l else run isNam l
def S__law_run (_ : PySem.W.Frag) : DS := fun dvs o R X => ∃ (t : Str) (i c : Nat) (r : List Nat), dvs = [.d (.str t), .d (.int i)] ∧ t.length ≤ 100000 ∧ (tl t).drop i = c :: r ∧ R (.d (.int (i + runL c (c :: r) : Nat))) o
def S__law_token (_ : PySem.W.Frag) : DS := fun dvs o R X => ∃ (t : Str) (i c : Nat) (r : List Nat), dvs = [.d (.str t), .d (.int i)] ∧ t.length ≤ 100000 ∧ (tl t).drop i = c :: r ∧ R (.d (tkD (tokC i c r))) o
def S__law_tokens (_ : PySem.W.Frag) : DS := fun dvs o R X => ∃ (t : Str), dvs = [.d (.str t)] ∧ t.length ≤ 100000 ∧ R (.new (.lst (toksD (tl t)))) o
end DL

set_option Elab.async false
set_option linter.all false
set_option maxRecDepth 100000
namespace DL
open PySem PySem.Spec PyProof.Rows L2 TL
/-! ### edits that fit -/
def Fits (t : Str) (s e : Int) (n : Str) : Prop := 0 ≤ s ∧ s ≤ e ∧ e ≤ (t.length : Int) ∧ (tl n).all okB = true ∧ (t.length : Int) - (e - s) + (n.length : Int) ≤ 4000
def S_apply_edit (K : PySem.W.Frag) : DS := fun dvs o R X => ∃ (t : Str) (s e : Int) (n : Str), dvs = [.d (.str t), .d (.tuple [.int s, .int e, .str n])] ∧ t.length ≤ 100000 ∧ n.length ≤ 100000 ∧
  (Fits t s e n → ∀ r : Str, tl r = (tl t).take s.toNat ++ tl n ++ (tl t).drop e.toNat → R (.d (.str r)) o) ∧ (¬ Fits t s e n → ∀ ex, ExN K "InvalidEdit" ex → X ex o)
def S_inverse (K : PySem.W.Frag) : DS := fun dvs o R X => ∃ (t : Str) (s e : Int) (n : Str), dvs = [.d (.str t), .d (.tuple [.int s, .int e, .str n])] ∧ t.length ≤ 100000 ∧ n.length ≤ 100000 ∧
  (Fits t s e n → ∀ r : Str, tl r = ((tl t).take e.toNat).drop s.toNat → R (.d (.tuple [.int s, .int (s + n.length), .str r])) o) ∧ (¬ Fits t s e n → ∀ ex, ExN K "InvalidEdit" ex → X ex o)
def S_is_text (_ : PySem.W.Frag) : DS := fun dvs o R X => ∃ t : Str, dvs = [.d (.str t)] ∧ t.length ≤ 100000 ∧ R (.d (.bool (decide (t.length ≤ 4000) && (tl t).all okB))) o
instance (t : Str) (s e : Int) (n : Str) : Decidable (Fits t s e n) := by unfold Fits; infer_instance
/-- new strings of the law: signs of texts, a tab at the end or none -/
def NewOk (n : Str) : Prop := n.length ≤ 200 ∧ ((tl n).all okB = !decide (9 ∈ tl n))
def S__law_fits (_ : PySem.W.Frag) : DS := fun dvs o R X => ∃ (t : Str) (s e : Int) (n : Str), dvs = [.d (.str t), .d (.tuple [.int s, .int e, .str n])] ∧ t.length ≤ 100000 ∧ NewOk n ∧ R (.d (.bool (decide (Fits t s e n)))) o
def S__law_offset (K : PySem.W.Frag) : DS := fun dvs o R X => ∃ (τ : Addr) (t : Str), dvs = [.raw (.ref τ), .d (.str t)] ∧ o = tapeOb K τ ∧ t.length ≤ 100000 ∧ ∀ v : Int, -1 ≤ v → v ≤ t.length + 1 → R (.d (.int v)) (tapeOb K τ)
end DL

set_option Elab.async false
set_option linter.all false
set_option maxRecDepth 100000
namespace DL
open PySem PySem.Spec PyProof.Rows L2 TL
/-! ### texts by module -/
abbrev Txs := List (Str × Str)
def tKey (p : Str × Str) : Key := .inr p.1
def txK (t : Txs) : List (Key × V) := t.map fun p => (tKey p, V.str p.2)
def txD (t : Txs) : DKv := t.map fun p => (tKey p, PyData.str p.2)
def getT (t : Txs) (m : Str) : Option Str := (getA tKey t (.inr m)).map Prod.snd
def putT (t : Txs) (m x : Str) : Txs := putA tKey t (m, x)
theorem txK_val (t : Txs) (m : Str) : valV (txK t) (.inr m) = (getT t m).map V.str := by
  unfold txK getT
  rw [valV_A (key := tKey) (val := fun p => V.str p.2), Option.map_map]
  rfl
theorem txK_put (t : Txs) (m x : Str) : putK (txK t) (.inr m) (.str x) = txK (putT t m x) := putK_A (key := tKey) (val := fun p : Str × Str => V.str p.2) t (m, x)
theorem tx_kvr {K : PySem.W.Frag} {G : Hp} : ∀ t : Txs, KvR K G (txK t) (txD t)
  | [] => .nil
  | p :: r => .cons ⟨rfl, .str _⟩ (tx_kvr r)
theorem txD_val (t : Txs) (m : Str) : valD (txD t) (.inr m) = (getT t m).map PyData.str := by
  unfold valD txD getT getA
  rw [List.find?_map, Option.map_map, Option.map_map]
  rfl
theorem txD_put (t : Txs) (m x : Str) : putD (txD t) (.inr m) (.str x) = txD (putT t m x) := by
  unfold putD txD putT putA
  have e : ((t.map fun p => (tKey p, PyData.str p.2)).any fun kv => decide (kv.1 = Sum.inr m)) = t.any fun p => decide (tKey p = tKey (m, x)) := by
    rw [List.any_map]; rfl
  rw [e]
  split
  · rw [List.map_map, List.map_map]
    refine List.map_congr_left fun p _ => ?_
    show (if tKey p = Sum.inr m then (tKey p, PyData.str x) else (tKey p, PyData.str p.2)) = (fun p => (tKey p, PyData.str p.2)) (if tKey p = tKey (m, x) then (m, x) else p)
    by_cases h : tKey p = tKey (m, x)
    · rw [if_pos h, if_pos (show tKey p = Sum.inr m from h), h]
    · rw [if_neg h, if_neg (show ¬ tKey p = Sum.inr m from h)]
  · rw [List.map_append]; rfl
theorem txD_len (t : Txs) : (txD t).length = t.length := List.length_map _
theorem txK_len (t : Txs) : (txK t).length = t.length := List.length_map _
theorem txD_keys (t : Txs) : (txD t).map Prod.fst = (t.map Prod.fst).map Sum.inr := by
  unfold txD
  rw [List.map_map, List.map_map]
  rfl
theorem txK_keys (t : Txs) : (txK t).map Prod.fst = (t.map Prod.fst).map Sum.inr := by
  unfold txK
  rw [List.map_map, List.map_map]
  rfl
theorem getT_put (t : Txs) (m x k : Str) : getT (putT t m x) k = if k = m then some x else getT t k := by
  unfold getT putT
  rw [getA_put]
  by_cases h : k = m
  · subst h; rw [if_pos (show (Sum.inr k : Key) = tKey (k, x) from rfl), if_pos rfl]; rfl
  · rw [if_neg h, if_neg (fun z => h (by have z : (Sum.inr k : Key) = Sum.inr m := z; exact Sum.inr.inj z))]
def NdT (t : Txs) : Prop := (t.map Prod.fst).Nodup
theorem putT_keys {t : Txs} {m x y : Str} (h : getT t m = some y) : (putT t m x).map Prod.fst = t.map Prod.fst := by
  unfold getT at h
  obtain ⟨p, hp, _⟩ := Option.map_eq_some_iff.mp h
  obtain ⟨hm, hk⟩ := getA_mem hp
  unfold putT putA
  rw [if_pos (List.any_eq_true.mpr ⟨p, hm, decide_eq_true hk⟩), List.map_map]
  refine List.map_congr_left fun q _ => ?_
  show (if tKey q = tKey (m, x) then (m, x) else q).1 = q.1
  split
  · rename_i c
    have c : (Sum.inr q.1 : Key) = Sum.inr m := c
    exact (Sum.inr.inj c).symm
  · rfl
theorem putT_len {t : Txs} {m x y : Str} (h : getT t m = some y) : (putT t m x).length = t.length := by
  have := congrArg List.length (putT_keys (x := x) h)
  rwa [List.length_map, List.length_map] at this
/-- what stands there is put there -/
theorem putT_same {t : Txs} {m y : Str} (nd : NdT t) (h : getT t m = some y) : putT t m y = t := by
  unfold getT at h
  obtain ⟨p, hp, hy⟩ := Option.map_eq_some_iff.mp h
  obtain ⟨hm, hk⟩ := getA_mem hp
  have hpm : p = (m, y) := Prod.ext (by have hk : (Sum.inr p.1 : Key) = Sum.inr m := hk; exact Sum.inr.inj hk) hy
  unfold putT putA
  rw [if_pos (List.any_eq_true.mpr ⟨p, hm, decide_eq_true hk⟩)]
  conv => rhs; rw [← List.map_id t]
  refine List.map_congr_left fun q hq => ?_
  show (if tKey q = tKey (m, y) then (m, y) else q) = q
  split
  · rename_i c
    have c : q.1 = m := by have c : (Sum.inr q.1 : Key) = Sum.inr m := c; exact Sum.inr.inj c
    rw [← hpm]
    have e1 : p.1 = m := by rw [hpm]
    -- keys differ, so the place is one
    have : ∀ {l : Txs}, (l.map Prod.fst).Nodup → p ∈ l → q ∈ l → p.1 = q.1 → p = q := fun {l} => by
      induction l with
      | nil => intro _ h; cases h
      | cons a r ih =>
        intro n hp hq e
        rw [List.map_cons, List.nodup_cons] at n
        rcases List.mem_cons.mp hp with hp1 | hp1
        · rcases List.mem_cons.mp hq with hq1 | hq1
          · rw [hp1, hq1]
          · exact (n.1 (by rw [← hp1, e]; exact List.mem_map.mpr ⟨q, hq1, rfl⟩)).elim
        · rcases List.mem_cons.mp hq with hq1 | hq1
          · exact (n.1 (by rw [← hq1, ← e]; exact List.mem_map.mpr ⟨p, hp1, rfl⟩)).elim
          · exact ih n.2 hp1 hq1 e
    exact this nd hm hq (e1.trans c.symm)
  · rfl
theorem putT_put {t : Txs} {m x y : Str} : putT (putT t m x) m y = putT t m y := by
  unfold putT
  by_cases h : (t.any fun p => decide (tKey p = tKey (m, x))) = true
  · have e1 : putA tKey t (m, x) = t.map fun q => if tKey q = tKey (m, x) then (m, x) else q := if_pos h
    have e2 : putA tKey t (m, y) = t.map fun q => if tKey q = tKey (m, y) then (m, y) else q := if_pos h
    have h2 : ((putA tKey t (m, x)).any fun p => decide (tKey p = tKey (m, y))) = true := by
      rw [e1, List.any_map]
      obtain ⟨p, hp, hk⟩ := List.any_eq_true.mp h
      refine List.any_eq_true.mpr ⟨p, hp, ?_⟩
      show decide (tKey (if tKey p = tKey (m, x) then (m, x) else p) = tKey (m, y)) = true
      rw [if_pos (of_decide_eq_true hk)]
      exact decide_eq_true rfl
    have e3 : putA tKey (putA tKey t (m, x)) (m, y) = (putA tKey t (m, x)).map fun q => if tKey q = tKey (m, y) then (m, y) else q := if_pos h2
    rw [e3, e1, e2, List.map_map]
    refine List.map_congr_left fun q _ => ?_
    show (if tKey (if tKey q = tKey (m, x) then (m, x) else q) = tKey (m, y) then (m, y) else (if tKey q = tKey (m, x) then (m, x) else q)) = _
    by_cases c : tKey q = tKey (m, x)
    · rw [if_pos c, if_pos (show tKey (m, x) = tKey (m, y) from rfl), if_pos (show tKey q = tKey (m, y) from c)]
    · rw [if_neg c]
  · have e1 : putA tKey t (m, x) = t ++ [(m, x)] := if_neg h
    have e2 : putA tKey t (m, y) = t ++ [(m, y)] := if_neg h
    rw [e1, e2]
    have h2 : ((t ++ [(m, x)]).any fun p => decide (tKey p = tKey (m, y))) = true := by
      rw [List.any_append]
      have : ([(m, x)] : Txs).any (fun p => decide (tKey p = tKey (m, y))) = true := List.any_eq_true.mpr ⟨_, .head _, decide_eq_true rfl⟩
      rw [this, Bool.or_true]
    have e3 : putA tKey (t ++ [(m, x)]) (m, y) = (t ++ [(m, x)]).map fun q => if tKey q = tKey (m, y) then (m, y) else q := if_pos h2
    rw [e3, List.map_append]
    congr 1
    · conv => rhs; rw [← List.map_id t]
      refine List.map_congr_left fun q hq => ?_
      show (if tKey q = tKey (m, y) then (m, y) else q) = q
      rw [if_neg]
      intro c
      exact h (List.any_eq_true.mpr ⟨q, hq, decide_eq_true c⟩)
    · show [if tKey (m, x) = tKey (m, y) then (m, y) else (m, x)] = [(m, y)]
      rw [if_pos (show tKey (m, x) = tKey (m, y) from rfl)]
/-! ### edits -/
structure Ed where
  m : Str
  s : Int
  e : Int
  n : Str
theorem tl_mkS (l : List Nat) : tl (mkS l) = l := rfl
theorem tl_ext {a b : Str} (h : tl a = tl b) : a = b := by
  obtain ⟨x⟩ := a
  obtain ⟨y⟩ := b
  have h : x.toList = y.toList := h
  rw [Array.toList_inj] at h
  rw [h]
def edP (x : Ed) : PyData := .tuple [.int x.s, .int x.e, .str x.n]
def edD (x : Ed) : PyData := .tuple [.str x.m, edP x]
def stD (x : Ed) : PyData := .list [edD x]
def apS (t : Str) (x : Ed) : Str := mkS ((tl t).take x.s.toNat ++ tl x.n ++ (tl t).drop x.e.toNat)
def invE (t : Str) (x : Ed) : Ed := ⟨x.m, x.s, x.s + x.n.length, mkS (((tl t).take x.e.toNat).drop x.s.toNat)⟩
def TxOk (t : Str) : Prop := t.length ≤ 4000 ∧ (tl t).all okB = true
theorem all_sub {p : Nat → Bool} {l r : List Nat} (h : l.all p = true) (s : ∀ c ∈ r, c ∈ l) : r.all p = true := List.all_eq_true.mpr fun c hc => List.all_eq_true.mp h c (s c hc)
theorem edit_ok {t : Str} {x : Ed} (ht : TxOk t) (f : Fits t x.s x.e x.n) : TxOk (apS t x) ∧ Fits (apS t x) (invE t x).s (invE t x).e (invE t x).n ∧ apS (apS t x) (invE t x) = t ∧ invE (apS t x) (invE t x) = x := by
  obtain ⟨m, s, e, n⟩ := x
  obtain ⟨f1, f2, f3, f4, f5⟩ := f
  have f1 : 0 ≤ s := f1
  have f2 : s ≤ e := f2
  have f3 : e ≤ (t.length : Int) := f3
  have f5 : (t.length : Int) - (e - s) + (n.length : Int) ≤ 4000 := f5
  obtain ⟨a, rfl⟩ : ∃ a : Nat, s = a := ⟨s.toNat, by omega⟩
  obtain ⟨b, rfl⟩ : ∃ b : Nat, e = b := ⟨e.toNat, by omega⟩
  have ea : tl (apS t ⟨m, a, b, n⟩) = (tl t).take a ++ tl n ++ (tl t).drop b := rfl
  have hlt : t.length = (tl t).length := len_tl t
  have hln : n.length = (tl n).length := len_tl n
  have l1 : ((tl t).take a).length = a := by rw [List.length_take]; omega
  have la : (apS t ⟨m, a, b, n⟩).length = a + n.length + (t.length - b) := by
    rw [len_tl, ea, List.length_append, List.length_append, l1, List.length_drop]; omega
  have e1 : ((a : Int) + (n.length : Int)).toNat = a + n.length := by omega
  have li : (mkS (((tl t).take b).drop a)).length = b - a := by
    rw [len_tl, tl_mkS, List.length_drop, List.length_take]; omega
  have hall := ht.2
  have w1 : ((tl t).take a ++ tl n).length = a + n.length := by rw [List.length_append, l1, hln]
  refine ⟨⟨by rw [la]; omega, ?_⟩, ⟨f1, ?_, ?_, ?_, ?_⟩, ?_, ?_⟩
  · rw [ea, List.all_append, List.all_append, f4, all_sub hall fun c hc => List.mem_of_mem_take hc, all_sub hall fun c hc => List.mem_of_mem_drop hc]
    rfl
  · show (a : Int) ≤ a + n.length; omega
  · show (a : Int) + n.length ≤ _
    rw [la]; omega
  · show (((tl t).take b).drop a).all okB = true
    exact all_sub hall fun c hc => List.mem_of_mem_take (List.mem_of_mem_drop hc)
  · show _ - ((a : Int) + n.length - a) + ((mkS (((tl t).take b).drop a)).length : Int) ≤ 4000
    rw [la, li]
    have := ht.1
    omega
  · refine tl_ext ?_
    show (tl (apS t ⟨m, a, b, n⟩)).take a ++ ((tl t).take b).drop a ++ (tl (apS t ⟨m, a, b, n⟩)).drop ((a : Int) + n.length).toNat = tl t
    have q1 : ((tl t).take a ++ tl n ++ (tl t).drop b).take a = (tl t).take a := by
      rw [List.append_assoc, List.take_append_of_le_length (Nat.le_of_eq l1.symm), List.take_of_length_le (Nat.le_of_eq l1)]
    have q2 : ((tl t).take a ++ tl n ++ (tl t).drop b).drop (a + n.length) = (tl t).drop b := by
      rw [List.drop_append_of_le_length (Nat.le_of_eq w1.symm), List.drop_of_length_le (Nat.le_of_eq w1), List.nil_append]
    rw [e1, ea, q1, q2]
    have h1 : (tl t).take a = ((tl t).take b).take a := by rw [List.take_take, Nat.min_eq_left (by omega)]
    rw [h1, List.take_append_drop, List.take_append_drop]
  · show (⟨m, a, a + ((mkS (((tl t).take b).drop a)).length : Int), mkS (((tl (apS t ⟨m, a, b, n⟩)).take ((a : Int) + n.length).toNat).drop a)⟩ : Ed) = ⟨m, a, b, n⟩
    have g1 : (a : Int) + ((mkS (((tl t).take b).drop a)).length : Int) = b := by rw [li]; omega
    have g2 : mkS (((tl (apS t ⟨m, a, b, n⟩)).take ((a : Int) + n.length).toNat).drop a) = n := by
      refine tl_ext ?_
      rw [tl_mkS, e1, ea, List.take_append_of_le_length (by rw [w1]; exact Nat.le_refl _), List.take_of_length_le (by rw [w1]; exact Nat.le_refl _), List.drop_append_of_le_length (by rw [l1]; exact Nat.le_refl _), List.drop_of_length_le (by rw [l1]; exact Nat.le_refl _), List.nil_append]
    rw [g1, g2]
end DL

set_option Elab.async false
set_option linter.all false
set_option maxRecDepth 100000
namespace DL
open PySem PySem.Spec PyProof.Rows L2 TL
/-! ### a keeper of which nothing is asked -/
def KpAny (K : PySem.W.Frag) (kp : Addr) (n : Nat) (o : Ob) : Prop := ∃ (D : KC) (L : List Cell) (kn : List (Addr × Ky)), o = kpO K kp D L kn ∧ D.ins.length ≤ n ∧ ∀ x ∈ D.ins, SeqAt.shaped x.d = true
/-! ### the server's cells -/
structure SC where
  dx : Addr
  aT : Addr
  aK : Addr
  aD : Addr
  aU : Addr
  tx : Txs
  dn : List V
  un : List V
def SC.attrs (C : SC) : List (Str × V) := [("_texts", .ref C.aT), ("_keeper", .ref C.aK), ("_done", .ref C.aD), ("_undone", .ref C.aU)]
def SC.head (Sc a : Addr) (C : SC) : List Cell := [(a, .ins Sc C.dx C.attrs), (C.dx, .own a), (C.aT, .dK (txK C.tx)), (C.aD, .lst C.dn), (C.aU, .lst C.un)]
structure SC.Abs (K : PySem.W.Frag) (C : SC) (dn un : List Ed) (G : Hp) : Prop where
  d : RpAll K G C.dn (dn.reverse.map stD)
  u : RpAll K G C.un (un.reverse.map stD)
theorem sc_mono {K : PySem.W.Frag} {C : SC} {dn un : List Ed} : Mono (C.Abs K dn un) := fun G G' s h => ⟨RpAll.sub s h.d, RpAll.sub s h.u⟩
/-- the server alone; done and undone, the last first -/
def svOb (K : PySem.W.Frag) (a : Addr) (C : SC) (M : List Cell) (dn un : List Ed) : Ob := cOb (C.head (clsA K "Server") a ++ M) (C.Abs K dn un)
section
variable {K : PySem.W.Frag} {a : Addr} {C : SC} {M : List Cell} {dn un : List Ed}
theorem sv_at : At (svOb K a C M dn un) a (.ins (clsA K "Server") C.dx C.attrs) := at_cell (List.mem_append_left _ (.head _))
theorem sv_atT : At (svOb K a C M dn un) C.aT (.dK (txK C.tx)) := at_cell (List.mem_append_left _ (.tail _ (.tail _ (.head _))))
theorem sv_atD : At (svOb K a C M dn un) C.aD (.lst C.dn) := at_cell (List.mem_append_left _ (.tail _ (.tail _ (.tail _ (.head _)))))
theorem sv_atU : At (svOb K a C M dn un) C.aU (.lst C.un) := at_cell (List.mem_append_left _ (.tail _ (.tail _ (.tail _ (.tail _ (.head _))))))
theorem sv_kn : Knows (svOb K a C M dn un) (C.Abs K dn un) := kw_cell
theorem sv_putT {m x : Str} {ex : Hp → Prop} : PutO (svOb K a C M dn un) C.aT (.dK (txK (putT C.tx m x))) ex (svOb K a { C with tx := putT C.tx m x } M dn un) :=
  put_at (l1 := [(a, .ins (clsA K "Server") C.dx C.attrs), (C.dx, .own a)]) (l2 := (C.aD, .lst C.dn) :: (C.aU, .lst C.un) :: M) trivial sc_mono fun G h _ => ⟨h.d, h.u⟩
theorem rp_app {K : PySem.W.Frag} {G : Hp} {vs : List V} {v : V} {xs : List Ed} {x : Ed} (h : RpAll K G vs (xs.reverse.map stD)) (k : Rp K G v (stD x)) : RpAll K G (vs ++ [v]) ((x :: xs).reverse.map stD) := by
  rw [List.reverse_cons, List.map_append]
  exact RpAll.append h (.cons k .nil)
theorem sv_putD {v : V} {x : Ed} : PutO (svOb K a C M dn un) C.aD (.lst (C.dn ++ [v])) (fun G => Rp K G v (stD x)) (svOb K a { C with dn := C.dn ++ [v] } M (x :: dn) un) :=
  put_at (l1 := [(a, .ins (clsA K "Server") C.dx C.attrs), (C.dx, .own a), (C.aT, .dK (txK C.tx))]) (l2 := (C.aU, .lst C.un) :: M) trivial sc_mono fun G h k => ⟨rp_app h.d k, h.u⟩
theorem sv_putU {v : V} {x : Ed} : PutO (svOb K a C M dn un) C.aU (.lst (C.un ++ [v])) (fun G => Rp K G v (stD x)) (svOb K a { C with un := C.un ++ [v] } M dn (x :: un)) :=
  put_at (l1 := [(a, .ins (clsA K "Server") C.dx C.attrs), (C.dx, .own a), (C.aT, .dK (txK C.tx)), (C.aD, .lst C.dn)]) (l2 := M) trivial sc_mono fun G h k => ⟨h.d, rp_app h.u k⟩
theorem rp_pop {K : PySem.W.Frag} {G : Hp} {vs : List V} {xs : List Ed} {x : Ed} (h : RpAll K G vs ((x :: xs).reverse.map stD)) : RpAll K G vs.dropLast (xs.reverse.map stD) ∧ ∀ v, vs[vs.length - 1]? = some v → Rp K G v (stD x) := by
  have hl := h.len
  rw [List.length_map, List.length_reverse, List.length_cons] at hl
  have e : (x :: xs).reverse.map stD = xs.reverse.map stD ++ [stD x] := by rw [List.reverse_cons, List.map_append]; rfl
  rw [e] at h
  refine ⟨?_, fun v hv => ?_⟩
  · have := h.take xs.length
    rw [List.take_append_of_le_length (by rw [List.length_map, List.length_reverse]; exact Nat.le_refl _), List.take_of_length_le (l := xs.reverse.map stD) (by rw [List.length_map, List.length_reverse]; exact Nat.le_refl _)] at this
    rw [List.dropLast_eq_take, hl]
    exact this
  · obtain ⟨y, h1, h2⟩ := h.get hv
    rw [hl, show xs.length + 1 - 1 = xs.length from rfl, List.getElem?_append_right (by rw [List.length_map, List.length_reverse]; exact Nat.le_refl _), List.length_map, List.length_reverse, Nat.sub_self] at h1
    have : stD x = y := by simpa using h1
    rw [this]; exact h2
theorem sv_popD {x : Ed} : PutO (svOb K a C M (x :: dn) un) C.aD (.lst C.dn.dropLast) (fun _ => True) (svOb K a { C with dn := C.dn.dropLast } M dn un) :=
  put_at (l1 := [(a, .ins (clsA K "Server") C.dx C.attrs), (C.dx, .own a), (C.aT, .dK (txK C.tx))]) (l2 := (C.aU, .lst C.un) :: M) trivial sc_mono fun G h _ => ⟨(rp_pop h.d).1, h.u⟩
theorem sv_popU {x : Ed} : PutO (svOb K a C M dn (x :: un)) C.aU (.lst C.un.dropLast) (fun _ => True) (svOb K a { C with un := C.un.dropLast } M dn un) :=
  put_at (l1 := [(a, .ins (clsA K "Server") C.dx C.attrs), (C.dx, .own a), (C.aT, .dK (txK C.tx)), (C.aD, .lst C.dn)]) (l2 := M) trivial sc_mono fun G h _ => ⟨h.d, (rp_pop h.u).1⟩
theorem sc_put (C : SC) (p : Addr) : putF "_done" (.ref p) C.attrs = { C with aD := p }.attrs ∧ putF "_undone" (.ref p) C.attrs = { C with aU := p }.attrs := by
  unfold SC.attrs
  exact ⟨by with_unfolding_all rfl, by with_unfolding_all rfl⟩
theorem perm_d {α : Type} (p a b c d e : α) (M : List α) : (p :: a :: b :: c :: d :: e :: M).Perm (a :: b :: c :: p :: e :: d :: M) := (List.Perm.swap a p _).trans (.cons a ((List.Perm.swap b p _).trans (.cons b ((List.Perm.swap c p _).trans (.cons c (.cons p (List.Perm.swap e d M)))))))
theorem perm_u {α : Type} (p a b c d e : α) (M : List α) : (p :: a :: b :: c :: d :: e :: M).Perm (a :: b :: c :: d :: p :: e :: M) := (List.Perm.swap a p _).trans (.cons a ((List.Perm.swap b p _).trans (.cons b ((List.Perm.swap c p _).trans (.cons c (List.Perm.swap d p _))))))
/-- self._done = [] -/
theorem sv_newD {p : Addr} {ex : Hp → Prop} : PutO ((cOb [(p, .lst [])] fun _ => True).and (svOb K a C M dn un)) a (.ins (clsA K "Server") C.dx { C with aD := p }.attrs) ex (svOb K a { C with aD := p, dn := [] } ((C.aD, .lst C.dn) :: M) [] un) := by
  have h : PutO (svOb K a C M dn un) a (.ins (clsA K "Server") C.dx { C with aD := p }.attrs) ex (cOb ((a, .ins (clsA K "Server") C.dx { C with aD := p }.attrs) :: (C.dx, .own a) :: (C.aT, .dK (txK C.tx)) :: (C.aD, .lst C.dn) :: (C.aU, .lst C.un) :: M) (C.Abs K dn un)) :=
    put_at (l1 := []) (l2 := (C.dx, .own a) :: (C.aT, .dK (txK C.tx)) :: (C.aD, .lst C.dn) :: (C.aU, .lst C.un) :: M) trivial sc_mono fun G h _ => h
  refine (h.r (A := cOb [(p, .lst [])] fun _ => True)).le ((le_merge (χ := fun G => C.Abs K dn un G) sc_mono fun G _ k => k).trans (le_perm ?_ sc_mono fun G k => ⟨.nil, k.u⟩))
  exact perm_d _ _ _ _ _ _ _
theorem sv_newU {p : Addr} {ex : Hp → Prop} : PutO ((cOb [(p, .lst [])] fun _ => True).and (svOb K a C M dn un)) a (.ins (clsA K "Server") C.dx { C with aU := p }.attrs) ex (svOb K a { C with aU := p, un := [] } ((C.aU, .lst C.un) :: M) dn []) := by
  have h : PutO (svOb K a C M dn un) a (.ins (clsA K "Server") C.dx { C with aU := p }.attrs) ex (cOb ((a, .ins (clsA K "Server") C.dx { C with aU := p }.attrs) :: (C.dx, .own a) :: (C.aT, .dK (txK C.tx)) :: (C.aD, .lst C.dn) :: (C.aU, .lst C.un) :: M) (C.Abs K dn un)) :=
    put_at (l1 := []) (l2 := (C.dx, .own a) :: (C.aT, .dK (txK C.tx)) :: (C.aD, .lst C.dn) :: (C.aU, .lst C.un) :: M) trivial sc_mono fun G h _ => h
  refine (h.r (A := cOb [(p, .lst [])] fun _ => True)).le ((le_merge (χ := fun G => C.Abs K dn un G) sc_mono fun G _ k => k).trans (le_perm ?_ sc_mono fun G k => ⟨k.d, .nil⟩))
  exact perm_u _ _ _ _ _ _ _
end
theorem sc_look (C : SC) : C.attrs.lookup ("_texts" : Str) = some (V.ref C.aT) ∧ C.attrs.lookup ("_keeper" : Str) = some (V.ref C.aK) ∧ C.attrs.lookup ("_done" : Str) = some (V.ref C.aD) ∧ C.attrs.lookup ("_undone" : Str) = some (V.ref C.aU) := by
  unfold SC.attrs
  exact ⟨by with_unfolding_all rfl, by with_unfolding_all rfl, by with_unfolding_all rfl, by with_unfolding_all rfl⟩
theorem sc_meth (C : SC) : C.attrs.lookup ("modules" : Str) = none ∧ C.attrs.lookup ("program" : Str) = none ∧ C.attrs.lookup ("need_file" : Str) = none ∧ C.attrs.lookup ("forget_steps" : Str) = none ∧ C.attrs.lookup ("open_file" : Str) = none ∧ C.attrs.lookup ("set_text" : Str) = none ∧ C.attrs.lookup ("do_step" : Str) = none ∧ C.attrs.lookup ("edit" : Str) = none ∧ C.attrs.lookup ("undo" : Str) = none ∧ C.attrs.lookup ("redo" : Str) = none := by
  unfold SC.attrs
  exact ⟨by with_unfolding_all rfl, by with_unfolding_all rfl, by with_unfolding_all rfl, by with_unfolding_all rfl, by with_unfolding_all rfl, by with_unfolding_all rfl, by with_unfolding_all rfl, by with_unfolding_all rfl, by with_unfolding_all rfl, by with_unfolding_all rfl⟩
structure SvF (K : PySem.W.Frag) : Prop where
  c : Cls K (clsA K "Server")
  t : NoAttr K (clsA K "Server") "_texts"
  k : NoAttr K (clsA K "Server") "_keeper"
  d : NoAttr K (clsA K "Server") "_done"
  u : NoAttr K (clsA K "Server") "_undone"
/-! ### what is always so -/
/-- texts that a server may have -/
structure TxsOk (t : Txs) : Prop where
  nd : NdT t
  len : t.length ≤ 6
  ok : ∀ p ∈ t, TxOk p.2
  nm : ∀ p ∈ t, (tl p.1).all okB = true ∧ p.1.length ≤ 100
theorem TxsOk.get {t : Txs} (h : TxsOk t) {m x : Str} (e : getT t m = some x) : TxOk x := by
  unfold getT at e
  obtain ⟨p, hp, hx⟩ := Option.map_eq_some_iff.mp e
  rw [← hx]
  exact h.ok p (getA_mem hp).1
theorem TxsOk.put {t : Txs} (h : TxsOk t) {m x y : Str} (e : getT t m = some y) (hx : TxOk x) : TxsOk (putT t m x) := by
  refine ⟨?_, by rw [putT_len e]; exact h.len, fun p hp => ?_, fun p hp => ?_⟩
  · unfold NdT; rw [putT_keys e]; exact h.nd
  · rcases putA_mem hp with rfl | hp
    · exact hx
    · exact h.ok p hp
  · have hk : p.1 ∈ (putT t m x).map Prod.fst := List.mem_map.mpr ⟨p, hp, rfl⟩
    rw [putT_keys e] at hk
    obtain ⟨q, hq, hqp⟩ := List.mem_map.mp hk
    rw [← hqp]
    exact h.nm q hq
/-- the server with its keeper -/
def SvA (K : PySem.W.Frag) (sv aD aU : Addr) (n : Nat) (tx : Txs) (dn un : List Ed) (o : Ob) : Prop := ∃ (kp : Addr) (ko : Ob) (C : SC) (M : List Cell), o = ko.and (svOb K sv C M dn un) ∧ KpAny K kp n ko ∧ C.aK = kp ∧ C.tx = tx ∧ C.aD = aD ∧ C.aU = aU ∧ C.dn.length = dn.length ∧ C.un.length = un.length
def SvAt (K : PySem.W.Frag) (sv : Addr) (n : Nat) (tx : Txs) (dn un : List Ed) (o : Ob) : Prop := ∃ aD aU, SvA K sv aD aU n tx dn un o
def kText (m : Str) : Ky := [.inr "text", .inr m]
def kMods : Ky := [.inr "modules"]
theorem sv_put_any {K : PySem.W.Frag} {k : Ky} {D D' : KC} {v : PyData} {n : Nat} (h : D'.er = putP D.er k v) (hn : D.ins.length ≤ n) (hs : ∀ x ∈ D.ins, SeqAt.shaped x.d = true) (hv : SeqAt.shaped v = true) : D'.ins.length ≤ n + 1 ∧ ∀ x ∈ D'.ins, SeqAt.shaped x.d = true := by
  obtain ⟨_, p2, _⟩ := putP_ins D.er k v
  have e1 : D'.er.ins = (putP D.er k v).ins := by rw [h]
  have hl : D'.ins.length = (putP D.er k v).ins.length := by rw [← e1]; exact (List.length_map _).symm
  refine ⟨?_, fun x hx => ?_⟩
  · have hd : D.er.ins.length = D.ins.length := List.length_map _
    have : (putP D.er k v).ins.length ≤ D.er.ins.length + 1 := by
      unfold putP
      split
      · exact Nat.le_succ _
      · exact putA_len (key := PIn.k) D.er.ins ⟨k, v, D.er.rev + 1⟩
    omega
  · have hx2 : x.er ∈ D'.er.ins := List.mem_map.mpr ⟨x, hx, rfl⟩
    rw [e1] at hx2
    rcases p2 _ hx2 with h2 | h2
    · obtain ⟨y, hy, he⟩ := List.mem_map.mp h2
      have : x.d = y.d := congrArg PIn.d he.symm
      rw [this]; exact hs y hy
    · have : x.d = v := h2
      rw [this]; exact hv
/-! ### promises -/
def S_need_module (_ : PySem.W.Frag) : DS := fun dvs o R X => ∃ m t : Str, dvs = [.d (.str m), .d (.str t)] ∧ m.length ≤ 100 ∧ TxOk t ∧ PyData.eqv (.list (toksD (tl m))) (.list [tkD ⟨"name", 0, m.length⟩]) = true ∧ R (.d .none) o
def S_new_keeper (K : PySem.W.Frag) : DS := fun dvs o R X => ∃ t : Txs, dvs = [.d (dicD (txD t))] ∧ TxsOk t ∧ ∀ kp ko, KpAny K kp (t.length + 1) ko → R (.raw (.ref kp)) (ko.and o)
def S_Server___init__ (K : PySem.W.Frag) : DS := fun dvs o R X => ∃ (sv dx : Addr) (t : Txs), dvs = [.raw (.ref sv), .d (dicD (txD t))] ∧ o = insOb K (clsA K "Server") sv dx [] ∧ TxsOk t ∧ (∀ p ∈ t, p.1.length ≤ 100 ∧ PyData.eqv (.list (toksD (tl p.1))) (.list [tkD ⟨"name", 0, p.1.length⟩]) = true) ∧
  ∀ o', SvAt K sv (t.length + 1) t [] [] o' → R (.d .none) o'
def S_Server_modules (K : PySem.W.Frag) : DS := fun dvs o R X => ∃ (sv : Addr) (C : SC) (M : List Cell) (dn un : List Ed), dvs = [.raw (.ref sv)] ∧ o = svOb K sv C M dn un ∧ C.tx.length < 64 ∧ ∀ ys : List Str, ys.Perm (C.tx.map Prod.fst) → sortedS ys = true → R (.new (.lst (ys.map .str))) o
def S_Server_program (K : PySem.W.Frag) : DS := fun dvs o R X => ∃ (sv : Addr) (n : Nat) (tx : Txs) (dn un : List Ed), dvs = [.raw (.ref sv)] ∧ SvAt K sv n tx dn un o ∧ R (.d (dicD (txD tx))) o
def S_Server_need_file (K : PySem.W.Frag) : DS := fun dvs o R X => ∃ (sv : Addr) (n : Nat) (tx : Txs) (dn un : List Ed) (m : Str), dvs = [.raw (.ref sv), .d (.str m)] ∧ SvAt K sv n tx dn un o ∧ ((getT tx m).isSome = true → R (.d .none) o) ∧ ((getT tx m).isSome = false → ∀ ex, ExN K "UnknownFile" ex → X ex o)
def S_Server_forget_steps (K : PySem.W.Frag) : DS := fun dvs o R X => ∃ (sv : Addr) (n : Nat) (tx : Txs) (dn un : List Ed), dvs = [.raw (.ref sv)] ∧ SvAt K sv n tx dn un o ∧ ∀ o', SvAt K sv n tx [] [] o' → R (.d .none) o'
def S_Server_set_text (K : PySem.W.Frag) : DS := fun dvs o R X => ∃ (sv aD aU : Addr) (n : Nat) (tx : Txs) (dn un : List Ed) (m t : Str), dvs = [.raw (.ref sv), .d (.str m), .d (.str t)] ∧ SvA K sv aD aU n tx dn un o ∧ n < 100000 ∧ tx.length ≤ 6 ∧ TxOk t ∧ ∀ o', SvA K sv aD aU (n + 1) (putT tx m t) dn un o' → R (.d .none) o'
def S_Server_do_step (K : PySem.W.Frag) : DS := fun dvs o R X => ∃ (sv aD aU : Addr) (n : Nat) (tx : Txs) (dn un : List Ed) (x : Ed) (t : Str), dvs = [.raw (.ref sv), .d (stD x)] ∧ SvA K sv aD aU n tx dn un o ∧ n < 100000 ∧ TxsOk tx ∧ getT tx x.m = some t ∧ x.n.length ≤ 100000 ∧ Fits t x.s x.e x.n ∧
  ∀ o', SvA K sv aD aU (n + 1) (putT tx x.m (apS t x)) dn un o' → R (.new (.lst [edD (invE t x)])) o'
def S_Server_edit (K : PySem.W.Frag) : DS := fun dvs o R X => ∃ (sv : Addr) (n : Nat) (tx : Txs) (dn un : List Ed) (x : Ed), dvs = [.raw (.ref sv), .d (.str x.m), .d (edP x)] ∧ SvAt K sv n tx dn un o ∧ n < 100000 ∧ dn.length < 100000 ∧ TxsOk tx ∧ x.n.length ≤ 100000 ∧
  (getT tx x.m = none → ∀ ex, ExN K "UnknownFile" ex → X ex o) ∧ ∀ t, getT tx x.m = some t → (¬ Fits t x.s x.e x.n → ∀ ex, ExN K "InvalidEdit" ex → X ex o) ∧ (Fits t x.s x.e x.n → ∀ o', SvAt K sv (n + 1) (putT tx x.m (apS t x)) (invE t x :: dn) [] o' → R (.d .none) o')
def S_Server_undo (K : PySem.W.Frag) : DS := fun dvs o R X => ∃ (sv : Addr) (n : Nat) (tx : Txs) (dn un : List Ed), dvs = [.raw (.ref sv)] ∧ SvAt K sv n tx dn un o ∧ n < 100000 ∧ un.length < 100000 ∧ TxsOk tx ∧
  (dn = [] → ∀ ex, ExN K "NothingToUndo" ex → X ex o) ∧ ∀ x ds, dn = x :: ds → ∃ t, getT tx x.m = some t ∧ x.n.length ≤ 100000 ∧ Fits t x.s x.e x.n ∧ ∀ o', SvAt K sv (n + 1) (putT tx x.m (apS t x)) ds (invE t x :: un) o' → R (.d .none) o'
def S_Server_redo (K : PySem.W.Frag) : DS := fun dvs o R X => ∃ (sv : Addr) (n : Nat) (tx : Txs) (dn un : List Ed), dvs = [.raw (.ref sv)] ∧ SvAt K sv n tx dn un o ∧ n < 100000 ∧ dn.length < 100000 ∧ TxsOk tx ∧
  (un = [] → ∀ ex, ExN K "NothingToUndo" ex → X ex o) ∧ ∀ x us, un = x :: us → ∃ t, getT tx x.m = some t ∧ x.n.length ≤ 100000 ∧ Fits t x.s x.e x.n ∧ ∀ o', SvAt K sv (n + 1) (putT tx x.m (apS t x)) (invE t x :: dn) us o' → R (.d .none) o'
def S_Server_open_file (K : PySem.W.Frag) : DS := fun dvs o R X => ∃ (sv : Addr) (n : Nat) (tx : Txs) (dn un : List Ed) (m t : Str), dvs = [.raw (.ref sv), .d (.str m), .d (.str t)] ∧ SvAt K sv n tx dn un o ∧ n < 100000 ∧ TxsOk tx ∧ tx.length < 6 ∧ (tl m).all okB = true ∧ getT tx m = none ∧ m.length ≤ 100 ∧ TxOk t ∧ PyData.eqv (.list (toksD (tl m))) (.list [tkD ⟨"name", 0, m.length⟩]) = true ∧
  ∀ o', SvAt K sv (n + 2) (putT tx m t) [] [] o' → R (.d .none) o'
theorem okB_small {c : Nat} (h : okB c = true) : c < 128 := by
  by_cases z : c < 128
  · exact z
  · rw [okB_big c (by omega)] at h; cases h
theorem str_shaped {t : Str} (h : (tl t).all okB = true) : SeqAt.shaped (.str t) = true := by
  have h1 : PyData.strOk t = true := by
    unfold PyData.strOk
    rw [Array.all_eq_true']
    intro c hc
    have := okB_small (List.all_eq_true.mp h c (Array.mem_toList_iff.mpr hc))
    simp; omega
  unfold SeqAt.shaped
  rw [show (PyData.str t).canLay0 = PyData.strOk t from rfl, h1, Bool.true_and]
  exact decide_eq_true (show (PyData.str t).depth ≤ 64 by unfold PyData.depth; omega)
theorem le_emp {o : Ob} : Ob.le o (o.and .emp) := ⟨fun a => ⟨fun h => h.elim id fun z => z.elim, .inl⟩, fun G H h => ⟨h, trivial, fun _ _ z => z⟩⟩
theorem le_emp' {o : Ob} : Ob.le (o.and .emp) o := ⟨fun a => ⟨.inl, fun h => h.elim id fun z => z.elim⟩, fun G H h => h.1⟩
/-- a new cell and the field that holds it -/
theorem put_new {a p : Addr} {C dx : Addr} {fs fs' : List (Str × V)} {r : List Cell} {y : HO} {φ ex : Hp → Prop} (mn : Mono φ) : PutO ((cOb [(p, y)] fun _ => True).and (cOb ((a, .ins C dx fs) :: r) φ)) a (.ins C dx fs') ex (cOb ((a, .ins C dx fs') :: (r ++ [(p, y)])) φ) := by
  have h : PutO (cOb ((a, .ins C dx fs) :: r) φ) a (.ins C dx fs') ex (cOb ((a, .ins C dx fs') :: r) φ) := put_at (l1 := []) (l2 := r) trivial mn fun _ h _ => h
  refine (h.r (A := cOb [(p, y)] fun _ => True)).le ((le_merge (χ := φ) mn fun G _ k => k).trans (le_perm ?_ mn fun G k => k))
  show List.Perm ((p, y) :: (a, HO.ins C dx fs') :: r) ((a, HO.ins C dx fs') :: (r ++ [(p, y)]))
  refine (List.Perm.swap _ _ _).trans (.cons _ ?_)
  exact (List.perm_append_comm (l₁ := [(p, y)]) (l₂ := r))
theorem kvr_tx {K : PySem.W.Frag} {G : Hp} : ∀ {kvs : List (Key × V)} {t : Txs}, KvR K G kvs (txD t) → kvs = txK t
  | _, [], h => by cases h; rfl
  | _, p :: r, h => by
    cases h with
    | @cons a b c d h1 h2 =>
      obtain ⟨e1, e2⟩ := h1
      obtain ⟨x, v⟩ := a
      have e1 : x = tKey p := e1
      have e2 : Rp K G v (.str p.2) := e2
      cases e2
      rw [kvr_tx h2, show x = tKey p from e1]
      rfl
theorem le_tx {K : PySem.W.Frag} {p : Addr} {kvs : List (Key × V)} {t : Txs} : Ob.le (cOb [(p, .dK kvs)] fun G => KvR K G kvs (txD t)) (cOb [(p, .dK (txK t))] fun _ => True) :=
  ⟨fun _ => Iff.rfl, fun G H ⟨h1, h2, h3, _, h5⟩ => by
    have e := kvr_tx h5
    subst e
    exact ⟨h1, h2, h3, fun _ _ _ _ => trivial, trivial⟩⟩
theorem sorted_names {t : Txs} (h : TxsOk t) {ys : List Str} (hp : ys.Perm (t.map Prod.fst)) : SeqAt.shaped (.tuple (ys.map PyData.str)) = true ∧ ys.length = t.length ∧ ∀ m ∈ ys, ∃ x, getT t m = some x ∧ TxOk x := by
  have mem : ∀ m ∈ ys, ∃ p ∈ t, p.1 = m := fun m hm => List.mem_map.mp (hp.mem_iff.mp hm)
  refine ⟨(shp_tup (n := 0) fun d hd => ?_).shaped, by rw [hp.length_eq, List.length_map], fun m hm => ?_⟩
  · obtain ⟨m, hm, rfl⟩ := List.mem_map.mp hd
    obtain ⟨p, hp2, rfl⟩ := mem m hm
    have := str_shaped (h.nm p hp2).1
    exact ⟨SeqAt.canLay_of_shaped this, Nat.zero_le _⟩
  · obtain ⟨p, hp2, rfl⟩ := mem m hm
    cases e : getT t p.1 with
    | some x => exact ⟨x, rfl, h.get e⟩
    | none =>
      unfold getT at e
      rw [Option.map_eq_none_iff] at e
      unfold getA at e
      rw [List.find?_eq_none] at e
      exact (e p hp2 (decide_eq_true rfl)).elim
theorem getT_none {t : Txs} {m : Str} (h : getT t m = none) : ∀ p ∈ t, p.1 ≠ m := fun p hp z => by
  unfold getT at h
  rw [Option.map_eq_none_iff] at h
  unfold getA at h
  rw [List.find?_eq_none] at h
  exact h p hp (decide_eq_true (show (Sum.inr p.1 : Key) = Sum.inr m by rw [z]))
theorem putT_new {t : Txs} {m x : Str} (h : getT t m = none) : putT t m x = t ++ [(m, x)] := if_neg fun z => by
  obtain ⟨p, hp, hk⟩ := List.any_eq_true.mp z
  have hk : (Sum.inr p.1 : Key) = Sum.inr m := of_decide_eq_true hk
  exact getT_none h p hp (Sum.inr.inj hk)
theorem TxsOk.add {t : Txs} (h : TxsOk t) {m x : Str} (e : getT t m = none) (hl : t.length < 6) (hx : TxOk x) (hm : (tl m).all okB = true) (hm2 : m.length ≤ 100) : TxsOk (putT t m x) := by
  rw [putT_new e]
  refine ⟨?_, by rw [List.length_append]; exact hl, fun p hp => ?_, fun p hp => ?_⟩
  · unfold NdT
    rw [List.map_append, List.nodup_append]
    refine ⟨h.nd, by simp, fun a ha b hb z => ?_⟩
    obtain ⟨p, hp, rfl⟩ := List.mem_map.mp ha
    have hb : b = m := by simpa using hb
    exact getT_none e p hp (z.trans hb)
  · rcases List.mem_append.mp hp with hp | hp
    · exact h.ok p hp
    · obtain rfl := List.mem_singleton.mp hp; exact hx
  · rcases List.mem_append.mp hp with hp | hp
    · exact h.nm p hp
    · obtain rfl := List.mem_singleton.mp hp; exact ⟨hm, hm2⟩
theorem nodup_inr : ∀ {l : List Str}, l.Nodup → (l.map (Sum.inr : Str → Key)).Nodup
  | [], _ => by simp
  | a :: r, h => by
    rw [List.nodup_cons] at h
    rw [List.map_cons, List.nodup_cons]
    refine ⟨fun z => ?_, nodup_inr h.2⟩
    obtain ⟨b, hb, e⟩ := List.mem_map.mp z
    rw [← Sum.inr.inj e] at h
    exact h.1 hb
theorem getT_mem {t : Txs} (nd : NdT t) {p : Str × Str} (hp : p ∈ t) : getT t p.1 = some p.2 := by
  obtain ⟨k, hk⟩ := List.getElem?_of_mem hp
  have := valD_nth (ps := txD t) (k := k) (key := tKey p) (d := .str p.2) (by rw [txD_keys]; exact nodup_inr nd) (by unfold txD; rw [List.getElem?_map, hk]; rfl)
  rw [show tKey p = .inr p.1 from rfl, txD_val] at this
  obtain ⟨y, hy, e⟩ := Option.map_eq_some_iff.mp this
  cases e
  exact hy
theorem SvAt.mono {K : PySem.W.Frag} {sv : Addr} {n n' : Nat} {tx : Txs} {dn un : List Ed} {o : Ob} (h : SvAt K sv n tx dn un o) (hn : n ≤ n') : SvAt K sv n' tx dn un o := by
  obtain ⟨aD, aU, kp, ko, C, M, rfl, ⟨D, L, kn, e, h1, h2⟩, r⟩ := h
  exact ⟨aD, aU, kp, ko, C, M, rfl, ⟨D, L, kn, e, Nat.le_trans h1 hn, h2⟩, r⟩
end DL

set_option Elab.async false
set_option linter.all false
set_option maxRecDepth 100000
namespace DL
open PySem PySem.Spec PyProof.Rows L2 TL
/-! ### what the law keeps -/
structure KH where
  aP : Addr
  aF : Addr
  ps : List V
  fs : List V
def KH.kvs (C : KH) : List (Key × V) := [(.inr "past", .ref C.aP), (.inr "future", .ref C.aF)]
def txV (t : Txs) : PyData := dicD (txD t)
structure KH.Abs (K : PySem.W.Frag) (C : KH) (past fut : List Txs) (G : Hp) : Prop where
  p : RpAll K G C.ps (past.reverse.map txV)
  f : RpAll K G C.fs (fut.reverse.map txV)
theorem kh_mono {K : PySem.W.Frag} {C : KH} {past fut : List Txs} : Mono (C.Abs K past fut) := fun G G' s h => ⟨RpAll.sub s h.p, RpAll.sub s h.f⟩
/-- past and future, the last first -/
def khOb (K : PySem.W.Frag) (g : Addr) (C : KH) (M : List Cell) (past fut : List Txs) : Ob := cOb ([(g, .dK C.kvs), (C.aP, .lst C.ps), (C.aF, .lst C.fs)] ++ M) (C.Abs K past fut)
section
variable {K : PySem.W.Frag} {g : Addr} {C : KH} {M : List Cell} {past fut : List Txs}
theorem kh_at : At (khOb K g C M past fut) g (.dK C.kvs) := at_cell (List.mem_append_left _ (.head _))
theorem kh_atP : At (khOb K g C M past fut) C.aP (.lst C.ps) := at_cell (List.mem_append_left _ (.tail _ (.head _)))
theorem kh_atF : At (khOb K g C M past fut) C.aF (.lst C.fs) := at_cell (List.mem_append_left _ (.tail _ (.tail _ (.head _))))
theorem kh_kn : Knows (khOb K g C M past fut) (C.Abs K past fut) := kw_cell
theorem rq_app {K : PySem.W.Frag} {G : Hp} {vs : List V} {v : V} {xs : List Txs} {x : Txs} (h : RpAll K G vs (xs.reverse.map txV)) (k : Rp K G v (txV x)) : RpAll K G (vs ++ [v]) ((x :: xs).reverse.map txV) := by
  rw [List.reverse_cons, List.map_append]
  exact RpAll.append h (.cons k .nil)
theorem rq_pop {K : PySem.W.Frag} {G : Hp} {vs : List V} {xs : List Txs} {x : Txs} (h : RpAll K G vs ((x :: xs).reverse.map txV)) : RpAll K G vs.dropLast (xs.reverse.map txV) ∧ ∀ v, vs[vs.length - 1]? = some v → Rp K G v (txV x) := by
  have hl := h.len
  rw [List.length_map, List.length_reverse, List.length_cons] at hl
  have e : (x :: xs).reverse.map txV = xs.reverse.map txV ++ [txV x] := by rw [List.reverse_cons, List.map_append]; rfl
  rw [e] at h
  refine ⟨?_, fun v hv => ?_⟩
  · have := h.take xs.length
    rw [List.take_append_of_le_length (by rw [List.length_map, List.length_reverse]; exact Nat.le_refl _), List.take_of_length_le (l := xs.reverse.map txV) (by rw [List.length_map, List.length_reverse]; exact Nat.le_refl _)] at this
    rw [List.dropLast_eq_take, hl]
    exact this
  · obtain ⟨y, h1, h2⟩ := h.get hv
    rw [hl, show xs.length + 1 - 1 = xs.length from rfl, List.getElem?_append_right (by rw [List.length_map, List.length_reverse]; exact Nat.le_refl _), List.length_map, List.length_reverse, Nat.sub_self] at h1
    have : txV x = y := by simpa using h1
    rw [this]; exact h2
theorem kh_putP {v : V} {x : Txs} : PutO (khOb K g C M past fut) C.aP (.lst (C.ps ++ [v])) (fun G => Rp K G v (txV x)) (khOb K g { C with ps := C.ps ++ [v] } M (x :: past) fut) :=
  put_at (l1 := [(g, .dK C.kvs)]) (l2 := (C.aF, .lst C.fs) :: M) trivial kh_mono fun G h k => ⟨rq_app h.p k, h.f⟩
theorem kh_putF {v : V} {x : Txs} : PutO (khOb K g C M past fut) C.aF (.lst (C.fs ++ [v])) (fun G => Rp K G v (txV x)) (khOb K g { C with fs := C.fs ++ [v] } M past (x :: fut)) :=
  put_at (l1 := [(g, .dK C.kvs), (C.aP, .lst C.ps)]) (l2 := M) trivial kh_mono fun G h k => ⟨h.p, rq_app h.f k⟩
theorem kh_popP {x : Txs} : PutO (khOb K g C M (x :: past) fut) C.aP (.lst C.ps.dropLast) (fun _ => True) (khOb K g { C with ps := C.ps.dropLast } M past fut) :=
  put_at (l1 := [(g, .dK C.kvs)]) (l2 := (C.aF, .lst C.fs) :: M) trivial kh_mono fun G h _ => ⟨(rq_pop h.p).1, h.f⟩
theorem kh_popF {x : Txs} : PutO (khOb K g C M past (x :: fut)) C.aF (.lst C.fs.dropLast) (fun _ => True) (khOb K g { C with fs := C.fs.dropLast } M past fut) :=
  put_at (l1 := [(g, .dK C.kvs), (C.aP, .lst C.ps)]) (l2 := M) trivial kh_mono fun G h _ => ⟨h.p, (rq_pop h.f).1⟩
theorem kh_put (C : KH) (p : Addr) : putK C.kvs (.inr "past") (.ref p) = { C with aP := p }.kvs ∧ putK C.kvs (.inr "future") (.ref p) = { C with aF := p }.kvs := by
  unfold KH.kvs
  exact ⟨by with_unfolding_all rfl, by with_unfolding_all rfl⟩
theorem kh_val (C : KH) : valV C.kvs (.inr "past") = some (.ref C.aP) ∧ valV C.kvs (.inr "future") = some (.ref C.aF) := by
  unfold KH.kvs
  exact ⟨by with_unfolding_all rfl, by with_unfolding_all rfl⟩
/-- past = [x] -/
theorem kh_newP {p : Addr} {vs : List V} {x : Txs} {ex : Hp → Prop} : PutO ((cOb [(p, .lst vs)] fun G => RpAll K G vs [txV x]).and (khOb K g C M past fut)) g (.dK { C with aP := p }.kvs) ex (khOb K g { C with aP := p, ps := vs } ((C.aP, .lst C.ps) :: M) [x] fut) := by
  have h : PutO (khOb K g C M past fut) g (.dK { C with aP := p }.kvs) ex (cOb ((g, .dK { C with aP := p }.kvs) :: (C.aP, .lst C.ps) :: (C.aF, .lst C.fs) :: M) (C.Abs K past fut)) := put_at (l1 := []) (l2 := (C.aP, .lst C.ps) :: (C.aF, .lst C.fs) :: M) trivial kh_mono fun G h _ => h
  refine (h.r (A := cOb [(p, .lst vs)] fun G => RpAll K G vs [txV x])).le ((le_merge (χ := fun G => C.Abs K past fut G ∧ RpAll K G vs [txV x]) (fun G G' s h => ⟨kh_mono _ _ s h.1, RpAll.sub s h.2⟩) fun G k1 k2 => ⟨k2, k1⟩).trans (le_perm ?_ kh_mono fun G k => ⟨k.2, k.1.f⟩))
  exact (List.Perm.swap _ _ _).trans (.cons _ (.cons _ (List.Perm.swap _ _ _)))
/-- future = [] -/
theorem kh_newF {p : Addr} {ex : Hp → Prop} : PutO ((cOb [(p, .lst [])] fun _ => True).and (khOb K g C M past fut)) g (.dK { C with aF := p }.kvs) ex (khOb K g { C with aF := p, fs := [] } ((C.aF, .lst C.fs) :: M) past []) := by
  have h : PutO (khOb K g C M past fut) g (.dK { C with aF := p }.kvs) ex (cOb ((g, .dK { C with aF := p }.kvs) :: (C.aP, .lst C.ps) :: (C.aF, .lst C.fs) :: M) (C.Abs K past fut)) := put_at (l1 := []) (l2 := (C.aP, .lst C.ps) :: (C.aF, .lst C.fs) :: M) trivial kh_mono fun G h _ => h
  refine (h.r (A := cOb [(p, .lst [])] fun _ => True)).le ((le_merge (χ := fun G => C.Abs K past fut G) kh_mono fun G _ k2 => k2).trans (le_perm ?_ kh_mono fun G k => ⟨k.p, .nil⟩))
  exact (List.Perm.swap _ _ _).trans (.cons _ ((List.Perm.swap _ _ _).trans (.cons _ (.refl _))))
end
/-- the law's dict, wherever its lists lie -/
def KnA (K : PySem.W.Frag) (g : Addr) (past fut : List Txs) (o : Ob) : Prop := ∃ (C : KH) (M : List Cell), o = khOb K g C M past fut ∧ C.ps.length = past.length ∧ C.fs.length = fut.length
/-! ### acts -/
inductive Act where
  | undo
  | redo
  | opn (m : Str)
  | edit (x : Ed)
def actD : Act → PyData
  | .undo => .tuple [.str "undo", .str ""]
  | .redo => .tuple [.str "redo", .str ""]
  | .opn m => .tuple [.str "open", .str m]
  | .edit x => .tuple [.str "edit", .str x.m, edP x]
structure K3 where
  w : Str
  cur : Txs
  past : List Txs
  fut : List Txs
def kUndo (cur : Txs) (fut : List Txs) : List Txs → K3
  | [] => ⟨"nothing", cur, [], fut⟩
  | p :: ps => ⟨"done", p, ps, cur :: fut⟩
def kRedo (cur : Txs) (past : List Txs) : List Txs → K3
  | [] => ⟨"nothing", cur, past, []⟩
  | f :: fs => ⟨"done", f, cur :: past, fs⟩
def kEdit (cur : Txs) (past fut : List Txs) (x : Ed) : Option Str → K3
  | none => ⟨"unknown", cur, past, fut⟩
  | some t => if 0 ≤ x.s ∧ x.s ≤ x.e ∧ x.e ≤ (t.length : Int) then ⟨"done", putT cur x.m (apS t x), cur :: past, []⟩ else ⟨"invalid", cur, past, fut⟩
def kstep (cur : Txs) (past fut : List Txs) : Act → K3
  | .undo => kUndo cur fut past
  | .redo => kRedo cur past fut
  | .opn m => ⟨"done", putT cur m "", [], []⟩
  | .edit x => kEdit cur past fut x (getT cur x.m)
/-- each edit leads to the texts beside it -/
def Chain : Txs → List Ed → List Txs → Prop
  | _, [], [] => True
  | cur, x :: xs, t' :: ts => (∃ t, getT cur x.m = some t ∧ x.n.length ≤ 100000 ∧ Fits t x.s x.e x.n ∧ putT cur x.m (apS t x) = t') ∧ Chain t' xs ts
  | _, _, _ => False
def nm5 : List Str := ["m0", "m1", "m2", "m3", "m4"]
structure Rl (k B : Nat) (cur : Txs) (dn un : List Ed) (past fut : List Txs) : Prop where
  ok : TxsOk cur
  ks : cur.map Prod.fst = nm5.take k
  k2 : 2 ≤ k ∧ k ≤ 5
  c1 : Chain cur dn past
  c2 : Chain cur un fut
  b : ∀ t ∈ cur :: (past ++ fut), ∀ p ∈ t, p.2.length ≤ B
theorem Chain.back {cur : Txs} {x : Ed} {xs ys : List Ed} {t' : Txs} {ts us : List Txs} (ok : TxsOk cur) (h : Chain cur (x :: xs) (t' :: ts)) (h2 : Chain cur ys us) : ∃ t, getT cur x.m = some t ∧ x.n.length ≤ 100000 ∧ Fits t x.s x.e x.n ∧ putT cur x.m (apS t x) = t' ∧ TxsOk t' ∧ t'.map Prod.fst = cur.map Prod.fst ∧ Chain t' xs ts ∧ Chain t' (invE t x :: ys) (cur :: us) := by
  obtain ⟨⟨t, h1, hn, hf, hp⟩, hc⟩ := h
  have ht := ok.get h1
  obtain ⟨e1, e2, e3, e4⟩ := edit_ok ht hf
  have okt : TxsOk t' := by rw [← hp]; exact ok.put h1 e1
  refine ⟨t, h1, hn, hf, hp, okt, by rw [← hp]; exact putT_keys h1, hc, ⟨apS t x, ?_, ?_, e2, ?_⟩, h2⟩
  · rw [← hp, getT_put]; exact if_pos rfl
  · have f3 := e2
    have : (invE t x).n.length ≤ 4000 := by
      have h4 := ht.1
      show (mkS _).length ≤ 4000
      rw [len_tl, tl_mkS, List.length_drop, List.length_take, ← len_tl]
      omega
    omega
  · show putT t' x.m _ = cur
    rw [e3, ← hp, putT_put, putT_same ok.nd h1]
theorem Rl.undo {k B : Nat} {cur : Txs} {x : Ed} {xs un : List Ed} {past fut : List Txs} (h : Rl k B cur (x :: xs) un past fut) : ∃ t p ps, past = p :: ps ∧ getT cur x.m = some t ∧ x.n.length ≤ 100000 ∧ Fits t x.s x.e x.n ∧ putT cur x.m (apS t x) = p ∧ Rl k B p xs (invE t x :: un) ps (cur :: fut) := by
  cases past with
  | nil => exact h.c1.elim
  | cons p ps =>
    obtain ⟨t, h1, h2, h3, h4, h5, h6, h7, h8⟩ := Chain.back h.ok h.c1 h.c2
    exact ⟨t, p, ps, rfl, h1, h2, h3, h4, h5, h6.trans h.ks, h.k2, h7, h8, fun t ht => h.b t (by
      simp only [List.mem_cons, List.mem_append] at ht ⊢
      rcases ht with h | h | h | h <;> simp [h])⟩
theorem Rl.redo {k B : Nat} {cur : Txs} {x : Ed} {dn xs : List Ed} {past fut : List Txs} (h : Rl k B cur dn (x :: xs) past fut) : ∃ t p ps, fut = p :: ps ∧ getT cur x.m = some t ∧ x.n.length ≤ 100000 ∧ Fits t x.s x.e x.n ∧ putT cur x.m (apS t x) = p ∧ Rl k B p (invE t x :: dn) xs (cur :: past) ps := by
  cases fut with
  | nil => exact h.c2.elim
  | cons p ps =>
    obtain ⟨t, h1, h2, h3, h4, h5, h6, h7, h8⟩ := Chain.back h.ok h.c2 h.c1
    exact ⟨t, p, ps, rfl, h1, h2, h3, h4, h5, h6.trans h.ks, h.k2, h8, h7, fun t ht => h.b t (by
      simp only [List.mem_cons, List.mem_append] at ht ⊢
      rcases ht with h | (h | h) | h <;> simp [h])⟩
theorem Rl.edit {k B : Nat} {cur : Txs} {dn un : List Ed} {past fut : List Txs} (h : Rl k B cur dn un past fut) {x : Ed} {t : Str} (ht : getT cur x.m = some t) (hf : Fits t x.s x.e x.n) : Rl k (B + x.n.length) (putT cur x.m (apS t x)) (invE t x :: dn) [] (cur :: past) [] := by
  have hto := h.ok.get ht
  obtain ⟨e1, e2, e3, e4⟩ := edit_ok hto hf
  have hlen : (apS t x).length ≤ t.length + x.n.length := by
    unfold apS
    rw [len_tl, tl_mkS, List.length_append, List.length_append, List.length_take, List.length_drop, ← len_tl, ← len_tl]
    have f1 := hf.1
    have f2 := hf.2.1
    omega
  refine ⟨h.ok.put ht e1, (putT_keys ht).trans h.ks, h.k2, ⟨⟨apS t x, ?_, ?_, e2, ?_⟩, h.c1⟩, trivial, fun u hu p hp => ?_⟩
  · show getT (putT cur x.m _) x.m = _
    rw [getT_put]; exact if_pos rfl
  · show (mkS _).length ≤ 100000
    rw [len_tl, tl_mkS, List.length_drop, List.length_take, ← len_tl]
    have := hto.1
    omega
  · show putT (putT cur x.m (apS t x)) x.m _ = cur
    rw [e3, putT_put, putT_same h.ok.nd ht]
  · rw [List.append_nil] at hu
    rcases List.mem_cons.mp hu with rfl | hu
    · rcases putA_mem hp with rfl | hp
      · show (apS t x).length ≤ _
        unfold getT at ht
        obtain ⟨q, hq, hqt⟩ := Option.map_eq_some_iff.mp ht
        have := h.b cur (.head _) q (getA_mem hq).1
        rw [hqt] at this
        omega
      · have := h.b cur (.head _) p hp; omega
    · have := h.b u (by
        rcases List.mem_cons.mp hu with rfl | hu
        · exact .head _
        · exact .tail _ (List.mem_append_left _ hu)) p hp
      omega
theorem Rl.mono {k B B' : Nat} {cur : Txs} {dn un : List Ed} {past fut : List Txs} (h : Rl k B cur dn un past fut) (hb : B ≤ B') : Rl k B' cur dn un past fut := ⟨h.ok, h.ks, h.k2, h.c1, h.c2, fun t ht p hp => Nat.le_trans (h.b t ht p hp) hb⟩
/-- names that a new module gets -/
theorem nm5_ok : ∀ k, 2 ≤ k → k < 5 → ∃ m, nm5[k]? = some m ∧ (tl m).all okB = true ∧ m.length ≤ 100 ∧ PyData.eqv (.list (toksD (tl m))) (.list [tkD ⟨"name", 0, m.length⟩]) = true ∧ m ∉ nm5.take k ∧ nm5.take (k + 1) = nm5.take k ++ [m] ∧ m = ("m" : Str) ++ Str.ofString (toString (k : Int)) := by
  intro k h2 h5
  have : k = 2 ∨ k = 3 ∨ k = 4 := by omega
  rcases this with rfl | rfl | rfl <;> exact ⟨_, rfl, by decide +kernel, by decide +kernel, by decide +kernel, by decide +kernel, rfl, by decide +kernel⟩
theorem Rl.opn {k B : Nat} {cur : Txs} {dn un : List Ed} {past fut : List Txs} (h : Rl k B cur dn un past fut) {m : Str} (hk : k < 5) (hm : nm5[k]? = some m) : getT cur m = none ∧ cur.length < 6 ∧ Rl (k + 1) B (putT cur m "") [] [] [] [] := by
  obtain ⟨m', h1, h2, h3, h4, h5, h6, _⟩ := nm5_ok k h.k2.1 hk
  obtain rfl : m' = m := by rw [h1] at hm; cases hm; rfl
  have hno : getT cur m' = none := by
    cases e : getT cur m' with
    | none => rfl
    | some x =>
      unfold getT at e
      obtain ⟨p, hp, _⟩ := Option.map_eq_some_iff.mp e
      obtain ⟨hm, hk2⟩ := getA_mem hp
      have hk2 : (Sum.inr p.1 : Key) = Sum.inr m' := hk2
      exact (h5 (by rw [← h.ks]; exact List.mem_map.mpr ⟨p, hm, Sum.inr.inj hk2⟩)).elim
  have hl : cur.length < 6 := by
    have e := congrArg List.length h.ks
    rw [List.length_map, List.length_take] at e
    omega
  have tok : TxOk "" := ⟨Nat.zero_le _, rfl⟩
  refine ⟨hno, hl, h.ok.add hno hl tok h2 h3, ?_, ⟨by have := h.k2.1; omega, hk⟩, trivial, trivial, fun t ht p hp => ?_⟩
  · rw [putT_new hno, List.map_append, h.ks, h6]; rfl
  · have ht : t = putT cur m' "" := by simpa using ht
    subst ht
    rw [putT_new hno] at hp
    rcases List.mem_append.mp hp with hp | hp
    · exact h.b cur (.head _) p hp
    · obtain rfl := List.mem_singleton.mp hp; exact Nat.zero_le _
/-- acts that the law draws -/
def ActOk (k : Nat) : Act → Prop
  | .opn m => k < 5 ∧ nm5[k]? = some m
  | .edit x => (tl x.n).all okB = true ∧ x.n.length ≤ 80
  | _ => True
def K3.st (r : K3) (k : Nat) : Act → Nat
  | .opn _ => k + 1
  | _ => k
def S__law_snippet9 (K : PySem.W.Frag) : DS := fun dvs o R X => ∃ τ, dvs = [.raw (.ref τ)] ∧ o = tapeOb K τ ∧ ∀ s : Str, (tl s).all okB = true → s.length ≤ 80 → R (.d (.str s)) (tapeOb K τ)
def S__law_edit_of (K : PySem.W.Frag) : DS := fun dvs o R X => ∃ (τ : Addr) (t : Str), dvs = [.raw (.ref τ), .d (.str t)] ∧ o = tapeOb K τ ∧ t.length ≤ 4000 ∧ ∀ (s e : Int) (n : Str), (tl n).all okB = true → n.length ≤ 80 → R (.d (.tuple [.int s, .int e, .str n])) (tapeOb K τ)
def S__law_do (K : PySem.W.Frag) : DS := fun dvs o R X => ∃ (sv : Addr) (n k B : Nat) (cur : Txs) (dn un : List Ed) (past fut : List Txs) (a : Act), dvs = [.raw (.ref sv), .d (actD a)] ∧ SvAt K sv n cur dn un o ∧ n < 10000 ∧ dn.length < 10000 ∧ un.length < 10000 ∧ B ≤ 3000 ∧ Rl k B cur dn un past fut ∧ ActOk k a ∧
  ∀ o' dn' un', SvAt K sv (n + 2) (kstep cur past fut a).cur dn' un' o' → dn'.length + un'.length ≤ dn.length + un.length + 1 → Rl ((kstep cur past fut a).st k a) (B + 80) (kstep cur past fut a).cur dn' un' (kstep cur past fut a).past (kstep cur past fut a).fut → R (.d (.str (kstep cur past fut a).w)) o'
def S__law_expected (K : PySem.W.Frag) : DS := fun dvs o R X => ∃ (g : Addr) (cur : Txs) (past fut : List Txs) (a : Act), dvs = [.raw (.ref g), .d (actD a)] ∧ KnA K g (cur :: past) fut o ∧ past.length < 10000 ∧ fut.length < 10000 ∧ TxsOk cur ∧ (∃ k, ActOk k a) ∧
  ∀ o', KnA K g ((kstep cur past fut a).cur :: (kstep cur past fut a).past) (kstep cur past fut a).fut o' → R (.d (.str (kstep cur past fut a).w)) o'
def S__law_act (K : PySem.W.Frag) : DS := fun dvs o R X => ∃ (τ g : Addr) (k B : Nat) (cur : Txs) (dn un : List Ed) (past fut : List Txs) (o1 : Ob), dvs = [.raw (.ref τ), .raw (.ref g)] ∧ o = o1.and (tapeOb K τ) ∧ KnA K g (cur :: past) fut o1 ∧ Rl k B cur dn un past fut ∧
  ∀ a, ActOk k a → R (.d (actD a)) (o1.and (tapeOb K τ))
theorem Chain.len : ∀ {cur : Txs} {xs : List Ed} {ts : List Txs}, Chain cur xs ts → xs.length = ts.length
  | _, [], [], _ => rfl
  | _, _ :: _, _ :: _, h => congrArg (· + 1) (Chain.len h.2)
  | _, [], _ :: _, h => h.elim
  | _, _ :: _, [], h => h.elim
theorem sm_tx {t : Txs} (h : NdT t) : Sm 1 (dicD (txD t)) := .dic (by rw [txD_keys]; exact nodup_inr h) fun p hp => by
  obtain ⟨q, _, rfl⟩ := List.mem_map.mp hp
  exact .str
def tx0 : Txs := [("m0", "def f() = 1\n"), ("m1", "data D(x: Int)\n")]
theorem tx0_ok : TxsOk tx0 ∧ (∀ p ∈ tx0, p.1.length ≤ 100 ∧ PyData.eqv (.list (toksD (tl p.1))) (.list [tkD ⟨"name", 0, p.1.length⟩]) = true) ∧ Rl 2 100 tx0 [] [] [] [] := by
  have mem : ∀ {P : Str × Str → Prop}, P ("m0", "def f() = 1\n") → P ("m1", "data D(x: Int)\n") → ∀ p ∈ tx0, P p := fun h1 h2 p hp => by
    rcases List.mem_cons.mp hp with rfl | hp
    · exact h1
    · obtain rfl := List.mem_singleton.mp hp; exact h2
  have ok : TxsOk tx0 := ⟨by show ([_, _] : List Str).Nodup; decide +kernel, by decide, mem ⟨by decide +kernel, by decide +kernel⟩ ⟨by decide +kernel, by decide +kernel⟩, mem ⟨by decide +kernel, by decide +kernel⟩ ⟨by decide +kernel, by decide +kernel⟩⟩
  refine ⟨ok, mem ⟨by decide +kernel, by decide +kernel⟩ ⟨by decide +kernel, by decide +kernel⟩, ok, rfl, ⟨by decide, by decide⟩, trivial, trivial, fun t ht => ?_⟩
  have ht : t = tx0 := by simpa using ht
  subst ht
  exact mem (by decide +kernel) (by decide +kernel)
/-- the law's dict is made -/
theorem le_known {K : PySem.W.Frag} {g p p2 : Addr} {vs : List V} {ps : GKv} {D : Ob} : Ob.le ((cOb [(g, .dK [(.inr "past", .ref p), (.inr "future", .ref p2)])] fun G => GVs K G [(.inr "past", .ref p), (.inr "future", .ref p2)] ps).and ((cOb [(p2, .lst [])] fun _ => True).and ((cOb [(p, .lst vs)] fun G => RpAll K G vs [txV tx0]).and D))) ((khOb K g ⟨p, p2, vs, []⟩ [] [tx0] []).and D) := by
  have l1 : Ob.le ((cOb [(p2, .lst [])] fun _ => True).and (cOb [(p, .lst vs)] fun G => RpAll K G vs [txV tx0])) (cOb ([(p2, .lst [])] ++ [(p, .lst vs)]) fun G => RpAll K G vs [txV tx0]) := le_merge (fun _ _ s h => RpAll.sub s h) fun G _ k => k
  have l2 : Ob.le ((cOb [(g, .dK [(.inr "past", .ref p), (.inr "future", .ref p2)])] fun G => GVs K G [(.inr "past", .ref p), (.inr "future", .ref p2)] ps).and (cOb ([(p2, .lst [])] ++ [(p, .lst vs)]) fun G => RpAll K G vs [txV tx0])) (cOb ([(g, .dK [(.inr "past", .ref p), (.inr "future", .ref p2)])] ++ ([(p2, .lst [])] ++ [(p, .lst vs)])) fun G => RpAll K G vs [txV tx0]) := le_merge (fun _ _ s h => RpAll.sub s h) fun G _ k => k
  have l3 : Ob.le (cOb ([(g, .dK [(.inr "past", .ref p), (.inr "future", .ref p2)])] ++ ([(p2, .lst [])] ++ [(p, .lst vs)])) fun G => RpAll K G vs [txV tx0]) (khOb K g ⟨p, p2, vs, []⟩ [] [tx0] []) :=
    le_perm (.cons _ (List.Perm.swap _ _ _)) kh_mono fun G h => ⟨h, .nil⟩
  have a1 := Ob.le.and (Ob.le.refl (A := cOb [(g, .dK [(.inr "past", .ref p), (.inr "future", .ref p2)])] fun G => GVs K G [(.inr "past", .ref p), (.inr "future", .ref p2)] ps)) (and_assoc_le' (A := cOb [(p2, .lst [])] fun _ => True) (B := cOb [(p, .lst vs)] fun G => RpAll K G vs [txV tx0]) (C := D))
  exact a1.trans (and_assoc_le'.trans (Ob.le.and ((Ob.le.and .refl l1).trans (l2.trans l3)) .refl))
end DL

set_option Elab.async false
set_option linter.all false
set_option maxRecDepth 100000
set_option maxHeartbeats 4000000
/-! the facts that speak of data -/
namespace DL
open PySem PySem.Spec PyProof.Rows L2
theorem tupS_rp {K : PySem.W.Frag} {a : Addr} {ks : List Str} (h : tupSB K a (ks.map V.str) = true) (hs : Nat.ble ks.length 1000 = true := by rfl) : ∀ G, Rp K G (.ref a) (.tuple (ks.map .str)) := by
  obtain ⟨ob, its, n, h1, h2, h3, h4⟩ := tupSB_ok h
  exact rp_strs h1 h2 h3 h4 hs
section
variable {K : PySem.W.Frag} {h : Heap} {mg : Str → Option Value}
theorem fTup_ok (X : K.In h) (G : h.Ns mainGlobals mg) {x : Str} {ks : List Str} (c : fTup x ks K = true) (hs : Nat.ble ks.length 1000 = true := by rfl) : mg x = some (.ref (He.ga K x)) ∧ ∀ G, Rp K G (.ref (He.ga K x)) (.tuple (ks.map .str)) := by
  obtain ⟨h1, h2⟩ := He.ba c
  exact ⟨fGlo_ok X G h1, tupS_rp h2 hs⟩
end
end DL

set_option Elab.async false
set_option linter.all false
set_option maxRecDepth 100000
set_option maxHeartbeats 4000000
namespace My
open PySem PySem.Spec PyProof.Rows L2 DL
def k_CHARACTERS : Str := " !\"#$&'()*+,-./0123456789:;<=>?@ABCDEFGHIJKLMNOPQRSTUVWXYZ[\\]^_`abcdefghijklmnopqrstuvwxyz{|}~\n"
def k_LETTERS : Str := "abcdefghijklmnopqrstuvwxyzABCDEFGHIJKLMNOPQRSTUVWXYZ"
def k_DIGITS : Str := "0123456789"
def k_NAME_CHARACTERS : Str := "abcdefghijklmnopqrstuvwxyzABCDEFGHIJKLMNOPQRSTUVWXYZ0123456789_"
def k_SIGNS : Str := "()[],:.=<+-*/"
def k_WORDS : List Str := ["import", "data", "trait", "with", "impl", "for", "def", "let", "in", "if", "then", "else", "loop", "times", "do", "not", "and", "or", "True", "False"]
def topS (i : Nat) : Stmt := PySem.Challenge.pw_samenames_k29_undo_and_redo.main.body.getD i (.Pass ⟨0, 0, 0, 0⟩)
abbrev s_has_right_characters : Stmt := topS 15
abbrev N_has_right_characters : List Str := ["value", "char"]
theorem sc_has_right_characters : FnScope N_has_right_characters ["value"] (defScope s_has_right_characters) := ⟨rfl, rfl, rfl, by decide +kernel, rfl, by decide +kernel, by decide +kernel⟩
abbrev s_is_text : Stmt := topS 16
abbrev N_is_text : List Str := ["value"]
theorem sc_is_text : FnScope N_is_text ["value"] (defScope s_is_text) := ⟨rfl, rfl, rfl, by decide +kernel, rfl, by decide +kernel, by decide +kernel⟩
abbrev s_apply_edit : Stmt := topS 17
abbrev N_apply_edit : List Str := ["text", "edit", "start", "end", "new", "result"]
theorem sc_apply_edit : FnScope N_apply_edit ["text", "edit"] (defScope s_apply_edit) := ⟨rfl, rfl, rfl, by decide +kernel, rfl, by decide +kernel, by decide +kernel⟩
abbrev s_inverse : Stmt := topS 18
abbrev N_inverse : List Str := ["text", "edit", "start", "end", "new"]
theorem sc_inverse : FnScope N_inverse ["text", "edit"] (defScope s_inverse) := ⟨rfl, rfl, rfl, by decide +kernel, rfl, by decide +kernel, by decide +kernel⟩
abbrev s_run_end : Stmt := topS 25
abbrev N_run_end : List Str := ["text", "start", "allowed", "end"]
theorem sc_run_end : FnScope N_run_end ["text", "start", "allowed"] (defScope s_run_end) := ⟨rfl, rfl, rfl, by decide +kernel, rfl, by decide +kernel, by decide +kernel⟩
abbrev s_token_at : Stmt := topS 26
abbrev N_token_at : List Str := ["text", "start", "char", "end"]
theorem sc_token_at : FnScope N_token_at ["text", "start"] (defScope s_token_at) := ⟨rfl, rfl, rfl, by decide +kernel, rfl, by decide +kernel, by decide +kernel⟩
abbrev s_tokens_between : Stmt := topS 27
abbrev N_tokens_between : List Str := ["text", "start", "end", "result", "at", "line_end", "token"]
theorem sc_tokens_between : FnScope N_tokens_between ["text", "start", "end"] (defScope s_tokens_between) := ⟨rfl, rfl, rfl, by decide +kernel, rfl, by decide +kernel, by decide +kernel⟩
abbrev s_tokens : Stmt := topS 28
abbrev N_tokens : List Str := ["text"]
theorem sc_tokens : FnScope N_tokens ["text"] (defScope s_tokens) := ⟨rfl, rfl, rfl, by decide +kernel, rfl, by decide +kernel, by decide +kernel⟩
abbrev s_is_name : Stmt := topS 29
abbrev N_is_name : List Str := ["value"]
theorem sc_is_name : FnScope N_is_name ["value"] (defScope s_is_name) := ⟨rfl, rfl, rfl, by decide +kernel, rfl, by decide +kernel, by decide +kernel⟩
abbrev s_Keeper___init__ : Stmt := inClass (topS 110) 0
abbrev N_Keeper___init__ : List Str := ["self", "compute"]
theorem sc_Keeper___init__ : FnScope N_Keeper___init__ ["self", "compute"] (defScope s_Keeper___init__) := ⟨rfl, rfl, rfl, by decide +kernel, rfl, by decide +kernel, by decide +kernel⟩
abbrev s_Keeper_put : Stmt := inClass (topS 110) 1
abbrev N_Keeper_put : List Str := ["self", "key", "value"]
theorem sc_Keeper_put : FnScope N_Keeper_put ["self", "key", "value"] (defScope s_Keeper_put) := ⟨rfl, rfl, rfl, by decide +kernel, rfl, by decide +kernel, by decide +kernel⟩
abbrev s_Keeper_computed : Stmt := inClass (topS 110) 12
abbrev N_Keeper_computed : List Str := ["self", "done"]
theorem sc_Keeper_computed : FnScope N_Keeper_computed ["self"] (defScope s_Keeper_computed) := ⟨rfl, rfl, rfl, by decide +kernel, rfl, by decide +kernel, by decide +kernel⟩
abbrev s_compute : Stmt := topS 118
abbrev N_compute : List Str := ["keeper", "key", "rule"]
abbrev s_new_keeper : Stmt := topS 119
abbrev N_new_keeper : List Str := ["program", "keeper", "module"]
theorem sc_new_keeper : FnScope N_new_keeper ["program"] (defScope s_new_keeper) := ⟨rfl, rfl, rfl, by decide +kernel, rfl, by decide +kernel, by decide +kernel⟩
abbrev s_need_module : Stmt := topS 126
abbrev N_need_module : List Str := ["name", "text"]
theorem sc_need_module : FnScope N_need_module ["name", "text"] (defScope s_need_module) := ⟨rfl, rfl, rfl, by decide +kernel, rfl, by decide +kernel, by decide +kernel⟩
abbrev s_Server___init__ : Stmt := inClass (topS 127) 0
abbrev N_Server___init__ : List Str := ["self", "program", "module"]
theorem sc_Server___init__ : FnScope N_Server___init__ ["self", "program"] (defScope s_Server___init__) := ⟨rfl, rfl, rfl, by decide +kernel, rfl, by decide +kernel, by decide +kernel⟩
abbrev s_Server_modules : Stmt := inClass (topS 127) 1
abbrev N_Server_modules : List Str := ["self"]
theorem sc_Server_modules : FnScope N_Server_modules ["self"] (defScope s_Server_modules) := ⟨rfl, rfl, rfl, by decide +kernel, rfl, by decide +kernel, by decide +kernel⟩
abbrev s_Server_program : Stmt := inClass (topS 127) 2
abbrev N_Server_program : List Str := ["self"]
theorem sc_Server_program : FnScope N_Server_program ["self"] (defScope s_Server_program) := ⟨rfl, rfl, rfl, by decide +kernel, rfl, by decide +kernel, by decide +kernel⟩
abbrev s_Server_need_file : Stmt := inClass (topS 127) 3
abbrev N_Server_need_file : List Str := ["self", "module"]
theorem sc_Server_need_file : FnScope N_Server_need_file ["self", "module"] (defScope s_Server_need_file) := ⟨rfl, rfl, rfl, by decide +kernel, rfl, by decide +kernel, by decide +kernel⟩
abbrev s_Server_forget_steps : Stmt := inClass (topS 127) 5
abbrev N_Server_forget_steps : List Str := ["self"]
theorem sc_Server_forget_steps : FnScope N_Server_forget_steps ["self"] (defScope s_Server_forget_steps) := ⟨rfl, rfl, rfl, by decide +kernel, rfl, by decide +kernel, by decide +kernel⟩
abbrev s_Server_open_file : Stmt := inClass (topS 127) 6
abbrev N_Server_open_file : List Str := ["self", "module", "text"]
theorem sc_Server_open_file : FnScope N_Server_open_file ["self", "module", "text"] (defScope s_Server_open_file) := ⟨rfl, rfl, rfl, by decide +kernel, rfl, by decide +kernel, by decide +kernel⟩
abbrev s_Server_set_text : Stmt := inClass (topS 127) 8
abbrev N_Server_set_text : List Str := ["self", "module", "text"]
theorem sc_Server_set_text : FnScope N_Server_set_text ["self", "module", "text"] (defScope s_Server_set_text) := ⟨rfl, rfl, rfl, by decide +kernel, rfl, by decide +kernel, by decide +kernel⟩
abbrev s_Server_do_step : Stmt := inClass (topS 127) 9
abbrev N_Server_do_step : List Str := ["self", "edits", "back", "module", "edit", "text"]
theorem sc_Server_do_step : FnScope N_Server_do_step ["self", "edits"] (defScope s_Server_do_step) := ⟨rfl, rfl, rfl, by decide +kernel, rfl, by decide +kernel, by decide +kernel⟩
abbrev s_Server_edit : Stmt := inClass (topS 127) 10
abbrev N_Server_edit : List Str := ["self", "module", "edit"]
theorem sc_Server_edit : FnScope N_Server_edit ["self", "module", "edit"] (defScope s_Server_edit) := ⟨rfl, rfl, rfl, by decide +kernel, rfl, by decide +kernel, by decide +kernel⟩
abbrev s_Server_undo : Stmt := inClass (topS 127) 11
abbrev N_Server_undo : List Str := ["self"]
theorem sc_Server_undo : FnScope N_Server_undo ["self"] (defScope s_Server_undo) := ⟨rfl, rfl, rfl, by decide +kernel, rfl, by decide +kernel, by decide +kernel⟩
abbrev s_Server_redo : Stmt := inClass (topS 127) 12
abbrev N_Server_redo : List Str := ["self"]
theorem sc_Server_redo : FnScope N_Server_redo ["self"] (defScope s_Server_redo) := ⟨rfl, rfl, rfl, by decide +kernel, rfl, by decide +kernel, by decide +kernel⟩
abbrev s__law_tape : Stmt := topS 129
abbrev N__law_tape : List Str := ["_law_script", "_law_cell", "_law_cells", "_law_seed"]
theorem sc__law_tape : FnScope N__law_tape ["_law_script"] (defScope s__law_tape) := ⟨rfl, rfl, rfl, by decide +kernel, rfl, by decide +kernel, by decide +kernel⟩
abbrev s__law_take : Stmt := topS 130
abbrev N__law_take : List Str := ["_law_tape_here", "_law_many", "_law_drawn", "_law_mixed"]
theorem sc__law_take : FnScope N__law_take ["_law_tape_here", "_law_many"] (defScope s__law_take) := ⟨rfl, rfl, rfl, by decide +kernel, rfl, by decide +kernel, by decide +kernel⟩
abbrev s__law_is_integer : Stmt := topS 131
abbrev N__law_is_integer : List Str := ["_law_actual"]
theorem sc__law_is_integer : FnScope N__law_is_integer ["_law_actual"] (defScope s__law_is_integer) := ⟨rfl, rfl, rfl, by decide +kernel, rfl, by decide +kernel, by decide +kernel⟩
abbrev s__law_same_items : Stmt := topS 132
abbrev N__law_same_items : List Str := ["_law_actual", "_law_expected_here", "_law_k"]
theorem sc__law_same_items : FnScope N__law_same_items ["_law_actual", "_law_expected_here"] (defScope s__law_same_items) := ⟨rfl, rfl, rfl, by decide +kernel, rfl, by decide +kernel, by decide +kernel⟩
abbrev s__law_same : Stmt := topS 133
abbrev N__law_same : List Str := ["_law_actual", "_law_expected_here", "_law_key"]
theorem sc__law_same : FnScope N__law_same ["_law_actual", "_law_expected_here"] (defScope s__law_same) := ⟨rfl, rfl, rfl, by decide +kernel, rfl, by decide +kernel, by decide +kernel⟩
abbrev s__law_snippet : Stmt := topS 134
abbrev N__law_snippet : List Str := ["_law_tape_here", "_law_pieces", "_law_k"]
theorem sc__law_snippet : FnScope N__law_snippet ["_law_tape_here"] (defScope s__law_snippet) := ⟨rfl, rfl, rfl, by decide +kernel, rfl, by decide +kernel, by decide +kernel⟩
abbrev s__law_edit_of : Stmt := topS 135
abbrev N__law_edit_of : List Str := ["_law_tape_here", "_law_text", "_law_start", "_law_end"]
theorem sc__law_edit_of : FnScope N__law_edit_of ["_law_tape_here", "_law_text"] (defScope s__law_edit_of) := ⟨rfl, rfl, rfl, by decide +kernel, rfl, by decide +kernel, by decide +kernel⟩
abbrev s__law_do : Stmt := topS 136
abbrev N__law_do : List Str := ["_law_server", "_law_act_here", "e"]
theorem sc__law_do : FnScope N__law_do ["_law_server", "_law_act_here"] (defScope s__law_do) := ⟨rfl, rfl, rfl, by decide +kernel, rfl, by decide +kernel, by decide +kernel⟩
abbrev s__law_expected : Stmt := topS 137
abbrev N__law_expected : List Str := ["_law_known", "_law_act_here", "_law_texts", "_law_new", "_law_start", "_law_end", "_law_string", "_law_text"]
theorem sc__law_expected : FnScope N__law_expected ["_law_known", "_law_act_here"] (defScope s__law_expected) := ⟨rfl, rfl, rfl, by decide +kernel, rfl, by decide +kernel, by decide +kernel⟩
abbrev s__law_act : Stmt := topS 138
abbrev N__law_act : List Str := ["_law_tape_here", "_law_known", "_law_texts", "_law_choice", "_law_module", "_law_text", "_law_start", "_law_end", "_law_new"]
theorem sc__law_act : FnScope N__law_act ["_law_tape_here", "_law_known"] (defScope s__law_act) := ⟨rfl, rfl, rfl, by decide +kernel, rfl, by decide +kernel, by decide +kernel⟩
abbrev s_law : Stmt := topS 139
abbrev N_law : List Str := ["_law_script", "_law_tape_here", "_law_texts", "_law_server", "_law_known", "_law_k", "_law_act_here"]
theorem sc_law : FnScope N_law ["_law_script"] (defScope s_law) := ⟨rfl, rfl, rfl, by decide +kernel, rfl, by decide +kernel, by decide +kernel⟩
set_option genSizeOf false
set_option genSizeOfSpec false
set_option genInjectivity false
structure Txt (K : PySem.W.Frag) (mg : Str → Option Value) where
  a_Entry : Addr
  g_Entry : mg "Entry" = some (.ref a_Entry)
  i_Entry : PySem.W.nsIn K mainGlobals "Entry" = some (some (.ref a_Entry))
  cl_Entry : Cls K a_Entry
  no_Entry_value : NoAttr K a_Entry "value"
  no_Entry_used : NoAttr K a_Entry "used"
  no_Entry_checked : NoAttr K a_Entry "checked"
  no_Entry_changed : NoAttr K a_Entry "changed"
  a_Keeper : Addr
  g_Keeper : mg "Keeper" = some (.ref a_Keeper)
  i_Keeper : PySem.W.nsIn K mainGlobals "Keeper" = some (some (.ref a_Keeper))
  cl_Keeper : Cls K a_Keeper
  no_Keeper__compute : NoAttr K a_Keeper "_compute"
  no_Keeper__inputs : NoAttr K a_Keeper "_inputs"
  no_Keeper__entries : NoAttr K a_Keeper "_entries"
  no_Keeper__revision : NoAttr K a_Keeper "_revision"
  no_Keeper__left : NoAttr K a_Keeper "_left"
  no_Keeper__going : NoAttr K a_Keeper "_going"
  no_Keeper__asked : NoAttr K a_Keeper "_asked"
  no_Keeper__done : NoAttr K a_Keeper "_done"
  a_Server : Addr
  g_Server : mg "Server" = some (.ref a_Server)
  i_Server : PySem.W.nsIn K mainGlobals "Server" = some (some (.ref a_Server))
  cl_Server : Cls K a_Server
  no_Server__texts : NoAttr K a_Server "_texts"
  no_Server__keeper : NoAttr K a_Server "_keeper"
  no_Server__done : NoAttr K a_Server "_done"
  no_Server__undone : NoAttr K a_Server "_undone"
  a_has_right_characters : Addr
  fd_has_right_characters : FuncData
  F_has_right_characters : Fun K "has_right_characters" "has_right_characters" s_has_right_characters a_has_right_characters fd_has_right_characters
  g_has_right_characters : mg "has_right_characters" = some (.ref a_has_right_characters)
  b_has_right_characters : Binds K fd_has_right_characters ["value"] []
  a_is_text : Addr
  fd_is_text : FuncData
  F_is_text : Fun K "is_text" "is_text" s_is_text a_is_text fd_is_text
  g_is_text : mg "is_text" = some (.ref a_is_text)
  b_is_text : Binds K fd_is_text ["value"] []
  a_apply_edit : Addr
  fd_apply_edit : FuncData
  F_apply_edit : Fun K "apply_edit" "apply_edit" s_apply_edit a_apply_edit fd_apply_edit
  g_apply_edit : mg "apply_edit" = some (.ref a_apply_edit)
  b_apply_edit : Binds K fd_apply_edit ["text", "edit"] []
  a_inverse : Addr
  fd_inverse : FuncData
  F_inverse : Fun K "inverse" "inverse" s_inverse a_inverse fd_inverse
  g_inverse : mg "inverse" = some (.ref a_inverse)
  b_inverse : Binds K fd_inverse ["text", "edit"] []
  a_run_end : Addr
  fd_run_end : FuncData
  F_run_end : Fun K "run_end" "run_end" s_run_end a_run_end fd_run_end
  g_run_end : mg "run_end" = some (.ref a_run_end)
  b_run_end : Binds K fd_run_end ["text", "start", "allowed"] []
  a_token_at : Addr
  fd_token_at : FuncData
  F_token_at : Fun K "token_at" "token_at" s_token_at a_token_at fd_token_at
  g_token_at : mg "token_at" = some (.ref a_token_at)
  b_token_at : Binds K fd_token_at ["text", "start"] []
  a_tokens_between : Addr
  fd_tokens_between : FuncData
  F_tokens_between : Fun K "tokens_between" "tokens_between" s_tokens_between a_tokens_between fd_tokens_between
  g_tokens_between : mg "tokens_between" = some (.ref a_tokens_between)
  b_tokens_between : Binds K fd_tokens_between ["text", "start", "end"] []
  a_tokens : Addr
  fd_tokens : FuncData
  F_tokens : Fun K "tokens" "tokens" s_tokens a_tokens fd_tokens
  g_tokens : mg "tokens" = some (.ref a_tokens)
  b_tokens : Binds K fd_tokens ["text"] []
  a_is_name : Addr
  fd_is_name : FuncData
  F_is_name : Fun K "is_name" "is_name" s_is_name a_is_name fd_is_name
  g_is_name : mg "is_name" = some (.ref a_is_name)
  b_is_name : Binds K fd_is_name ["value"] []
  a_Keeper___init__ : Addr
  fd_Keeper___init__ : FuncData
  F_Keeper___init__ : Fun K "__init__" "Keeper.__init__" s_Keeper___init__ a_Keeper___init__ fd_Keeper___init__
  b_Keeper___init__ : Binds K fd_Keeper___init__ ["self", "compute"] []
  m_Keeper___init__ : Mk K a_Keeper a_Keeper___init__
  a_Keeper_put : Addr
  fd_Keeper_put : FuncData
  F_Keeper_put : Fun K "put" "Keeper.put" s_Keeper_put a_Keeper_put fd_Keeper_put
  b_Keeper_put : Binds K fd_Keeper_put ["self", "key", "value"] []
  m_Keeper_put : Meth K a_Keeper "put" a_Keeper_put
  a_Keeper_computed : Addr
  fd_Keeper_computed : FuncData
  F_Keeper_computed : Fun K "computed" "Keeper.computed" s_Keeper_computed a_Keeper_computed fd_Keeper_computed
  b_Keeper_computed : Binds K fd_Keeper_computed ["self"] []
  m_Keeper_computed : Meth K a_Keeper "computed" a_Keeper_computed
  a_compute : Addr
  fd_compute : FuncData
  F_compute : Fun K "compute" "compute" s_compute a_compute fd_compute
  g_compute : mg "compute" = some (.ref a_compute)
  b_compute : Binds K fd_compute ["keeper", "key"] []
  a_new_keeper : Addr
  fd_new_keeper : FuncData
  F_new_keeper : Fun K "new_keeper" "new_keeper" s_new_keeper a_new_keeper fd_new_keeper
  g_new_keeper : mg "new_keeper" = some (.ref a_new_keeper)
  b_new_keeper : Binds K fd_new_keeper ["program"] []
  a_need_module : Addr
  fd_need_module : FuncData
  F_need_module : Fun K "need_module" "need_module" s_need_module a_need_module fd_need_module
  g_need_module : mg "need_module" = some (.ref a_need_module)
  b_need_module : Binds K fd_need_module ["name", "text"] []
  a_Server___init__ : Addr
  fd_Server___init__ : FuncData
  F_Server___init__ : Fun K "__init__" "Server.__init__" s_Server___init__ a_Server___init__ fd_Server___init__
  b_Server___init__ : Binds K fd_Server___init__ ["self", "program"] []
  m_Server___init__ : Mk K a_Server a_Server___init__
  a_Server_modules : Addr
  fd_Server_modules : FuncData
  F_Server_modules : Fun K "modules" "Server.modules" s_Server_modules a_Server_modules fd_Server_modules
  b_Server_modules : Binds K fd_Server_modules ["self"] []
  m_Server_modules : Meth K a_Server "modules" a_Server_modules
  a_Server_program : Addr
  fd_Server_program : FuncData
  F_Server_program : Fun K "program" "Server.program" s_Server_program a_Server_program fd_Server_program
  b_Server_program : Binds K fd_Server_program ["self"] []
  m_Server_program : Meth K a_Server "program" a_Server_program
  a_Server_need_file : Addr
  fd_Server_need_file : FuncData
  F_Server_need_file : Fun K "need_file" "Server.need_file" s_Server_need_file a_Server_need_file fd_Server_need_file
  b_Server_need_file : Binds K fd_Server_need_file ["self", "module"] []
  m_Server_need_file : Meth K a_Server "need_file" a_Server_need_file
  a_Server_forget_steps : Addr
  fd_Server_forget_steps : FuncData
  F_Server_forget_steps : Fun K "forget_steps" "Server.forget_steps" s_Server_forget_steps a_Server_forget_steps fd_Server_forget_steps
  b_Server_forget_steps : Binds K fd_Server_forget_steps ["self"] []
  m_Server_forget_steps : Meth K a_Server "forget_steps" a_Server_forget_steps
  a_Server_open_file : Addr
  fd_Server_open_file : FuncData
  F_Server_open_file : Fun K "open_file" "Server.open_file" s_Server_open_file a_Server_open_file fd_Server_open_file
  b_Server_open_file : Binds K fd_Server_open_file ["self", "module", "text"] []
  m_Server_open_file : Meth K a_Server "open_file" a_Server_open_file
  a_Server_set_text : Addr
  fd_Server_set_text : FuncData
  F_Server_set_text : Fun K "set_text" "Server.set_text" s_Server_set_text a_Server_set_text fd_Server_set_text
  b_Server_set_text : Binds K fd_Server_set_text ["self", "module", "text"] []
  m_Server_set_text : Meth K a_Server "set_text" a_Server_set_text
  a_Server_do_step : Addr
  fd_Server_do_step : FuncData
  F_Server_do_step : Fun K "do_step" "Server.do_step" s_Server_do_step a_Server_do_step fd_Server_do_step
  b_Server_do_step : Binds K fd_Server_do_step ["self", "edits"] []
  m_Server_do_step : Meth K a_Server "do_step" a_Server_do_step
  a_Server_edit : Addr
  fd_Server_edit : FuncData
  F_Server_edit : Fun K "edit" "Server.edit" s_Server_edit a_Server_edit fd_Server_edit
  b_Server_edit : Binds K fd_Server_edit ["self", "module", "edit"] []
  m_Server_edit : Meth K a_Server "edit" a_Server_edit
  a_Server_undo : Addr
  fd_Server_undo : FuncData
  F_Server_undo : Fun K "undo" "Server.undo" s_Server_undo a_Server_undo fd_Server_undo
  b_Server_undo : Binds K fd_Server_undo ["self"] []
  m_Server_undo : Meth K a_Server "undo" a_Server_undo
  a_Server_redo : Addr
  fd_Server_redo : FuncData
  F_Server_redo : Fun K "redo" "Server.redo" s_Server_redo a_Server_redo fd_Server_redo
  b_Server_redo : Binds K fd_Server_redo ["self"] []
  m_Server_redo : Meth K a_Server "redo" a_Server_redo
  a__law_tape : Addr
  fd__law_tape : FuncData
  F__law_tape : Fun K "_law_tape" "_law_tape" s__law_tape a__law_tape fd__law_tape
  g__law_tape : mg "_law_tape" = some (.ref a__law_tape)
  b__law_tape : Binds K fd__law_tape ["_law_script"] []
  a__law_take : Addr
  fd__law_take : FuncData
  F__law_take : Fun K "_law_take" "_law_take" s__law_take a__law_take fd__law_take
  g__law_take : mg "_law_take" = some (.ref a__law_take)
  b__law_take : Binds K fd__law_take ["_law_tape_here", "_law_many"] []
  a__law_is_integer : Addr
  fd__law_is_integer : FuncData
  F__law_is_integer : Fun K "_law_is_integer" "_law_is_integer" s__law_is_integer a__law_is_integer fd__law_is_integer
  g__law_is_integer : mg "_law_is_integer" = some (.ref a__law_is_integer)
  b__law_is_integer : Binds K fd__law_is_integer ["_law_actual"] []
  a__law_same_items : Addr
  fd__law_same_items : FuncData
  F__law_same_items : Fun K "_law_same_items" "_law_same_items" s__law_same_items a__law_same_items fd__law_same_items
  g__law_same_items : mg "_law_same_items" = some (.ref a__law_same_items)
  b__law_same_items : Binds K fd__law_same_items ["_law_actual", "_law_expected_here"] []
  a__law_same : Addr
  fd__law_same : FuncData
  F__law_same : Fun K "_law_same" "_law_same" s__law_same a__law_same fd__law_same
  g__law_same : mg "_law_same" = some (.ref a__law_same)
  b__law_same : Binds K fd__law_same ["_law_actual", "_law_expected_here"] []
  a__law_snippet : Addr
  fd__law_snippet : FuncData
  F__law_snippet : Fun K "_law_snippet" "_law_snippet" s__law_snippet a__law_snippet fd__law_snippet
  g__law_snippet : mg "_law_snippet" = some (.ref a__law_snippet)
  b__law_snippet : Binds K fd__law_snippet ["_law_tape_here"] []
  a__law_edit_of : Addr
  fd__law_edit_of : FuncData
  F__law_edit_of : Fun K "_law_edit_of" "_law_edit_of" s__law_edit_of a__law_edit_of fd__law_edit_of
  g__law_edit_of : mg "_law_edit_of" = some (.ref a__law_edit_of)
  b__law_edit_of : Binds K fd__law_edit_of ["_law_tape_here", "_law_text"] []
  a__law_do : Addr
  fd__law_do : FuncData
  F__law_do : Fun K "_law_do" "_law_do" s__law_do a__law_do fd__law_do
  g__law_do : mg "_law_do" = some (.ref a__law_do)
  b__law_do : Binds K fd__law_do ["_law_server", "_law_act_here"] []
  a__law_expected : Addr
  fd__law_expected : FuncData
  F__law_expected : Fun K "_law_expected" "_law_expected" s__law_expected a__law_expected fd__law_expected
  g__law_expected : mg "_law_expected" = some (.ref a__law_expected)
  b__law_expected : Binds K fd__law_expected ["_law_known", "_law_act_here"] []
  a__law_act : Addr
  fd__law_act : FuncData
  F__law_act : Fun K "_law_act" "_law_act" s__law_act a__law_act fd__law_act
  g__law_act : mg "_law_act" = some (.ref a__law_act)
  b__law_act : Binds K fd__law_act ["_law_tape_here", "_law_known"] []
  a_law : Addr
  fd_law : FuncData
  F_law : Fun K "law" "law" s_law a_law fd_law
  g_law : mg "law" = some (.ref a_law)
  b_law : Binds K fd_law ["_law_script"] []
  n_abs : mg "abs" = none
  n_bool : mg "bool" = none
  n_dict : mg "dict" = none
  n_int : mg "int" = none
  n_isinstance : mg "isinstance" = none
  n_len : mg "len" = none
  n_list : mg "list" = none
  n_min : mg "min" = none
  n_range : mg "range" = none
  n_sorted : mg "sorted" = none
  n_str : mg "str" = none
  n_tuple : mg "tuple" = none
  c_MOST : ∃ t, mg "MOST" = some (.int 4000 t)
  c_CHARACTERS : ∃ t, mg "CHARACTERS" = some (.str k_CHARACTERS t)
  c_LETTERS : ∃ t, mg "LETTERS" = some (.str k_LETTERS t)
  c_DIGITS : ∃ t, mg "DIGITS" = some (.str k_DIGITS t)
  c_NAME_CHARACTERS : ∃ t, mg "NAME_CHARACTERS" = some (.str k_NAME_CHARACTERS t)
  c_SIGNS : ∃ t, mg "SIGNS" = some (.str k_SIGNS t)
  a_WORDS : Addr
  g_WORDS : mg "WORDS" = some (.ref a_WORDS)
  w_WORDS : ∀ G, Rp K G (.ref a_WORDS) (.tuple (k_WORDS.map .str))
  c_MOST_MODULES : ∃ t, mg "MOST_MODULES" = some (.int 6 t)
  e_ServerError : Addr
  i_ServerError : PySem.W.nsIn K mainGlobals "ServerError" = some (some (.ref e_ServerError))
  g_ServerError : mg "ServerError" = some (.ref e_ServerError)
  x_ServerError : PySem.W.excIn K e_ServerError [.type "ValueError", .type "Exception", .type "BaseException", .type "object"] "ValueError.__new__" = true
  k_ServerError : PySem.W.keepIn K (.ref e_ServerError) = true
  b_ServerError : PySem.W.subIn K (.ref e_ServerError) (.type "BaseException") = some true
  t_ServerError : PySem.W.typeIn K (.ref e_ServerError) = some (.type "type")
  d_ServerError : PySem.W.hasDictIn K e_ServerError = true
  e_InvalidEdit : Addr
  i_InvalidEdit : PySem.W.nsIn K mainGlobals "InvalidEdit" = some (some (.ref e_InvalidEdit))
  g_InvalidEdit : mg "InvalidEdit" = some (.ref e_InvalidEdit)
  x_InvalidEdit : PySem.W.excIn K e_InvalidEdit [.type "ValueError", .type "Exception", .type "BaseException", .type "object"] "ValueError.__new__" = true
  k_InvalidEdit : PySem.W.keepIn K (.ref e_InvalidEdit) = true
  b_InvalidEdit : PySem.W.subIn K (.ref e_InvalidEdit) (.type "BaseException") = some true
  t_InvalidEdit : PySem.W.typeIn K (.ref e_InvalidEdit) = some (.type "type")
  d_InvalidEdit : PySem.W.hasDictIn K e_InvalidEdit = true
  e_UnknownFile : Addr
  i_UnknownFile : PySem.W.nsIn K mainGlobals "UnknownFile" = some (some (.ref e_UnknownFile))
  g_UnknownFile : mg "UnknownFile" = some (.ref e_UnknownFile)
  x_UnknownFile : PySem.W.excIn K e_UnknownFile [.type "ValueError", .type "Exception", .type "BaseException", .type "object"] "ValueError.__new__" = true
  k_UnknownFile : PySem.W.keepIn K (.ref e_UnknownFile) = true
  b_UnknownFile : PySem.W.subIn K (.ref e_UnknownFile) (.type "BaseException") = some true
  t_UnknownFile : PySem.W.typeIn K (.ref e_UnknownFile) = some (.type "type")
  d_UnknownFile : PySem.W.hasDictIn K e_UnknownFile = true
  e_FileExists : Addr
  i_FileExists : PySem.W.nsIn K mainGlobals "FileExists" = some (some (.ref e_FileExists))
  g_FileExists : mg "FileExists" = some (.ref e_FileExists)
  x_FileExists : PySem.W.excIn K e_FileExists [.type "ValueError", .type "Exception", .type "BaseException", .type "object"] "ValueError.__new__" = true
  k_FileExists : PySem.W.keepIn K (.ref e_FileExists) = true
  b_FileExists : PySem.W.subIn K (.ref e_FileExists) (.type "BaseException") = some true
  t_FileExists : PySem.W.typeIn K (.ref e_FileExists) = some (.type "type")
  d_FileExists : PySem.W.hasDictIn K e_FileExists = true
  e_NothingToUndo : Addr
  i_NothingToUndo : PySem.W.nsIn K mainGlobals "NothingToUndo" = some (some (.ref e_NothingToUndo))
  g_NothingToUndo : mg "NothingToUndo" = some (.ref e_NothingToUndo)
  x_NothingToUndo : PySem.W.excIn K e_NothingToUndo [.type "ValueError", .type "Exception", .type "BaseException", .type "object"] "ValueError.__new__" = true
  k_NothingToUndo : PySem.W.keepIn K (.ref e_NothingToUndo) = true
  b_NothingToUndo : PySem.W.subIn K (.ref e_NothingToUndo) (.type "BaseException") = some true
  t_NothingToUndo : PySem.W.typeIn K (.ref e_NothingToUndo) = some (.type "type")
  d_NothingToUndo : PySem.W.hasDictIn K e_NothingToUndo = true
  s_InvalidEdit_InvalidEdit : PySem.W.subIn K (.ref e_InvalidEdit) (.ref e_InvalidEdit) = some true
  s_UnknownFile_UnknownFile : PySem.W.subIn K (.ref e_UnknownFile) (.ref e_UnknownFile) = some true
  s_NothingToUndo_NothingToUndo : PySem.W.subIn K (.ref e_NothingToUndo) (.ref e_NothingToUndo) = some true
  s_NothingToUndo_ServerError : PySem.W.subIn K (.ref e_NothingToUndo) (.ref e_ServerError) = some true
  y_NothingToUndo : ExcC K e_NothingToUndo
  n_InvalidEdit_NothingToUndo : PySem.W.subIn K (.ref e_InvalidEdit) (.ref e_NothingToUndo) = some false
  n_UnknownFile_NothingToUndo : PySem.W.subIn K (.ref e_UnknownFile) (.ref e_NothingToUndo) = some false
  n_UnknownFile_InvalidEdit : PySem.W.subIn K (.ref e_UnknownFile) (.ref e_InvalidEdit) = some false
/-- one step that has no choice (the key stands for «x») -/
local macro_rules | `(tactic| array_get_dec) => do
  let h := Lean.mkIdent `hrest
  let h1 := Lean.mkIdent `hthen
  let h2 := Lean.mkIdent `helse
  `(tactic| first
  | refine Stp1.go ?_
  | with_reducible refine xs_seqH fun _ $h => ?_
  | with_reducible refine xs_ifH fun _ _ $h1 $h2 => ?_
  | ((with_reducible show DL.XE _ (tVar _) _ _ _); first | refine xe_vd rfl ?_ | refine xe_vr rfl ?_ | refine xe_vo rfl ?_)
  | ((with_reducible show DL.XEF _ (tVar _) _ _ _); first | refine xf_vd rfl ?_ | refine xf_vr rfl ?_ | refine xf_vf rfl ?_ | refine xf_stuck ?_)
  | with_reducible refine ⟨rfl, ?_⟩ | with_reducible refine ⟨_, rfl, ?_⟩
  | with_reducible refine ⟨kept_d, ?_⟩
  | with_reducible (first
    | ((show DL.XE _ _ _ _ _); first
      | ((show DL.XE _ (tC _) _ _ _); first | refine xe_int ?_ | refine xe_str ?_ | refine xe_bl ?_ | refine xe_non ?_ | refine xe_conR (by assumption) ?_ | refine xe_raw ?_)
      | refine xe_op ?_ | refine xe_cb ?_ | refine xe_call ?_ | refine xe_callS ?_ | refine xe_callH ?_ | refine xe_sl ?_ | refine xe_tupD ?_ | refine xe_lstD ?_ | refine xe_neg ?_ | refine xe_and ?_ | refine xe_or ?_ | refine xe_not ?_ | refine xe_chain ?_ | refine xe_chain3 ?_ | refine xe_if ?_ | refine xe_disp ?_ | refine xe_repC ?_ | ((show DL.XE _ (tBM _ _ rAppend _ _) _ _ _); refine xe_bmF ?_) | refine xe_bm ?_ | refine xe_bm0 ?_)
    | ((show PPairs _ _ _ _ _); first | refine pp_str ?_ | refine .nil ?_)
    | ((show XR _ _ _ _ _ _ _); first | refine xr_addI ?_ | refine xr_isB ?_ | refine xr_notB ?_ | refine xr_eqI ?_ | refine xr_eqS ?_ | refine xr_sub ?_ | refine xr_ltI ?_ | refine xr_leI ?_ | refine xr_gtI ?_ | refine xr_geI ?_ | refine xr_eqB ?_ | refine xr_neI ?_ | refine xr_neS ?_ | refine xr_leS ?_ | refine xr_inC ?_ | refine xr_notInC ?_ | refine xr_isN_non ?_ | refine xr_isN_int ?_ | refine xr_isN_str ?_ | refine xr_isN_bl ?_ | refine xr_isN_tup ?_ | refine xr_isN_lst ?_ | refine xr_notN_non ?_ | refine xr_notN_int ?_ | refine xr_notN_str ?_ | refine xr_notN_bl ?_ | refine xr_notN_tup ?_ | refine xr_notN_lst ?_)
    | ((show XC _ (rIsi _) _ _ _ _); first
      | ((show XC _ _ [_, DV.raw (V.ty "bool")] _ _ _); first | refine xc_isi ki_int_bool ?_ | refine xc_isi ki_str_bool ?_ | refine xc_isi ki_bool_bool ?_ | refine xc_isi ki_tuple_bool ?_ | refine xc_isi ki_list_bool ?_)
      | ((show XC _ _ [_, DV.raw (V.ty "int")] _ _ _); first | refine xc_isi ki_int_int ?_ | refine xc_isi ki_str_int ?_ | refine xc_isi ki_bool_int ?_ | refine xc_isi ki_tuple_int ?_ | refine xc_isi ki_list_int ?_)
      | ((show XC _ _ [_, DV.raw (V.ty "str")] _ _ _); first | refine xc_isi ki_int_str ?_ | refine xc_isi ki_str_str ?_ | refine xc_isi ki_bool_str ?_ | refine xc_isi ki_tuple_str ?_ | refine xc_isi ki_list_str ?_)
      | ((show XC _ _ [_, DV.raw (V.ty "tuple")] _ _ _); first | refine xc_isi ki_int_tuple ?_ | refine xc_isi ki_str_tuple ?_ | refine xc_isi ki_bool_tuple ?_ | refine xc_isi ki_tuple_tuple ?_ | refine xc_isi ki_list_tuple ?_)
      | ((show XC _ _ [_, DV.raw (V.ty "list")] _ _ _); first | refine xc_isi ki_int_list ?_ | refine xc_isi ki_str_list ?_ | refine xc_isi ki_bool_list ?_ | refine xc_isi ki_tuple_list ?_ | refine xc_isi ki_list_list ?_))
    | ((show XC _ _ _ _ _ _); first | refine xc_lenT ?_ | refine xc_abs ?_ | refine xc_min2 ?_ | refine xc_max2 ?_ | refine xc_int1 ?_)
    | ((show XA _ _ _ _ _); first | refine xa_nil ?_ | refine xa_cons ?_)
    | ((show XAF _ _ _ _ _); first | refine xaf_nil ?_ | refine xaf_cons ?_)
    | ((show XAD _ _ _ _ _); first | refine xad_nil ?_ | refine xad_cons ?_)
    | ((show XGs _ _ _ _ _ _); first | refine xgs_cons ?_ | refine xgs_nilM ?_)
    | ((show XO _ _ _ _ _); first | refine xo_no ?_ | refine xo_part ?_)
    | ((show XT _ _ _ _ _); first | refine xt_test ?_ | refine xt_b ?_ | refine xt_and ?_ | refine xt_or ?_ | refine xt_not ?_ | refine xt_tru ?_ | refine xt_yes ?_)
    | ((show XS _ _ _ _ _ _ _ _); first | refine xs_seqH fun _ $h => ?_ | refine xs_ifH fun _ _ $h1 $h2 => ?_ | refine xs_asg ?_ | refine xs_asgG ?_ | refine xs_ret ?_ | refine xs_retN ?_ | refine xs_drop ?_ | refine xs_next ?_ | refine xs_break ?_ | refine xs_cont ?_)
    | refine asr_d ?_ | refine hr_d ?_ | refine fz_d ?_ | refine out_d ?_ | refine asr_n ?_ | refine asr_r ?_ | refine hr_r ?_ | refine fz_r ?_ | refine fz_n ?_ | refine out_r ?_ | refine out_n ?_ | refine out_s ?_)
  | ((with_reducible show XG _ _ _ _ _ _); first | refine xg_tup ?_ | refine xg_nd ?_ | refine xg_nr ?_)
  | ((with_reducible show DL.XE _ (tVar _) _ _ _); first | refine xe_vd rfl ?_ | refine xe_vr rfl ?_ | refine xe_vo rfl ?_)
  | ((with_reducible show DL.XEF _ (tVar _) _ _ _); first | refine xf_vd rfl ?_ | refine xf_vr rfl ?_ | refine xf_vf rfl ?_ | refine xf_stuck ?_)
  | ((with_reducible show XC _ _ [DV.d (PyData.list _)] _ _ _); refine xc_lenL rfl ?_)
  | ((with_reducible show XC _ _ [DV.sl _ _] _ _ _); refine xc_lenL rfl ?_)
  | ((with_reducible show XC _ _ [DV.new _] _ _ _); refine xc_lenL rfl ?_)
  | with_reducible refine xf_of ?_
  | ((with_reducible show List.length _ ≤ sizeLine ∧ _); refine ⟨len_small rfl, ?_⟩)
  | with_reducible (first | refine ⟨ty_s, ?_⟩ | refine ⟨ty_o, ?_⟩ | refine ⟨ty_l, ?_⟩ | refine ⟨ty_n, ?_⟩)
  | with_reducible (first | refine bs_t ?_ | refine bs_f ?_ | refine bs_nt ?_ | refine bs_nf ?_ | refine noow_cons ⟨rfl, fun _ z => nomatch z⟩ ?_ | refine noow_nil)
  | with_reducible (first | refine ⟨_, tru_b, ?_⟩ | refine ⟨_, tru_l, ?_⟩ | refine ⟨_, tru_t, ?_⟩ | refine ⟨_, tru_s, ?_⟩)
  | ((with_reducible show DL.XE _ (tFld _ _ _) _ _ _); refine xe_fldV (by assumption) (by assumption) (by rfl) (by rfl) ?_)
  | ((with_reducible show XS _ (sFld _ _ _ _) _ _ _ _ _ _); refine xs_fldV (by assumption) (by assumption) ?_)
  | ((with_reducible show XS _ (sFldAug _ _ _ _ _) _ _ _ _ _ _); first | refine xs_rdAt (by assumption) (by assumption) (by rfl) ?_ | refine xs_rdUp (by assumption) (by assumption) (by rfl) ?_ | refine xs_rdDn (by assumption) (by assumption) (by rfl) ?_)
  | ((with_reducible show XS _ (sFldAug _ _ _ L2.rAdd _) _ _ _ _ _ _); refine xs_fldAddV (by assumption) (by assumption) (by rfl) (by rfl) (by rfl) ?_)
  | ((with_reducible show XS _ (sFldAug _ _ _ L2.rSub _) _ _ _ _ _ _); refine xs_fldSubV (by assumption) (by assumption) (by rfl) (by rfl) (by rfl) ?_)
  | ((with_reducible show DL.XE _ (tMeth _ _ _ _ _ _ _) _ _ _); refine xe_methV (by rfl) (by rfl) ?_)
  | ((with_reducible show DL.XE _ (tMethW _ _ _ _ _ _) _ _ _); refine xe_methWV (by rfl) (by rfl) ?_)
  | with_reducible refine ⟨rfl, ?_⟩ | with_reducible refine ⟨_, rfl, ?_⟩
  | (with_reducible refine $h1 _ _ ?_; clear $h1 $h2)
  | (with_reducible refine $h2 _ _ ?_; clear $h1 $h2)
  | (with_reducible refine $h _ _ ?_; clear $h)
  | ((with_reducible show DL.Kept _ (DV.sl _ _) ∧ _); refine ⟨kept_s rfl, ?_⟩)
  | with_reducible refine ⟨kept_r, ?_⟩ | with_reducible refine ⟨kept_n, ?_⟩)

section
variable {P : Program} {w : World} {K : PySem.W.Frag} {mg : Str → Option Value} {base : Heap}
theorem ok__law_take (T : Txt K mg)  : FnOk P w K mg base CX0 1 T.a__law_take T.fd__law_take ["_law_tape_here", "_law_many"] (spD K (S__law_take K)) := by
  refine fnD T.F__law_take sc__law_take ?len fun cdv A outer s H E hr => ?body
  case len => intro dvs o R X h; first | (obtain ⟨rfl, _⟩ := h; rfl) | (obtain ⟨_, rfl, _⟩ := h; rfl) | (obtain ⟨_, _, rfl, _⟩ := h; rfl) | (obtain ⟨_, _, _, rfl, _⟩ := h; rfl) | (obtain ⟨_, _, _, _, rfl, _⟩ := h; rfl) | (obtain ⟨_, _, _, _, _, rfl, _⟩ := h; rfl) | (obtain ⟨_, _, _, _, _, _, rfl, _⟩ := h; rfl) | (obtain ⟨_, _, _, _, _, _, _, rfl, _⟩ := h; rfl) | (obtain ⟨_, _, _, _, _, _, _, _, rfl, _⟩ := h; rfl) | (obtain ⟨_, _, _, _, _, _, _, _, _, rfl, _⟩ := h; rfl) | (obtain ⟨_, _, _, _, _, _, _, _, _, _, rfl, _⟩ := h; rfl) | (obtain ⟨_, _, _, _, _, _, _, _, _, _, _, rfl, _⟩ := h; rfl) | (obtain ⟨_, _, _, _, _, _, _, _, _, _, _, _, rfl, _⟩ := h; rfl)
  have nd := sc__law_take.nd
  have hu := hu_of hr
  refine ⟨_, (pss_cons (ps_if (PW.pt (pw_and (pt_cmpR (DL.op_eqK (K := K) rfl hr.units) (pe_dget hu (pv 0) pe_str (fun _ _ => rfl)) pe_int (nomark _)) (pw_and1 (pt_cmpR (DL.op_ltU) (pe_dget hu (pv 0) pe_str (fun _ _ => rfl)) (pe_callB (DL.call_lenK (K := K) rfl) (by rfl) T.n_len (by decide +kernel) (pa_cons (pe_dget hu (pv 0) pe_str (fun _ _ => rfl)) pa_nil)) (nomark _))))) (pss_cons (ps_dput hu (pv 0) pe_str (pe_ix (DL.ix_K (K := K) rfl) (pe_dget hu (pv 0) pe_str (fun _ _ => rfl)) (pe_dget hu (pv 0) pe_str (fun _ _ => rfl)) (fun _ _ => rfl)) rfl) (pss_one (ps_dput hu (pv 0) pe_str (pe_op (DL.op_addK (K := K) rfl) (pe_dget hu (pv 0) pe_str (fun _ _ => rfl)) pe_int) rfl))) pss_nil) (pss_cons (ps_if (pt_cmpR (op_gt) (pe_dget hu (pv 0) pe_str (fun _ _ => rfl)) pe_int (nomark _)) (pss_cons (ps_set (i := 2) nd rfl (Or.inl rfl) (pe_op op_modN (pe_callTy (call_int1) (by rfl) T.n_int (by decide +kernel) (pa_cons (pe_dget hu (pv 0) pe_str (fun _ _ => rfl)) pa_nil)) (pv 1))) (pss_cons (ps_dput hu (pv 0) pe_str (pe_op op_fdivN (pe_dget hu (pv 0) pe_str (fun _ _ => rfl)) (pv 1)) rfl) (pss_one (ps_ret (pv 2))))) pss_nil) (pss_cons (ps_dput hu (pv 0) pe_str (pe_op (DL.op_addK (K := K) rfl) (pe_dget hu (pv 0) pe_str (fun _ _ => rfl)) pe_int) rfl) (pss_cons (ps_set (i := 3) nd rfl (Or.inl rfl) (pe_op op_modN (pe_callTy (call_int1) (by rfl) T.n_int (by decide +kernel) (pa_cons (pe_op (DL.op_addK (K := K) rfl) (pe_op DL.op_mulU (pe_dget hu (pv 0) pe_str (fun _ _ => rfl)) pe_int) (pe_op DL.op_mulU (pe_dget hu (pv 0) pe_str (fun _ _ => rfl)) pe_int)) pa_nil)) pe_int)) (pss_cons (ps_set (i := 3) nd rfl (Or.inl rfl) (pe_op op_modN (pe_callTy (call_int1) (by rfl) T.n_int (by decide +kernel) (pa_cons (pe_op (DL.op_addK (K := K) rfl) (pe_op (DL.op_addK (K := K) rfl) (pe_op DL.op_mulU (pv 3) (pv 3)) (pe_op DL.op_mulU (pe_dget hu (pv 0) pe_str (fun _ _ => rfl)) pe_int)) pe_int) pa_nil)) pe_int)) (pss_one (ps_ret (pe_op op_modN (pe_callTy (call_int1) (by rfl) T.n_int (by decide +kernel) (pa_cons (pv 3) pa_nil)) (pv 1))))))))), ?_⟩
  intro dvs o R X h
  have st : ∀ z, dvs = z → startD N__law_take.length dvs = startD 4 z := fun z e => by rw [e]; rfl
  obtain ⟨τ, n, rfl, rfl, h0, h1, q⟩ := h
  rw [st _ rfl]; clear st; simp only [startD, toSl, List.map_cons, List.map_nil, List.length_cons, List.length_nil, List.cons_append, List.nil_append, List.append_nil, Nat.reduceAdd, Nat.reduceSub, List.reduceReplicate, Nat.zero_add, List.replicate_zero, Nat.sub_self]
  refine xs_tape fun ns a l s t inv => xs_le ?_
  refine xs_cut (fun ρ' o' => ∃ a' l', ρ' = [.raw (.ref τ), .val (.int n), .no, .no] ∧ o' = dicOb K τ (tapeKvs ns a' l' s t) ∧ TInv ns a' l' s t) ?_ ?_
  · array_get_dec
    refine xt_and (xt_test (xe_op (xe_tget tk_left rfl ?_)))
    repeat array_get_dec
    refine ⟨fun hl => ?_, fun hl => ⟨fun h => (nomatch h), fun _ => ?_⟩⟩
    rotate_left
    · repeat array_get_dec
      exact ⟨a, l, rfl, rfl, inv⟩
    refine xt_test (xe_op (xe_tget tk_at rfl ?_))
    repeat array_get_dec
    refine xe_tget tk_cells rfl ?_
    repeat array_get_dec
    refine ⟨fun hi => ?_, fun hi => ?_⟩
    rotate_left
    · repeat array_get_dec
      exact ⟨a, l, rfl, rfl, inv⟩
    have hi : a < ns.length := by simpa using hi
    have a0 := inv.a0
    have ha : a.toNat < ns.length := by omega
    repeat array_get_dec
    refine xs_tput _ (fun _ => tp_left) rfl (xe_op (xe_tget tk_cells rfl (xe_tget tk_at rfl ⟨trivial, xr_ixL (ds := ns.map .int) rfl (d := .int ns[a.toNat]) ?_ ⟨rfl, rfl, _, rfl, ?_⟩⟩)))
    · unfold atI ixN
      rw [if_pos a0, if_pos (by simpa using hi)]
      simp [ha]
    repeat array_get_dec
    refine xs_tput _ (fun _ => tp_at) rfl (xe_op (xe_tget tk_at rfl ?_))
    repeat array_get_dec
    refine ⟨a + 1, ns[a.toNat], rfl, rfl, ⟨inv.h, by omega, inv.h _ (List.getElem_mem _), inv.s0, inv.s1, inv.t0⟩⟩
  · rintro ρ1 o1 ⟨a, l, rfl, rfl, inv⟩
    repeat array_get_dec
    refine xe_tget tk_left rfl ?_
    repeat array_get_dec
    have l0 := inv.l0
    refine ⟨fun hl => ?_, fun hl => ?_⟩
    · repeat array_get_dec
      refine xe_tget tk_left rfl ?_
      repeat array_get_dec
      refine xr_fmod (show n ≠ 0 by omega) ?_
      repeat array_get_dec
      refine xs_tput _ (fun _ => tp_left) rfl (xe_op (xe_tget tk_left rfl ?_))
      repeat array_get_dec
      refine xr_fdiv ⟨show n ≠ 0 by omega, show n.natAbs < 1073741824 by omega⟩ ?_
      repeat array_get_dec
      have e1 := Int.fmod_eq_emod_of_nonneg l (show (0 : Int) ≤ n by omega)
      have e2 := Int.fdiv_eq_ediv_of_nonneg l (show (0 : Int) ≤ n by omega)
      refine ⟨tapeOb K τ, tape_le ⟨inv.h, inv.a0, ?_, inv.s0, inv.s1, inv.t0⟩, q _ ?_ ?_⟩
      · rw [e2]; exact Int.ediv_nonneg l0 (by omega)
      · rw [e1]; exact Int.emod_nonneg _ (by omega)
      · rw [e1]; exact Int.emod_lt_of_pos _ h0
    · repeat array_get_dec
      refine xs_tput _ (fun _ => tp_salt) rfl (xe_op (xe_tget tk_salt rfl ?_))
      repeat array_get_dec
      refine xe_tget tk_seed rfl ?_
      repeat array_get_dec
      refine xr_mulI (.inr ⟨by decide, by decide⟩) ?_
      repeat array_get_dec
      refine xe_tget tk_salt rfl ?_
      repeat array_get_dec
      refine xr_mulI (.inr ⟨by decide, by decide⟩) ?_
      repeat array_get_dec
      refine xr_fmod (by decide) ?_
      repeat array_get_dec
      have hm := Int.fmod_eq_emod_of_nonneg (s * 48271 + (t + 1) * 69621) (show (0 : Int) ≤ 2147483647 by decide)
      generalize (s * 48271 + (t + 1) * 69621).fmod 2147483647 = m1 at hm ⊢
      have m0 : 0 ≤ m1 := by rw [hm]; exact Int.emod_nonneg _ (by decide)
      have m2 : m1 < 2147483647 := by rw [hm]; exact Int.emod_lt_of_pos _ (by decide)
      refine xr_mulI (.inl ⟨show -(2 ^ 64) < m1 by omega, show m1 < 2 ^ 64 by omega⟩) ?_
      repeat array_get_dec
      refine xe_tget tk_salt rfl ?_
      repeat array_get_dec
      refine xr_mulI (.inr ⟨by decide, by decide⟩) ?_
      repeat array_get_dec
      refine xr_fmod (by decide) ?_
      repeat array_get_dec
      refine xr_fmod (show n ≠ 0 by omega) ?_
      repeat array_get_dec
      have t0 := inv.t0
      generalize (m1 * m1 + (t + 1) * 40692 + 12345).fmod 2147483399 = m3
      have e1 := Int.fmod_eq_emod_of_nonneg m3 (show (0 : Int) ≤ n by omega)
      refine ⟨tapeOb K τ, tape_le ⟨inv.h, inv.a0, inv.l0, inv.s0, inv.s1, by omega⟩, q _ ?_ ?_⟩
      · rw [e1]; exact Int.emod_nonneg _ (by omega)
      · rw [e1]; exact Int.emod_lt_of_pos _ h0

theorem ok__law_tape (T : Txt K mg)  : FnOk P w K mg base CX0 1 T.a__law_tape T.fd__law_tape ["_law_script"] (spD K (S__law_tape K)) := by
  refine fnD T.F__law_tape sc__law_tape ?len fun cdv A outer s H E hr => ?body
  case len => intro dvs o R X h; first | (obtain ⟨rfl, _⟩ := h; rfl) | (obtain ⟨_, rfl, _⟩ := h; rfl) | (obtain ⟨_, _, rfl, _⟩ := h; rfl) | (obtain ⟨_, _, _, rfl, _⟩ := h; rfl) | (obtain ⟨_, _, _, _, rfl, _⟩ := h; rfl) | (obtain ⟨_, _, _, _, _, rfl, _⟩ := h; rfl) | (obtain ⟨_, _, _, _, _, _, rfl, _⟩ := h; rfl) | (obtain ⟨_, _, _, _, _, _, _, rfl, _⟩ := h; rfl) | (obtain ⟨_, _, _, _, _, _, _, _, rfl, _⟩ := h; rfl) | (obtain ⟨_, _, _, _, _, _, _, _, _, rfl, _⟩ := h; rfl) | (obtain ⟨_, _, _, _, _, _, _, _, _, _, rfl, _⟩ := h; rfl) | (obtain ⟨_, _, _, _, _, _, _, _, _, _, _, rfl, _⟩ := h; rfl) | (obtain ⟨_, _, _, _, _, _, _, _, _, _, _, _, rfl, _⟩ := h; rfl)
  have nd := sc__law_tape.nd
  have hu := hu_of hr
  refine ⟨_, (pss_cons (ps_setLc (i := 2) (own := [("_law_cell", 1)]) (g := (gName 1)) (tt := tYes) (by rfl) nd rfl rfl (sw_true rfl rfl rfl (by decide +kernel)) (DL.pi_listK (K := K) rfl (pi_list (pv 0))) (blkOk_by (own := [("_law_cell", 1)]) (N := N__law_tape) (sc := defScope s__law_tape) (by decide +kernel)) (fun _ _ _ _ _ => (pg_name (i := 1) nd rfl (Or.inl rfl))) (fun _ _ _ _ _ => pts_nil) (fun _ _ _ _ _ => (pe_callB (call_abs) (by rfl) T.n_abs (by decide +kernel) (pa_cons (pe_callTy (call_int1) (by rfl) T.n_int (by decide +kernel) (pa_cons (pv 1) pa_nil)) pa_nil)))) (pss_cons (ps_set (i := 3) nd rfl (Or.inl rfl) pe_int) (pss_cons (ps_for PassesOwn.never rfl (DL.pi_listK (K := K) rfl (pi_list (pv 2))) (pg_name (i := 1) nd rfl (Or.inl rfl)) (pss_one (ps_set (i := 3) nd rfl (Or.inl rfl) (pe_op op_modN (pe_callTy (call_int1) (by rfl) T.n_int (by decide +kernel) (pa_cons (pe_op (DL.op_addK (K := K) rfl) (pe_op DL.op_mulU (pv 3) pe_int) (pv 1)) pa_nil)) pe_int)))) (pss_one (ps_ret (pe_disp (pps_cons pe_str (pv 2) (pps_cons pe_str pe_int (pps_cons pe_str pe_int (pps_cons pe_str (pv 3) (pps_cons pe_str pe_int pps_nil))))) (by rfl) (by rfl) (fun z => by cases z) (by decide))))))), ?_⟩
  intro dvs o R X h
  have st : ∀ z, dvs = z → startD N__law_tape.length dvs = startD 4 z := fun z e => by rw [e]; rfl
  obtain ⟨a, ns, rfl, rfl, hn, q⟩ := h
  rw [st _ rfl]; clear st; simp only [startD, toSl, List.map_cons, List.map_nil, List.length_cons, List.length_nil, List.cons_append, List.nil_append, List.append_nil, Nat.reduceAdd, Nat.reduceSub, List.reduceReplicate, Nat.zero_add, List.replicate_zero, Nat.sub_self]
  repeat array_get_dec
  refine xe_lcI (xe_vr rfl ⟨a, ns, rfl, rfl, noow_cons ⟨rfl, fun _ z => nomatch z⟩ noow_nil, fun k acc o => acc.length = k ∧ o = scriptOb K a ns ∧ ∃ cs : List Int, acc = cs.map .int ∧ ∀ n ∈ cs, 0 ≤ n, ⟨rfl, rfl, [], rfl, fun _ h => nomatch h⟩, ?_, ?_⟩)
  · rintro k n acc _ hk hl ⟨hlen, rfl, cs, rfl, hc⟩
    refine ⟨_, bt_name, ?_⟩
    unfold LcTurn
    repeat array_get_dec
    have hk := (List.getElem?_eq_some_iff.mp hk).1
    refine ⟨?_, by simpa using hlen, rfl, cs ++ [if n < 0 then -n else n], by simp, ?_⟩
    · rw [List.length_append]
      exact small1000 (show (List.map PyData.int cs).length + 1 ≤ 1000 by omega)
    · intro z hz
      rcases List.mem_append.mp hz with hz | hz
      · exact hc z hz
      · have : z = if n < 0 then -n else n := by simpa using hz
        rw [this]
        split <;> omega
  · rintro acc _ hl ⟨hlen, rfl, cs, rfl, hc⟩
    repeat array_get_dec
    refine xs_forL (xf_vf rfl ⟨_, rfl, fun k ρ' o' => ∃ (x : Sl) (s : Int), ρ' = [.raw (.ref a), x, .val (.list (cs.map .int)), .val (.int s)] ∧ o' = scriptOb K a ns ∧ 0 ≤ s ∧ s < 2147483647, ⟨_, _, rfl, rfl, by decide, by decide⟩, ?_, ?_⟩)
    · rintro k d ρ' o' hd ⟨x, s, rfl, rfl, h0, h1⟩
      obtain ⟨c, rfl⟩ : ∃ c, d = .int c := by
        rw [List.getElem?_map] at hd
        cases q : cs[k]? with
        | none => rw [q] at hd; cases hd
        | some c => rw [q] at hd; exact ⟨c, (Option.some.inj hd).symm⟩
      refine xg_nd ?_
      repeat array_get_dec
      refine xr_mulI (.inr ⟨by decide, by decide⟩) ?_
      repeat array_get_dec
      refine xr_fmod (by decide) ?_
      repeat array_get_dec
      have hm := Int.fmod_eq_emod_of_nonneg (s * 31 + c) (show (0 : Int) ≤ 2147483647 by decide)
      refine ⟨_, _, rfl, rfl, ?_, ?_⟩
      · rw [hm]; exact Int.emod_nonneg _ (by decide)
      · rw [hm]; exact Int.emod_lt_of_pos _ (by decide)
    · rintro ρ' o' ⟨x, s, rfl, rfl, h0, h1⟩
      repeat array_get_dec
      refine ⟨show 5 ≤ 15 by decide, ?_⟩
      repeat array_get_dec
      have e : mergeD [] [(Sum.inr "cells", PyData.list (cs.map .int)), (Sum.inr "at", .int 0), (Sum.inr "left", .int 0), (Sum.inr "seed", .int s), (Sum.inr "salt", .int 0)] = tapeKvs cs 0 0 s 0 := by with_unfolding_all rfl
      rw [e]
      exact q cs s hc h0 h1
theorem ok__law_is_integer (T : Txt K mg)  : FnOk P w K mg base CX0 1 T.a__law_is_integer T.fd__law_is_integer ["_law_actual"] (spD K (S__law_is_integer K)) := by
  refine fnD T.F__law_is_integer sc__law_is_integer ?len fun cdv A outer s H E hr => ?body
  case len => intro dvs o R X h; first | (obtain ⟨rfl, _⟩ := h; rfl) | (obtain ⟨_, rfl, _⟩ := h; rfl) | (obtain ⟨_, _, rfl, _⟩ := h; rfl) | (obtain ⟨_, _, _, rfl, _⟩ := h; rfl) | (obtain ⟨_, _, _, _, rfl, _⟩ := h; rfl) | (obtain ⟨_, _, _, _, _, rfl, _⟩ := h; rfl) | (obtain ⟨_, _, _, _, _, _, rfl, _⟩ := h; rfl) | (obtain ⟨_, _, _, _, _, _, _, rfl, _⟩ := h; rfl) | (obtain ⟨_, _, _, _, _, _, _, _, rfl, _⟩ := h; rfl) | (obtain ⟨_, _, _, _, _, _, _, _, _, rfl, _⟩ := h; rfl) | (obtain ⟨_, _, _, _, _, _, _, _, _, _, rfl, _⟩ := h; rfl) | (obtain ⟨_, _, _, _, _, _, _, _, _, _, _, rfl, _⟩ := h; rfl) | (obtain ⟨_, _, _, _, _, _, _, _, _, _, _, _, rfl, _⟩ := h; rfl)
  have nd := sc__law_is_integer.nd
  have hu := hu_of hr
  refine ⟨_, (pss_one (ps_ret (pe_and (pe_callB (DL.call_isiK (K := K) rfl) (by rfl) T.n_isinstance (by decide +kernel) (pa_cons (pv 0) (pa_cons (pe_bltn (v := .ty "int") (by rfl) T.n_int (by decide +kernel) rfl) pa_nil))) (pe_one (pe_not (pe_callB (DL.call_isiK (K := K) rfl) (by rfl) T.n_isinstance (by decide +kernel) (pa_cons (pv 0) (pa_cons (pe_bltn (v := .ty "bool") (by rfl) T.n_bool (by decide +kernel) rfl) pa_nil)))))))), ?_⟩
  intro dvs o R X h
  have st : ∀ z, dvs = z → startD N__law_is_integer.length dvs = startD 1 z := fun z e => by rw [e]; rfl
  obtain ⟨n, rfl, q⟩ := h
  rw [st _ rfl]; clear st; simp only [startD, toSl, List.map_cons, List.map_nil, List.length_cons, List.length_nil, List.cons_append, List.nil_append, List.append_nil, Nat.reduceAdd, Nat.reduceSub, List.reduceReplicate, Nat.zero_add, List.replicate_zero, Nat.sub_self]
  repeat array_get_dec
  exact q
theorem ok__law_same_items (T : Txt K mg) (n : Nat) (G__law_same : ∀ m, n = m + 1 → FnOk P w K mg base CX0 (2 * n) T.a__law_same T.fd__law_same ["_law_actual", "_law_expected_here"] (spD K (S__law_same m K))) :
    FnOk P w K mg base CX0 (2 * n + 1) T.a__law_same_items T.fd__law_same_items ["_law_actual", "_law_expected_here"] (spD K (S__law_same_items n K)) := by
  cases n with
  | zero => exact ⟨fun vs H Q E ⟨G, o, dvs, R, X, wd, a, ⟨m, d, ds, _, z, _⟩, q⟩ => (nomatch z), fun A outer s H args us vs Q E _ _ _ _ ⟨G, o, dvs, R, X, wd, a, ⟨m, d, ds, _, z, _⟩, q⟩ => nomatch z⟩
  | succ m =>
  have G__law_same := G__law_same m rfl
  refine fnD T.F__law_same_items sc__law_same_items ?len fun cdv A outer s H E hr => ?body
  case len => intro dvs o R X h; first | (obtain ⟨rfl, _⟩ := h; rfl) | (obtain ⟨_, rfl, _⟩ := h; rfl) | (obtain ⟨_, _, rfl, _⟩ := h; rfl) | (obtain ⟨_, _, _, rfl, _⟩ := h; rfl) | (obtain ⟨_, _, _, _, rfl, _⟩ := h; rfl) | (obtain ⟨_, _, _, _, _, rfl, _⟩ := h; rfl) | (obtain ⟨_, _, _, _, _, _, rfl, _⟩ := h; rfl) | (obtain ⟨_, _, _, _, _, _, _, rfl, _⟩ := h; rfl) | (obtain ⟨_, _, _, _, _, _, _, _, rfl, _⟩ := h; rfl) | (obtain ⟨_, _, _, _, _, _, _, _, _, rfl, _⟩ := h; rfl) | (obtain ⟨_, _, _, _, _, _, _, _, _, _, rfl, _⟩ := h; rfl) | (obtain ⟨_, _, _, _, _, _, _, _, _, _, _, rfl, _⟩ := h; rfl) | (obtain ⟨_, _, _, _, _, _, _, _, _, _, _, _, rfl, _⟩ := h; rfl)
  have nd := sc__law_same_items.nd
  have hu := hu_of hr
  refine ⟨_, (pss_cons (ps_if (pt_cmpR (DL.op_neK (K := K) rfl hr.units) (pe_callB (DL.call_lenK (K := K) rfl) (by rfl) T.n_len (by decide +kernel) (pa_cons (pv 0) pa_nil)) (pe_callB (DL.call_lenK (K := K) rfl) (by rfl) T.n_len (by decide +kernel) (pa_cons (pv 1) pa_nil)) (nomark _)) (pss_one (ps_ret pe_bl)) pss_nil) (pss_cons (ps_for PassesOwn.never rfl (pi_range1 (by rfl) T.n_range (pa_cons (pe_callB (DL.call_lenK (K := K) rfl) (by rfl) T.n_len (by decide +kernel) (pa_cons (pv 1) pa_nil)) pa_nil)) (pg_name (i := 2) nd rfl (Or.inl rfl)) (pss_one (ps_if (pt_not (pt_val (pe_call G__law_same (hr.mono (by first | decide | omega)) (by rfl) T.g__law_same T.F__law_same.kp T.b__law_same .nil pass0 (pa_cons (pe_ix (DL.ix_K (K := K) rfl) (pv 0) (pv 2) (fun _ _ => rfl)) (pa_cons (pe_ix (DL.ix_K (K := K) rfl) (pv 1) (pv 2) (fun _ _ => rfl)) pa_nil))))) (pss_one (ps_ret pe_bl)) pss_nil))) (pss_one (ps_ret pe_bl)))), ?_⟩
  intro dvs o R X h
  have st : ∀ z, dvs = z → startD N__law_same_items.length dvs = startD 3 z := fun z e => by rw [e]; rfl
  obtain ⟨m', d, ds, rfl, hm, hd, hl, hs, q⟩ := h
  cases hm
  rw [st _ rfl]; clear st; simp only [startD, toSl, List.map_cons, List.map_nil, List.length_cons, List.length_nil, List.cons_append, List.nil_append, List.append_nil, Nat.reduceAdd, Nat.reduceSub, List.reduceReplicate, Nat.zero_add, List.replicate_zero, Nat.sub_self]
  repeat array_get_dec
  refine xc_lenQ hd ?_
  repeat array_get_dec
  refine xc_lenQ hd ?_
  repeat array_get_dec
  refine bs_nd (fun h => absurd rfl h) fun _ => ?_
  repeat array_get_dec
  refine xs_forR1 (xa_cons (xe_cb (xa_cons (xe_vd rfl (xa_nil ⟨trivial, xc_lenQ hd ?_⟩)))))
  repeat array_get_dec
  refine ⟨by omega, by omega, fun k ρ' o' => o' = o ∧ ∃ x, ρ' = [.val d, .val d, x], ⟨rfl, _, rfl⟩, ?_, ?_⟩
  · rintro k ρ' o' hk ⟨rfl, x, rfl⟩
    refine xg_nd ?_
    have hk : k < ds.length := by omega
    have at_k : atI ds (0 + (k : Int)) = some ds[k] := atD_of (j := k) (show (0 : Int) + (k : Int) = (k : Int) by omega) (List.getElem?_eq_getElem hk)
    repeat array_get_dec
    refine xr_ixQ hd at_k ?_
    repeat array_get_dec
    refine xr_ixQ hd at_k ?_
    repeat array_get_dec
    refine ⟨ds[k], rfl, hs _ (List.getElem_mem _), ?_⟩
    repeat array_get_dec
    exact ⟨_, rfl⟩
  · rintro ρ' o' ⟨rfl, x, rfl⟩
    repeat array_get_dec
    exact q
theorem ok__law_same (T : Txt K mg) (n : Nat) (G__law_is_integer : FnOk P w K mg base CX0 1 T.a__law_is_integer T.fd__law_is_integer ["_law_actual"] (spD K (S__law_is_integer K)))
    (G__law_same_items : FnOk P w K mg base CX0 (2 * n + 1) T.a__law_same_items T.fd__law_same_items ["_law_actual", "_law_expected_here"] (spD K (S__law_same_items n K)))
    (G__law_same : FnOk P w K mg base CX0 (2 * n + 1) T.a__law_same T.fd__law_same ["_law_actual", "_law_expected_here"] (spD K (S__law_sub n K))) :
    FnOk P w K mg base CX0 (2 * n + 2) T.a__law_same T.fd__law_same ["_law_actual", "_law_expected_here"] (spD K (S__law_same n K)) := by
  refine fnD T.F__law_same sc__law_same ?len fun cdv A outer s H E hr => ?body
  case len => intro dvs o R X h; first | (obtain ⟨rfl, _⟩ := h; rfl) | (obtain ⟨_, rfl, _⟩ := h; rfl) | (obtain ⟨_, _, rfl, _⟩ := h; rfl) | (obtain ⟨_, _, _, rfl, _⟩ := h; rfl) | (obtain ⟨_, _, _, _, rfl, _⟩ := h; rfl) | (obtain ⟨_, _, _, _, _, rfl, _⟩ := h; rfl) | (obtain ⟨_, _, _, _, _, _, rfl, _⟩ := h; rfl) | (obtain ⟨_, _, _, _, _, _, _, rfl, _⟩ := h; rfl) | (obtain ⟨_, _, _, _, _, _, _, _, rfl, _⟩ := h; rfl) | (obtain ⟨_, _, _, _, _, _, _, _, _, rfl, _⟩ := h; rfl) | (obtain ⟨_, _, _, _, _, _, _, _, _, _, rfl, _⟩ := h; rfl) | (obtain ⟨_, _, _, _, _, _, _, _, _, _, _, rfl, _⟩ := h; rfl) | (obtain ⟨_, _, _, _, _, _, _, _, _, _, _, _, rfl, _⟩ := h; rfl)
  have nd := sc__law_same.nd
  have hu := hu_of hr
  refine ⟨_, (pss_cons (ps_if (pt_cmpR op_isN (pv 1) pe_non (nomark _)) (pss_one (ps_ret (pe_cmpR op_isN (pv 0) pe_non (nomark _)))) pss_nil) (pss_cons (ps_if (pt_val (pe_callB (DL.call_isiK (K := K) rfl) (by rfl) T.n_isinstance (by decide +kernel) (pa_cons (pv 1) (pa_cons (pe_bltn (v := .ty "bool") (by rfl) T.n_bool (by decide +kernel) rfl) pa_nil)))) (pss_one (ps_ret (pe_and (pe_callB (DL.call_isiK (K := K) rfl) (by rfl) T.n_isinstance (by decide +kernel) (pa_cons (pv 0) (pa_cons (pe_bltn (v := .ty "bool") (by rfl) T.n_bool (by decide +kernel) rfl) pa_nil))) (pe_one (pe_cmpR (DL.op_eqK (K := K) rfl hr.units) (pv 0) (pv 1) (nomark _)))))) pss_nil) (pss_cons (ps_if (pt_val (pe_callB (DL.call_isiK (K := K) rfl) (by rfl) T.n_isinstance (by decide +kernel) (pa_cons (pv 1) (pa_cons (pe_bltn (v := .ty "int") (by rfl) T.n_int (by decide +kernel) rfl) pa_nil)))) (pss_one (ps_ret (pe_and (pe_call G__law_is_integer (hr.mono (by first | decide | omega)) (by rfl) T.g__law_is_integer T.F__law_is_integer.kp T.b__law_is_integer .nil pass0 (pa_cons (pv 0) pa_nil)) (pe_one (pe_cmpR (DL.op_eqK (K := K) rfl hr.units) (pv 0) (pv 1) (nomark _)))))) pss_nil) (pss_cons (ps_if (pt_val (pe_callB (DL.call_isiK (K := K) rfl) (by rfl) T.n_isinstance (by decide +kernel) (pa_cons (pv 1) (pa_cons (pe_bltn (v := .ty "str") (by rfl) T.n_str (by decide +kernel) rfl) pa_nil)))) (pss_one (ps_ret (pe_and (pe_callB (DL.call_isiK (K := K) rfl) (by rfl) T.n_isinstance (by decide +kernel) (pa_cons (pv 0) (pa_cons (pe_bltn (v := .ty "str") (by rfl) T.n_str (by decide +kernel) rfl) pa_nil))) (pe_one (pe_cmpR (DL.op_eqK (K := K) rfl hr.units) (pv 0) (pv 1) (nomark _)))))) pss_nil) (pss_cons (ps_if (pt_val (pe_callB (DL.call_isiK (K := K) rfl) (by rfl) T.n_isinstance (by decide +kernel) (pa_cons (pv 1) (pa_cons (pe_bltn (v := .ty "tuple") (by rfl) T.n_tuple (by decide +kernel) rfl) pa_nil)))) (pss_one (ps_ret (pe_and (pe_callB (DL.call_isiK (K := K) rfl) (by rfl) T.n_isinstance (by decide +kernel) (pa_cons (pv 0) (pa_cons (pe_bltn (v := .ty "tuple") (by rfl) T.n_tuple (by decide +kernel) rfl) pa_nil))) (pe_one (pe_call G__law_same_items (hr.mono (by first | decide | omega)) (by rfl) T.g__law_same_items T.F__law_same_items.kp T.b__law_same_items .nil pass0 (pa_cons (pv 0) (pa_cons (pv 1) pa_nil))))))) pss_nil) (pss_cons (ps_if (pt_val (pe_callB (DL.call_isiK (K := K) rfl) (by rfl) T.n_isinstance (by decide +kernel) (pa_cons (pv 1) (pa_cons (pe_bltn (v := .ty "list") (by rfl) T.n_list (by decide +kernel) rfl) pa_nil)))) (pss_one (ps_ret (pe_and (pe_callB (DL.call_isiK (K := K) rfl) (by rfl) T.n_isinstance (by decide +kernel) (pa_cons (pv 0) (pa_cons (pe_bltn (v := .ty "list") (by rfl) T.n_list (by decide +kernel) rfl) pa_nil))) (pe_one (pe_call G__law_same_items (hr.mono (by first | decide | omega)) (by rfl) T.g__law_same_items T.F__law_same_items.kp T.b__law_same_items .nil pass0 (pa_cons (pv 0) (pa_cons (pv 1) pa_nil))))))) pss_nil) (pss_cons (ps_if (PW.pt (pw_or (pt_not (pt_val (pe_callB (DL.call_isiK (K := K) rfl) (by rfl) T.n_isinstance (by decide +kernel) (pa_cons (pv 0) (pa_cons (pe_bltn (v := .ty "dict") (by rfl) T.n_dict (by decide +kernel) rfl) pa_nil))))) (pw_or1 (pt_cmpR (DL.op_neK (K := K) rfl hr.units) (pe_callB (DL.call_lenDc) (by rfl) T.n_len (by decide +kernel) (pa_cons (pv 0) pa_nil)) (pe_callB (DL.call_lenDc) (by rfl) T.n_len (by decide +kernel) (pa_cons (pv 1) pa_nil)) (nomark _))))) (pss_one (ps_ret pe_bl)) pss_nil) (pss_cons (ps_for PassesOwn.never rfl (pi_keys (pv 1)) (pg_name (i := 2) nd rfl (Or.inl rfl)) (pss_one (ps_if (PW.pt (pw_or (pt_cmp (pc_dnotin hu (pv 2) (pv 0))) (pw_or1 (pt_not (pt_val (pe_call G__law_same (hr.mono (by first | decide | omega)) (by rfl) T.g__law_same T.F__law_same.kp T.b__law_same .nil pass0 (pa_cons (pe_dget hu (pv 0) (pv 2) (fun _ _ => rfl)) (pa_cons (pe_dget hu (pv 1) (pv 2) (fun _ _ => rfl)) pa_nil)))))))) (pss_one (ps_ret pe_bl)) pss_nil))) (pss_cons (ps_for PassesOwn.never rfl (pi_keys (pv 0)) (pg_name (i := 2) nd rfl (Or.inl rfl)) (pss_one (ps_if (pt_val (pe_callB (DL.call_isiK (K := K) rfl) (by rfl) T.n_isinstance (by decide +kernel) (pa_cons (pv 2) (pa_cons (pe_bltn (v := .ty "bool") (by rfl) T.n_bool (by decide +kernel) rfl) pa_nil)))) (pss_one (ps_ret pe_bl)) pss_nil))) (pss_one (ps_ret pe_bl))))))))))), ?_⟩
  intro dvs o R X h
  have st : ∀ z, dvs = z → startD N__law_same.length dvs = startD 3 z := fun z e => by rw [e]; rfl
  obtain ⟨d, rfl, sm, q⟩ := h
  rw [st _ rfl]; clear st; simp only [startD, toSl, List.map_cons, List.map_nil, List.length_cons, List.length_nil, List.cons_append, List.nil_append, List.append_nil, Nat.reduceAdd, Nat.reduceSub, List.reduceReplicate, Nat.zero_add, List.replicate_zero, Nat.sub_self]
  cases sm with
  | non =>
    repeat array_get_dec
    exact q
  | bl =>
    repeat array_get_dec
    simpa using q
  | int =>
    repeat array_get_dec
    refine ⟨_, rfl, ?_⟩
    repeat array_get_dec
    simpa using q
  | str =>
    repeat array_get_dec
    simpa using q
  | @tup m ds l h =>
    repeat array_get_dec
    exact ⟨m, .tuple ds, ds, rfl, rfl, .inl rfl, l, h, q⟩
  | @lst m ds l h =>
    repeat array_get_dec
    exact ⟨m, .list ds, ds, rfl, rfl, .inr rfl, l, h, q⟩
  | @dic m ps ndp h =>
    repeat array_get_dec
    refine xr_isN ?_
    rw [show isNoneD (dicD ps) = false from rfl]
    repeat array_get_dec
    refine xc_isi ki_dic_bool ?_
    repeat array_get_dec
    refine xc_isi ki_dic_int ?_
    repeat array_get_dec
    refine xc_isi ki_dic_str ?_
    repeat array_get_dec
    refine xc_isi ki_dic_tuple ?_
    repeat array_get_dec
    refine xc_isi ki_dic_list ?_
    repeat array_get_dec
    refine xc_isi ki_dic_dict ?_
    repeat array_get_dec
    refine xc_lenDc rfl ?_
    repeat array_get_dec
    refine xc_lenDc rfl ?_
    repeat array_get_dec
    refine bs_nd (fun h => absurd rfl h) fun _ => ?_
    repeat array_get_dec
    refine xs_forDD (xe_vd rfl ⟨ps, rfl, fun k ρ' o' => o' = o ∧ ∃ x, ρ' = [.val (dicD ps), .val (dicD ps), x], ⟨rfl, _, rfl⟩, ?_, ?_⟩)
    · rintro k key d _ _ hk ⟨rfl, x, rfl⟩
      have hv := valD_nth ndp hk
      refine xg_nd ?_
      refine xs_ifH fun _ _ hthen helse => ?_
      refine xt_or (xt_test (xe_ddnotin (xe_vd rfl ⟨key, rfl, xe_vd rfl ⟨ps, rfl, ?_⟩⟩)))
      rw [hv]
      refine ⟨_, rfl, fun z => (nomatch z), fun _ => ?_⟩
      refine xt_not (xt_b (xe_call ?_))
      refine xaf_cons (xf_of (xe_ddget (xe_vd rfl ⟨ps, rfl, xe_vd rfl ⟨trivial, key, d, rfl, hv, ?_⟩⟩)))
      repeat array_get_dec
      refine xe_ddget (xe_vd rfl ⟨ps, rfl, xe_vd rfl ⟨trivial, key, d, rfl, hv, ?_⟩⟩)
      repeat array_get_dec
      refine ⟨d, rfl, h _ (List.mem_of_getElem? hk), ?_⟩
      repeat array_get_dec
      exact ⟨_, rfl⟩
    · rintro _ o1 ⟨e1, x, rfl⟩
      obtain rfl : o = o1 := e1.symm
      repeat array_get_dec
      refine xs_forDD (xe_vd rfl ⟨ps, rfl, fun k ρ' o' => o' = o ∧ ∃ x, ρ' = [.val (dicD ps), .val (dicD ps), x], ⟨rfl, _, rfl⟩, ?_, ?_⟩)
      · rintro k key d _ _ hk ⟨rfl, x, rfl⟩
        refine xg_nd ?_
        repeat array_get_dec
        refine xc_isi (ki_key_bool key) ?_
        repeat array_get_dec
        exact ⟨_, rfl⟩
      · rintro _ _ ⟨rfl, x, rfl⟩
        repeat array_get_dec
        exact q
theorem same_all (T : Txt K mg) (n : Nat) : FnOk P w K mg base CX0 (2 * n + 2) T.a__law_same T.fd__law_same ["_law_actual", "_law_expected_here"] (spD K (S__law_same n K)) := by
  have Gi : FnOk P w K mg base CX0 1 T.a__law_is_integer T.fd__law_is_integer ["_law_actual"] (spD K (S__law_is_integer K)) := ok__law_is_integer T
  induction n with
  | zero => exact ok__law_same T 0 Gi (ok__law_same_items T 0 fun m h => nomatch h) never_ok
  | succ n ih => exact ok__law_same T (n + 1) Gi (ok__law_same_items T (n + 1) fun m h => by
        cases h
        exact ih) (ih.mono (by omega))
end

section
variable {P : Program} {w : World} {K : PySem.W.Frag} {mg : Str → Option Value} {base : Heap}
theorem ok_has_right_characters (T : Txt K mg)  : FnOk P w K mg base CX0 1 T.a_has_right_characters T.fd_has_right_characters ["value"] (spD K (S_has_right_characters K)) := by
  refine fnD T.F_has_right_characters sc_has_right_characters ?len fun cdv A outer s H E hr => ?body
  case len => intro dvs o R X h; first | (obtain ⟨rfl, _⟩ := h; rfl) | (obtain ⟨_, rfl, _⟩ := h; rfl) | (obtain ⟨_, _, rfl, _⟩ := h; rfl) | (obtain ⟨_, _, _, rfl, _⟩ := h; rfl) | (obtain ⟨_, _, _, _, rfl, _⟩ := h; rfl) | (obtain ⟨_, _, _, _, _, rfl, _⟩ := h; rfl) | (obtain ⟨_, _, _, _, _, _, rfl, _⟩ := h; rfl) | (obtain ⟨_, _, _, _, _, _, _, rfl, _⟩ := h; rfl) | (obtain ⟨_, _, _, _, _, _, _, _, rfl, _⟩ := h; rfl) | (obtain ⟨_, _, _, _, _, _, _, _, _, rfl, _⟩ := h; rfl) | (obtain ⟨_, _, _, _, _, _, _, _, _, _, rfl, _⟩ := h; rfl) | (obtain ⟨_, _, _, _, _, _, _, _, _, _, _, rfl, _⟩ := h; rfl) | (obtain ⟨_, _, _, _, _, _, _, _, _, _, _, _, rfl, _⟩ := h; rfl)
  have nd := sc_has_right_characters.nd
  have hu := hu_of hr
  refine ⟨_, (pss_cons (ps_for PassesOwn.never rfl (pi_str (pv 0)) (pg_name (i := 1) nd rfl (Or.inl rfl)) (pss_one (ps_if (pt_cmpR (DL.op_notInK (K := K) rfl) (pv 1) (pe_glob (v := .str k_CHARACTERS) (by rfl) (T.c_CHARACTERS).choose_spec ⟨_, rfl⟩) (by rfl)) (pss_one (ps_ret pe_bl)) pss_nil))) (pss_one (ps_ret pe_bl))), ?_⟩
  intro dvs o R X h
  have st : ∀ z, dvs = z → startD N_has_right_characters.length dvs = startD 2 z := fun z e => by rw [e]; rfl
  obtain ⟨t, rfl, q⟩ := h
  rw [st _ rfl]; clear st; simp only [startD, toSl, List.map_cons, List.map_nil, List.length_cons, List.length_nil, List.cons_append, List.nil_append, List.append_nil, Nat.reduceAdd, Nat.reduceSub, List.reduceReplicate, Nat.zero_add, List.replicate_zero, Nat.sub_self]
  have hOk := mem_tab (L := k_CHARACTERS.cps.toList) (p := okB) (by decide +kernel) (by decide +kernel) okB_big
  refine xs_seq ?_
  refine xs_forS (xe_vd rfl ?_)
  refine ⟨t, rfl, fun k ρ' o' => Hold (o = o' ∧ ∃ x : Sl, ρ' = [.val (.str t), x] ∧ ((TL.tl t).take k).all okB = true), hold ⟨rfl, _, rfl, rfl⟩, ?_, ?_⟩
  · rintro k c _ _ hc ⟨rfl, x, rfl, ha⟩
    refine xg_nd ?_
    have hc' : (TL.tl t)[k]? = some c := by rw [← hc]; simp
    repeat array_get_dec
    rw [hOk]
    refine bs_nb (fun h1 => ?_) fun h1 => ?_
    · repeat array_get_dec
      rw [all_not hc' h1] at q
      exact q
    · repeat array_get_dec
      exact hold ⟨rfl, _, rfl, all_take hc' ha h1⟩
  · rintro _ _ ⟨rfl, x, rfl, ha⟩
    repeat array_get_dec
    have hsz : t.cps.size = (TL.tl t).length := by rw [← len_tl]; rfl
    rw [hsz, List.take_length] at ha
    rw [ha] at q
    exact q
theorem ok_is_text (T : Txt K mg) (G_has_right_characters : FnOk P w K mg base CX0 1 T.a_has_right_characters T.fd_has_right_characters ["value"] (spD K (S_has_right_characters K))) : FnOk P w K mg base CX0 2 T.a_is_text T.fd_is_text ["value"] (spD K (S_is_text K)) := by
  refine fnD T.F_is_text sc_is_text ?len fun cdv A outer s H E hr => ?body
  case len => intro dvs o R X h; first | (obtain ⟨rfl, _⟩ := h; rfl) | (obtain ⟨_, rfl, _⟩ := h; rfl) | (obtain ⟨_, _, rfl, _⟩ := h; rfl) | (obtain ⟨_, _, _, rfl, _⟩ := h; rfl) | (obtain ⟨_, _, _, _, rfl, _⟩ := h; rfl) | (obtain ⟨_, _, _, _, _, rfl, _⟩ := h; rfl) | (obtain ⟨_, _, _, _, _, _, rfl, _⟩ := h; rfl) | (obtain ⟨_, _, _, _, _, _, _, rfl, _⟩ := h; rfl) | (obtain ⟨_, _, _, _, _, _, _, _, rfl, _⟩ := h; rfl) | (obtain ⟨_, _, _, _, _, _, _, _, _, rfl, _⟩ := h; rfl) | (obtain ⟨_, _, _, _, _, _, _, _, _, _, rfl, _⟩ := h; rfl) | (obtain ⟨_, _, _, _, _, _, _, _, _, _, _, rfl, _⟩ := h; rfl) | (obtain ⟨_, _, _, _, _, _, _, _, _, _, _, _, rfl, _⟩ := h; rfl)
  have nd := sc_is_text.nd
  have hu := hu_of hr
  refine ⟨_, (pss_one (ps_ret (pe_and (pe_cmpR (DL.op_leU) (pe_callB (DL.call_lenK (K := K) rfl) (by rfl) T.n_len (by decide +kernel) (pa_cons (pv 0) pa_nil)) (pe_glob (v := .int 4000) (by rfl) (T.c_MOST).choose_spec ⟨_, rfl⟩) (nomark _)) (pe_one (pe_call G_has_right_characters (hr.mono (by first | decide | omega)) (by rfl) T.g_has_right_characters T.F_has_right_characters.kp T.b_has_right_characters .nil pass0 (pa_cons (pv 0) pa_nil)))))), ?_⟩
  intro dvs o R X h
  have st : ∀ z, dvs = z → startD N_is_text.length dvs = startD 1 z := fun z e => by rw [e]; rfl
  obtain ⟨t, rfl, hl, q⟩ := h
  rw [st _ rfl]; clear st; simp only [startD, toSl, List.map_cons, List.map_nil, List.length_cons, List.length_nil, List.cons_append, List.nil_append, List.append_nil, Nat.reduceAdd, Nat.reduceSub, List.reduceReplicate, Nat.zero_add, List.replicate_zero, Nat.sub_self]
  have hs : sizeLine = 16777216 := sizeLine_eq
  repeat array_get_dec
  refine xc_lenS (by omega) ?_
  repeat array_get_dec
  have e0 : decide ((t.length : Int) ≤ 4000) = decide (t.length ≤ 4000) := decide_eq_decide.mpr (by omega)
  rw [e0]
  refine ⟨fun h1 => ?_, fun h1 => ?_⟩
  · rw [h1, Bool.true_and] at q
    refine xe_call ?_
    repeat array_get_dec
    exact ⟨t, rfl, q⟩
  · rw [h1, Bool.false_and] at q
    exact q
theorem ok_apply_edit (T : Txt K mg) (G_has_right_characters : FnOk P w K mg base CX0 1 T.a_has_right_characters T.fd_has_right_characters ["value"] (spD K (S_has_right_characters K))) : FnOk P w K mg base (L2.CX P w) 2 T.a_apply_edit T.fd_apply_edit ["text", "edit"] (spD K (S_apply_edit K)) := by
  refine fnDX T.F_apply_edit sc_apply_edit ?len fun cdv A outer s H E hr => ?body
  case len => intro dvs o R X h; first | (obtain ⟨rfl, _⟩ := h; rfl) | (obtain ⟨_, rfl, _⟩ := h; rfl) | (obtain ⟨_, _, rfl, _⟩ := h; rfl) | (obtain ⟨_, _, _, rfl, _⟩ := h; rfl) | (obtain ⟨_, _, _, _, rfl, _⟩ := h; rfl) | (obtain ⟨_, _, _, _, _, rfl, _⟩ := h; rfl) | (obtain ⟨_, _, _, _, _, _, rfl, _⟩ := h; rfl) | (obtain ⟨_, _, _, _, _, _, _, rfl, _⟩ := h; rfl) | (obtain ⟨_, _, _, _, _, _, _, _, rfl, _⟩ := h; rfl) | (obtain ⟨_, _, _, _, _, _, _, _, _, rfl, _⟩ := h; rfl) | (obtain ⟨_, _, _, _, _, _, _, _, _, _, rfl, _⟩ := h; rfl) | (obtain ⟨_, _, _, _, _, _, _, _, _, _, _, rfl, _⟩ := h; rfl) | (obtain ⟨_, _, _, _, _, _, _, _, _, _, _, _, rfl, _⟩ := h; rfl)
  have nd := sc_apply_edit.nd
  have hu := hu_of hr
  refine ⟨_, (pss_cons (ps_asg (pv 1) (DL.pg_tupK (K := K) (n := 3) rfl (pg_tup (by rfl) (pgs_cons (pg_name (i := 2) nd rfl (Or.inl rfl)) (pgs_cons (pg_name (i := 3) nd rfl (Or.inl rfl)) (pgs_cons (pg_name (i := 4) nd rfl (Or.inl rfl)) pgs_nil)))))) (pss_cons (ps_if (PW.pt (pw_or (pt_not (DL.pt_chain3 (DL.op_leU) (DL.op_leU) (DL.op_leU) pe_int (pv 2) (pv 3) (pe_callB (DL.call_lenK (K := K) rfl) (by rfl) T.n_len (by decide +kernel) (pa_cons (pv 0) pa_nil)))) (pw_or1 (pt_not (pt_val (pe_call G_has_right_characters (hr.mono (by first | decide | omega)) (by rfl) T.g_has_right_characters T.F_has_right_characters.kp T.b_has_right_characters .nil pass0 (pa_cons (pv 4) pa_nil))))))) (pss_one (DL.ps_raiseC rfl (takes_of rfl rfl rfl rfl) (pmk_own PySem.F.excBase_ValueError T.x_InvalidEdit T.g_InvalidEdit T.k_InvalidEdit (raises_own T.b_InvalidEdit T.t_InvalidEdit) (by rfl)))) pss_nil) (pss_cons (ps_set (i := 5) nd rfl (Or.inl rfl) (pe_op (DL.op_addK (K := K) rfl) (pe_op (DL.op_addK (K := K) rfl) (pe_slice (DL.sl_K (K := K) rfl) (pv 0) po_none (po_some (pv 2))) (pv 4)) (pe_slice (DL.sl_K (K := K) rfl) (pv 0) (po_some (pv 3)) po_none))) (pss_cons (ps_if (pt_cmpR (op_gt) (pe_callB (DL.call_lenK (K := K) rfl) (by rfl) T.n_len (by decide +kernel) (pa_cons (pv 5) pa_nil)) (pe_glob (v := .int 4000) (by rfl) (T.c_MOST).choose_spec ⟨_, rfl⟩) (nomark _)) (pss_one (DL.ps_raiseC rfl (takes_of rfl rfl rfl rfl) (pmk_own PySem.F.excBase_ValueError T.x_InvalidEdit T.g_InvalidEdit T.k_InvalidEdit (raises_own T.b_InvalidEdit T.t_InvalidEdit) (by rfl)))) pss_nil) (pss_one (ps_ret (pv 5))))))), ?_⟩
  intro dvs o R X h
  have st : ∀ z, dvs = z → startD N_apply_edit.length dvs = startD 6 z := fun z e => by rw [e]; rfl
  obtain ⟨t, s, e, n, rfl, h3, h4, q, qx⟩ := h
  rw [st _ rfl]; clear st; simp only [startD, toSl, List.map_cons, List.map_nil, List.length_cons, List.length_nil, List.cons_append, List.nil_append, List.append_nil, Nat.reduceAdd, Nat.reduceSub, List.reduceReplicate, Nat.zero_add, List.replicate_zero, Nat.sub_self]
  have hs : sizeLine = 16777216 := sizeLine_eq
  have no : ¬ Fits t s e n → X (.ref T.e_InvalidEdit, none) o := fun h => qx h _ ⟨T.i_InvalidEdit, rfl⟩
  repeat array_get_dec
  refine bs_d3 kept_d (fun a1 => ?_) fun a1 => ?_
  rotate_left
  · repeat array_get_dec
    exact xs_raiseC (no fun z => a1 z.1)
  repeat array_get_dec
  refine bs_d3 kept_d (fun a2 => ?_) fun a2 => ?_
  rotate_left
  · repeat array_get_dec
    exact xs_raiseC (no fun z => a2 z.2.1)
  repeat array_get_dec
  refine xc_lenS (by omega) ?_
  repeat array_get_dec
  refine bs_nd (fun a3 => ?_) fun a3 => ?_
  · repeat array_get_dec
    exact xs_raiseC (no fun z => a3 z.2.2.1)
  repeat array_get_dec
  refine ⟨n, rfl, ?_⟩
  repeat array_get_dec
  refine bs_nb (fun a4 => ?_) fun a4 => ?_
  · repeat array_get_dec
    exact xs_raiseC (no fun z => by rw [z.2.2.2.1] at a4; cases a4)
  obtain ⟨s, rfl⟩ : ∃ j : Nat, s = j := ⟨s.toNat, by omega⟩
  obtain ⟨e, rfl⟩ : ∃ j : Nat, e = j := ⟨e.toNat, by omega⟩
  rw [Int.toNat_natCast, Int.toNat_natCast] at q
  repeat array_get_dec
  refine xsl_S (by omega) ?_
  have c1 := tl_cutTo t s
  have c2 := tl_cutFrom t e
  have d1 := cut_len t none (some (s : Int))
  have d2 := cut_len t (some (e : Int)) none
  generalize cutS t none (some (s : Int)) = x1 at c1 d1
  generalize hx2 : cutS t (some (e : Int)) none = x2 at c2 d2
  have l1 : x1.length = s := by rw [len_tl, c1, List.length_take, ← len_tl]; omega
  have l2 : x2.length = t.length - e := by rw [len_tl, c2, List.length_drop, ← len_tl]
  have lc : (x1 ++ n).length = s + n.length := by rw [len_tl, app_tl, List.length_append, ← len_tl, ← len_tl, l1]
  repeat array_get_dec
  refine xr_addS (by omega) ?_
  repeat array_get_dec
  refine xsl_S (by omega) ?_
  repeat array_get_dec
  rw [hx2]
  have lr : (x1 ++ n ++ x2).length = s + n.length + (t.length - e) := by rw [len_tl, app_tl, List.length_append, ← len_tl, ← len_tl, lc, l2]
  have q := fun h => q h (x1 ++ n ++ x2) (by rw [app_tl, app_tl, c1, c2])
  refine xr_addS (by omega) ?_
  generalize x1 ++ n ++ x2 = r at lr q ⊢
  repeat array_get_dec
  refine xc_lenS (by omega) ?_
  repeat array_get_dec
  refine bs_d (fun a5 => ?_) fun a5 => ?_
  · repeat array_get_dec
    exact xs_raiseC (no fun z => by have := z.2.2.2.2; omega)
  · repeat array_get_dec
    exact q ⟨a1, a2, a3, a4, by omega⟩
theorem ok_inverse (T : Txt K mg) (G_apply_edit : FnOk P w K mg base (L2.CX P w) 2 T.a_apply_edit T.fd_apply_edit ["text", "edit"] (spD K (S_apply_edit K))) : FnOk P w K mg base (L2.CX P w) 3 T.a_inverse T.fd_inverse ["text", "edit"] (spD K (S_inverse K)) := by
  refine fnDX T.F_inverse sc_inverse ?len fun cdv A outer s H E hr => ?body
  case len => intro dvs o R X h; first | (obtain ⟨rfl, _⟩ := h; rfl) | (obtain ⟨_, rfl, _⟩ := h; rfl) | (obtain ⟨_, _, rfl, _⟩ := h; rfl) | (obtain ⟨_, _, _, rfl, _⟩ := h; rfl) | (obtain ⟨_, _, _, _, rfl, _⟩ := h; rfl) | (obtain ⟨_, _, _, _, _, rfl, _⟩ := h; rfl) | (obtain ⟨_, _, _, _, _, _, rfl, _⟩ := h; rfl) | (obtain ⟨_, _, _, _, _, _, _, rfl, _⟩ := h; rfl) | (obtain ⟨_, _, _, _, _, _, _, _, rfl, _⟩ := h; rfl) | (obtain ⟨_, _, _, _, _, _, _, _, _, rfl, _⟩ := h; rfl) | (obtain ⟨_, _, _, _, _, _, _, _, _, _, rfl, _⟩ := h; rfl) | (obtain ⟨_, _, _, _, _, _, _, _, _, _, _, rfl, _⟩ := h; rfl) | (obtain ⟨_, _, _, _, _, _, _, _, _, _, _, _, rfl, _⟩ := h; rfl)
  have nd := sc_inverse.nd
  have hu := hu_of hr
  refine ⟨_, (pss_cons (ps_expr (pe_callS G_apply_edit (hr.mono (by first | decide | omega)) (by rfl) T.g_apply_edit T.F_apply_edit.kp T.b_apply_edit (fun σ => passAt (takes_of rfl rfl rfl rfl) σ) (pa_cons (pv 0) (pa_cons (pv 1) pa_nil)))) (pss_cons (ps_asg (pv 1) (DL.pg_tupK (K := K) (n := 3) rfl (pg_tup (by rfl) (pgs_cons (pg_name (i := 2) nd rfl (Or.inl rfl)) (pgs_cons (pg_name (i := 3) nd rfl (Or.inl rfl)) (pgs_cons (pg_name (i := 4) nd rfl (Or.inl rfl)) pgs_nil)))))) (pss_one (ps_ret (pe_tup (pa_cons (pv 2) (pa_cons (pe_op (DL.op_addK (K := K) rfl) (pv 2) (pe_callB (DL.call_lenK (K := K) rfl) (by rfl) T.n_len (by decide +kernel) (pa_cons (pv 4) pa_nil))) (pa_cons (pe_slice (DL.sl_K (K := K) rfl) (pv 0) (po_some (pv 2)) (po_some (pv 3))) pa_nil)))))))), ?_⟩
  intro dvs o R X h
  have st : ∀ z, dvs = z → startD N_inverse.length dvs = startD 5 z := fun z e => by rw [e]; rfl
  obtain ⟨t, s, e, n, rfl, h3, h4, q, qx⟩ := h
  rw [st _ rfl]; clear st; simp only [startD, toSl, List.map_cons, List.map_nil, List.length_cons, List.length_nil, List.cons_append, List.nil_append, List.append_nil, Nat.reduceAdd, Nat.reduceSub, List.reduceReplicate, Nat.zero_add, List.replicate_zero, Nat.sub_self]
  have hs : sizeLine = 16777216 := sizeLine_eq
  repeat array_get_dec
  refine ⟨t, s, e, n, rfl, h3, h4, fun hf r hr => ?_, qx⟩
  have q := q hf
  have ⟨a1, a2, a3, a4, a5⟩ := hf
  obtain ⟨s, rfl⟩ : ∃ j : Nat, s = j := ⟨s.toNat, by omega⟩
  obtain ⟨e, rfl⟩ : ∃ j : Nat, e = j := ⟨e.toNat, by omega⟩
  rw [Int.toNat_natCast, Int.toNat_natCast] at q
  repeat array_get_dec
  refine xc_lenS (by omega) ?_
  repeat array_get_dec
  refine xsl_S (by omega) ?_
  repeat array_get_dec
  exact q _ (tl_cutN t s e)
theorem ok_run_end (T : Txt K mg)  : FnOk P w K mg base CX0 1 T.a_run_end T.fd_run_end ["text", "start", "allowed"] (spD K (S_run_end K)) := by
  refine fnD T.F_run_end sc_run_end ?len fun cdv A outer s H E hr => ?body
  case len => intro dvs o R X h; first | (obtain ⟨rfl, _⟩ := h; rfl) | (obtain ⟨_, rfl, _⟩ := h; rfl) | (obtain ⟨_, _, rfl, _⟩ := h; rfl) | (obtain ⟨_, _, _, rfl, _⟩ := h; rfl) | (obtain ⟨_, _, _, _, rfl, _⟩ := h; rfl) | (obtain ⟨_, _, _, _, _, rfl, _⟩ := h; rfl) | (obtain ⟨_, _, _, _, _, _, rfl, _⟩ := h; rfl) | (obtain ⟨_, _, _, _, _, _, _, rfl, _⟩ := h; rfl) | (obtain ⟨_, _, _, _, _, _, _, _, rfl, _⟩ := h; rfl) | (obtain ⟨_, _, _, _, _, _, _, _, _, rfl, _⟩ := h; rfl) | (obtain ⟨_, _, _, _, _, _, _, _, _, _, rfl, _⟩ := h; rfl) | (obtain ⟨_, _, _, _, _, _, _, _, _, _, _, rfl, _⟩ := h; rfl) | (obtain ⟨_, _, _, _, _, _, _, _, _, _, _, _, rfl, _⟩ := h; rfl)
  have nd := sc_run_end.nd
  have hu := hu_of hr
  refine ⟨_, (pss_cons (ps_set (i := 3) nd rfl (Or.inl rfl) (pv 1)) (pss_cons (ps_while PassesOwn.never (PW.pt (pw_and (pt_cmpR (DL.op_ltU) (pv 3) (pe_callB (DL.call_lenK (K := K) rfl) (by rfl) T.n_len (by decide +kernel) (pa_cons (pv 0) pa_nil)) (nomark _)) (pw_and1 (pt_cmpR (DL.op_inK (K := K) rfl) (pe_ix (DL.ix_K (K := K) rfl) (pv 0) (pv 3) (fun _ _ => rfl)) (pv 2) (by rfl))))) (pss_one (ps_aug (i := 3) nd rfl (Or.inl rfl) pe_int DL.ip_addU))) (pss_one (ps_ret (pv 3))))), ?_⟩
  intro dvs o R X h
  have st : ∀ z, dvs = z → startD N_run_end.length dvs = startD 4 z := fun z e => by rw [e]; rfl
  obtain ⟨t, i, al, p, rfl, hl, hi, hp, q⟩ := h
  rw [st _ rfl]; clear st; simp only [startD, toSl, List.map_cons, List.map_nil, List.length_cons, List.length_nil, List.cons_append, List.nil_append, List.append_nil, Nat.reduceAdd, Nat.reduceSub, List.reduceReplicate, Nat.zero_add, List.replicate_zero, Nat.sub_self]
  repeat array_get_dec
  have hs : sizeLine = 16777216 := sizeLine_eq
  have htl := len_tl t
  refine xs_while (fun m ρ' o' => Hold (∃ k : Nat, o = o' ∧ ρ' = [.val (.str t), .val (.int (i : Nat)), .val (.str al), .val (.int (k : Nat))] ∧ m = t.length - k ∧ k ≤ t.length ∧ k + DL.run p ((TL.tl t).drop k) = i + DL.run p ((TL.tl t).drop i))) (t.length - i) (hold ⟨i, rfl, rfl, rfl, hi, rfl⟩) ?_
  rintro m _ _ ⟨k, rfl, rfl, rfl, hk, hrn⟩
  repeat array_get_dec
  refine xc_lenS (by omega) ?_
  repeat array_get_dec
  refine bs_d (fun hlt => ?_) fun hlt => ?_
  · have hkl : k < (TL.tl t).length := by omega
    have hget := List.getElem?_eq_getElem hkl
    generalize (TL.tl t)[k] = c at hget
    repeat array_get_dec
    refine xr_ixS (by omega) (atD_of (j := k) rfl hget) ?_
    repeat array_get_dec
    rw [hp]
    refine bs_b (fun h1 => ?_) fun h1 => ?_
    · refine xs_augA rfl (xe_int ⟨1, rfl, rfl, ?_⟩)
      exact ⟨t.length - (k + 1), by omega, hold ⟨k + 1, rfl, rfl, rfl, by omega, run_step hget h1 hrn⟩⟩
    · repeat array_get_dec
      rw [run_stop hget h1, Nat.add_zero] at hrn
      rw [hrn]
      exact q
  · repeat array_get_dec
    rw [run_end (k := k) (by omega), Nat.add_zero] at hrn
    rw [hrn]
    exact q
theorem ok_token_at (T : Txt K mg) (G_run_end : FnOk P w K mg base CX0 1 T.a_run_end T.fd_run_end ["text", "start", "allowed"] (spD K (S_run_end K))) : FnOk P w K mg base CX0 2 T.a_token_at T.fd_token_at ["text", "start"] (spD K (S_token_at K)) := by
  refine fnD T.F_token_at sc_token_at ?len fun cdv A outer s H E hr => ?body
  case len => intro dvs o R X h; first | (obtain ⟨rfl, _⟩ := h; rfl) | (obtain ⟨_, rfl, _⟩ := h; rfl) | (obtain ⟨_, _, rfl, _⟩ := h; rfl) | (obtain ⟨_, _, _, rfl, _⟩ := h; rfl) | (obtain ⟨_, _, _, _, rfl, _⟩ := h; rfl) | (obtain ⟨_, _, _, _, _, rfl, _⟩ := h; rfl) | (obtain ⟨_, _, _, _, _, _, rfl, _⟩ := h; rfl) | (obtain ⟨_, _, _, _, _, _, _, rfl, _⟩ := h; rfl) | (obtain ⟨_, _, _, _, _, _, _, _, rfl, _⟩ := h; rfl) | (obtain ⟨_, _, _, _, _, _, _, _, _, rfl, _⟩ := h; rfl) | (obtain ⟨_, _, _, _, _, _, _, _, _, _, rfl, _⟩ := h; rfl) | (obtain ⟨_, _, _, _, _, _, _, _, _, _, _, rfl, _⟩ := h; rfl) | (obtain ⟨_, _, _, _, _, _, _, _, _, _, _, _, rfl, _⟩ := h; rfl)
  have nd := sc_token_at.nd
  have hu := hu_of hr
  refine ⟨_, (pss_cons (ps_set (i := 2) nd rfl (Or.inl rfl) (pe_ix (DL.ix_K (K := K) rfl) (pv 0) (pv 1) (fun _ _ => rfl))) (pss_cons (ps_if (pt_cmpR (DL.op_inK (K := K) rfl) (pv 2) (pe_glob (v := .str k_LETTERS) (by rfl) (T.c_LETTERS).choose_spec ⟨_, rfl⟩) (by rfl)) (pss_cons (ps_set (i := 3) nd rfl (Or.inl rfl) (pe_call G_run_end (hr.mono (by first | decide | omega)) (by rfl) T.g_run_end T.F_run_end.kp T.b_run_end .nil pass0 (pa_cons (pv 0) (pa_cons (pv 1) (pa_cons (pe_glob (v := .str k_NAME_CHARACTERS) (by rfl) (T.c_NAME_CHARACTERS).choose_spec ⟨_, rfl⟩) pa_nil))))) (pss_cons (ps_if (pt_cmpR (DL.op_inK (K := K) rfl) (pe_slice (DL.sl_K (K := K) rfl) (pv 0) (po_some (pv 1)) (po_some (pv 3))) (pe_glob (v := .ref T.a_WORDS) (by rfl) T.g_WORDS rfl) (by rfl)) (pss_one (ps_ret (pe_tup (pa_cons pe_str (pa_cons (pv 1) (pa_cons (pv 3) pa_nil)))))) pss_nil) (pss_one (ps_ret (pe_tup (pa_cons pe_str (pa_cons (pv 1) (pa_cons (pv 3) pa_nil)))))))) pss_nil) (pss_cons (ps_if (pt_cmpR (DL.op_inK (K := K) rfl) (pv 2) (pe_glob (v := .str k_DIGITS) (by rfl) (T.c_DIGITS).choose_spec ⟨_, rfl⟩) (by rfl)) (pss_one (ps_ret (pe_tup (pa_cons pe_str (pa_cons (pv 1) (pa_cons (pe_call G_run_end (hr.mono (by first | decide | omega)) (by rfl) T.g_run_end T.F_run_end.kp T.b_run_end .nil pass0 (pa_cons (pv 0) (pa_cons (pv 1) (pa_cons (pe_glob (v := .str k_DIGITS) (by rfl) (T.c_DIGITS).choose_spec ⟨_, rfl⟩) pa_nil)))) pa_nil)))))) pss_nil) (pss_cons (ps_if (pt_cmpR (DL.op_eqK (K := K) rfl hr.units) (pe_slice (DL.sl_K (K := K) rfl) (pv 0) (po_some (pv 1)) (po_some (pe_op (DL.op_addK (K := K) rfl) (pv 1) pe_int))) pe_str (nomark _)) (pss_one (ps_ret (pe_tup (pa_cons pe_str (pa_cons (pv 1) (pa_cons (pe_op (DL.op_addK (K := K) rfl) (pv 1) pe_int) pa_nil)))))) pss_nil) (pss_cons (ps_if (pt_cmpR (DL.op_inK (K := K) rfl) (pv 2) (pe_glob (v := .str k_SIGNS) (by rfl) (T.c_SIGNS).choose_spec ⟨_, rfl⟩) (by rfl)) (pss_one (ps_ret (pe_tup (pa_cons pe_str (pa_cons (pv 1) (pa_cons (pe_op (DL.op_addK (K := K) rfl) (pv 1) pe_int) pa_nil)))))) pss_nil) (pss_one (ps_ret (pe_tup (pa_cons pe_str (pa_cons (pv 1) (pa_cons (pe_op (DL.op_addK (K := K) rfl) (pv 1) pe_int) pa_nil))))))))))), ?_⟩
  intro dvs o R X h
  have st : ∀ z, dvs = z → startD N_token_at.length dvs = startD 4 z := fun z e => by rw [e]; rfl
  obtain ⟨t, i, c, r, rfl, hl, hd, q⟩ := h
  rw [st _ rfl]; clear st; simp only [startD, toSl, List.map_cons, List.map_nil, List.length_cons, List.length_nil, List.cons_append, List.nil_append, List.append_nil, Nat.reduceAdd, Nat.reduceSub, List.reduceReplicate, Nat.zero_add, List.replicate_zero, Nat.sub_self]
  have hs : sizeLine = 16777216 := sizeLine_eq
  have htl := len_tl t
  have hi : i < t.length := by
    have := congrArg List.length hd
    rw [List.length_drop, List.length_cons] at this
    omega
  have hget : (TL.tl t)[i]? = some c := by
    have := congrArg (fun l => l[0]?) hd
    rw [List.getElem?_drop] at this
    exact this
  have hLet := mem_tab (L := k_LETTERS.cps.toList) (p := isLet) (by decide +kernel) (by decide +kernel) isLet_big
  have hDig := mem_tab (L := k_DIGITS.cps.toList) (p := isDig) (by decide +kernel) (by decide +kernel) isDig_big
  have hNam := mem_tab (L := k_NAME_CHARACTERS.cps.toList) (p := isNam) (by decide +kernel) (by decide +kernel) isNam_big
  have hSgn := mem_tab (L := k_SIGNS.cps.toList) (p := isSgn) (by decide +kernel) (by decide +kernel) isSgn_big
  have hW := T.w_WORDS
  have hWL : k_WORDS = wordL := by decide +kernel
  repeat array_get_dec
  refine xr_ixS (by omega) (atD_of (j := i) rfl hget) ?_
  repeat array_get_dec
  rw [hLet]
  refine bs_b (fun h1 => ?_) fun h1 => ?_
  · repeat array_get_dec
    refine ⟨t, i, _, isNam, rfl, by omega, by omega, hNam, ?_⟩
    rw [hd]
    repeat array_get_dec
    refine xsl_S (by omega) ?_
    have hcut := mkS_tl (tl_cutN t i (i + DL.run isNam (c :: r)))
    rw [List.drop_take, hd, Nat.add_sub_cancel_left] at hcut
    repeat array_get_dec
    rw [hcut]
    refine xr_inTs ?_
    rw [hWL]
    have q' : ∀ w : Str, (if mkS ((c :: r).take (DL.run isNam (c :: r))) ∈ wordL then ("word" : Str) else "name") = w → R (DV.d (tkD ⟨w, i, i + DL.run isNam (c :: r)⟩)) o := fun w hw => by
      rw [← hw]
      have : tokC i c r = ⟨if mkS ((c :: r).take (DL.run isNam (c :: r))) ∈ wordL then "word" else "name", i, i + DL.run isNam (c :: r)⟩ := by
        unfold tokC; rw [if_pos h1]
      rw [← this]; exact q
    repeat array_get_dec
    refine bs_d (fun h2 => ?_) fun h2 => ?_
    · repeat array_get_dec
      exact q' _ (if_pos h2)
    · repeat array_get_dec
      exact q' _ (if_neg h2)
  · have e1 : tokC i c r = if isDig c = true then ⟨"number", i, i + DL.run isDig (c :: r)⟩ else if (c :: r).take 2 = [61, 61] then ⟨"sign", i, i + 2⟩ else ⟨if isSgn c = true then "sign" else "wrong", i, i + 1⟩ := by
      unfold tokC; rw [if_neg (by rw [h1]; decide)]
    rw [e1] at q
    clear e1
    repeat array_get_dec
    rw [hDig]
    refine bs_b (fun h2 => ?_) fun h2 => ?_
    · rw [if_pos h2] at q
      repeat array_get_dec
      refine ⟨t, i, _, isDig, rfl, by omega, by omega, hDig, ?_⟩
      rw [hd]
      repeat array_get_dec
      exact q
    · rw [if_neg (by rw [h2]; decide)] at q
      repeat array_get_dec
      refine xsl_S (by omega) ?_
      have hcut := tl_cutN t i (i + 2)
      rw [List.drop_take, hd, Nat.add_sub_cancel_left] at hcut
      have heq : TL.tl ("==" : Str) = [61, 61] := by decide +kernel
      have hcut2 : cutS t (some (i : Int)) (some ((i : Int) + 2)) = "==" ↔ (c :: r).take 2 = [61, 61] := by
        rw [str_eq_iff, heq, ← hcut]; exact Iff.rfl
      repeat array_get_dec
      refine bs_d (fun h3 => ?_) fun h3 => ?_
      · rw [if_pos (hcut2.mp h3)] at q
        repeat array_get_dec
        exact q
      · rw [if_neg (fun z => h3 (hcut2.mpr z))] at q
        repeat array_get_dec
        rw [hSgn]
        refine bs_b (fun h4 => ?_) fun h4 => ?_
        · rw [if_pos h4] at q
          repeat array_get_dec
          exact q
        · rw [if_neg (by rw [h4]; decide)] at q
          repeat array_get_dec
          exact q
theorem ok_tokens_between (T : Txt K mg) (G_token_at : FnOk P w K mg base CX0 2 T.a_token_at T.fd_token_at ["text", "start"] (spD K (S_token_at K))) : FnOk P w K mg base CX0 3 T.a_tokens_between T.fd_tokens_between ["text", "start", "end"] (spD K (S_tokens_between K)) := by
  refine fnD T.F_tokens_between sc_tokens_between ?len fun cdv A outer s H E hr => ?body
  case len => intro dvs o R X h; first | (obtain ⟨rfl, _⟩ := h; rfl) | (obtain ⟨_, rfl, _⟩ := h; rfl) | (obtain ⟨_, _, rfl, _⟩ := h; rfl) | (obtain ⟨_, _, _, rfl, _⟩ := h; rfl) | (obtain ⟨_, _, _, _, rfl, _⟩ := h; rfl) | (obtain ⟨_, _, _, _, _, rfl, _⟩ := h; rfl) | (obtain ⟨_, _, _, _, _, _, rfl, _⟩ := h; rfl) | (obtain ⟨_, _, _, _, _, _, _, rfl, _⟩ := h; rfl) | (obtain ⟨_, _, _, _, _, _, _, _, rfl, _⟩ := h; rfl) | (obtain ⟨_, _, _, _, _, _, _, _, _, rfl, _⟩ := h; rfl) | (obtain ⟨_, _, _, _, _, _, _, _, _, _, rfl, _⟩ := h; rfl) | (obtain ⟨_, _, _, _, _, _, _, _, _, _, _, rfl, _⟩ := h; rfl) | (obtain ⟨_, _, _, _, _, _, _, _, _, _, _, _, rfl, _⟩ := h; rfl)
  have nd := sc_tokens_between.nd
  have hu := hu_of hr
  refine ⟨_, (pss_cons (ps_set (i := 3) nd rfl (Or.inl rfl) (pe_lst pa_nil)) (pss_cons (ps_set (i := 4) nd rfl (Or.inl rfl) (pv 1)) (pss_cons (ps_while PassesOwn.never (pt_cmpR (DL.op_ltU) (pv 4) (pv 2) (nomark _)) (pss_one (ps_if (PW.pt (pw_or (pt_cmpR (DL.op_eqK (K := K) rfl hr.units) (pe_ix (DL.ix_K (K := K) rfl) (pv 0) (pv 4) (fun _ _ => rfl)) pe_str (nomark _)) (pw_or1 (pt_cmpR (DL.op_eqK (K := K) rfl hr.units) (pe_ix (DL.ix_K (K := K) rfl) (pv 0) (pv 4) (fun _ _ => rfl)) pe_str (nomark _))))) (pss_one (ps_aug (i := 4) nd rfl (Or.inl rfl) pe_int DL.ip_addU)) (pss_one (ps_if (pt_cmpR (DL.op_eqK (K := K) rfl hr.units) (pe_ix (DL.ix_K (K := K) rfl) (pv 0) (pv 4) (fun _ _ => rfl)) pe_str (nomark _)) (pss_cons (ps_set (i := 5) nd rfl (Or.inl rfl) (DL.pe_bmK (K := K) rfl (pe_bm PySem.F.plainAttrs_str PySem.F.slot_str_find PySem.F.type_str_find mt_find3 (pv 0) (pa_cons pe_str (pa_cons (pv 4) pa_nil))))) (pss_one (ps_set (i := 4) nd rfl (Or.inl rfl) (pe_ifExp (pt_cmpR (DL.op_ltU) (pv 5) pe_int (nomark _)) (pv 2) (pv 5))))) (pss_cons (ps_set (i := 6) nd rfl (Or.inl rfl) (pe_call G_token_at (hr.mono (by first | decide | omega)) (by rfl) T.g_token_at T.F_token_at.kp T.b_token_at .nil pass0 (pa_cons (pv 0) (pa_cons (pv 4) pa_nil)))) (pss_cons (ps_expr (DL.pe_bmK (K := K) rfl (pe_bm PySem.F.plainAttrs_list PySem.F.slot_list_append PySem.F.type_list_append mt_append (pv 3) (pa_cons (pv 6) pa_nil)))) (pss_one (ps_set (i := 4) nd rfl (Or.inl rfl) (pe_ix (DL.ix_K (K := K) rfl) (pv 6) pe_int (fun _ _ => rfl))))))))))) (pss_one (ps_ret (pv 3)))))), ?_⟩
  intro dvs o R X h
  have st : ∀ z, dvs = z → startD N_tokens_between.length dvs = startD 7 z := fun z e => by rw [e]; rfl
  obtain ⟨t, s0, e0, rfl, hl, hs0, he, q⟩ := h
  rw [st _ rfl]; clear st; simp only [startD, toSl, List.map_cons, List.map_nil, List.length_cons, List.length_nil, List.cons_append, List.nil_append, List.append_nil, Nat.reduceAdd, Nat.reduceSub, List.reduceReplicate, Nat.zero_add, List.replicate_zero, Nat.sub_self]
  have hs : sizeLine = 16777216 := sizeLine_eq
  have htl := len_tl t
  repeat array_get_dec
  have s32 : TL.tl (" " : Str) = [32] := by decide +kernel
  have s10 : TL.tl ("\n" : Str) = [10] := by decide +kernel
  have s35 : TL.tl ("#" : Str) = [35] := by decide +kernel
  refine xs_while (fun m ρ' o' => Hold (∃ (k : Nat) (acc : List Tk) (x5 x6 : Sl), o = o' ∧ ρ' = [.val (.str t), .val (nI s0), .val (nI e0), .own (.lst (acc.map tkD)), .val (nI k), x5, x6] ∧ m = t.length - k ∧ k ≤ t.length ∧ acc.length ≤ k ∧ acc ++ toksB (TL.tl t) k e0 = toksB (TL.tl t) s0 e0)) (t.length - s0) (hold ⟨s0, [], _, _, rfl, rfl, rfl, hs0, Nat.zero_le _, rfl⟩) ?_
  rintro m _ _ ⟨k, acc, x5, x6, rfl, rfl, rfl, hk, ha, hrn⟩
  repeat array_get_dec
  refine bs_d (fun hlt => ?_) fun hlt => ?_
  · have hlt : k < e0 := by omega
    have hkl : k < (TL.tl t).length := by omega
    have hget := List.getElem?_eq_getElem hkl
    generalize (TL.tl t)[k] = c at hget
    have hat : atI t.cps.toList (k : Int) = some c := atD_of (j := k) rfl hget
    repeat array_get_dec
    refine xr_ixS (by omega) hat ?_
    repeat array_get_dec
    rw [sgn_dec s32]
    refine bs_d (fun h1 => ?_) fun h1 => ?_
    · repeat array_get_dec
      refine xs_augA rfl (xe_int ⟨1, rfl, rfl, ?_⟩)
      exact ⟨t.length - (k + 1), by omega, hold ⟨k + 1, acc, x5, x6, rfl, rfl, rfl, by omega, by omega, by rw [← toksB_gap hget (.inl h1)]; exact hrn⟩⟩
    · repeat array_get_dec
      refine xr_ixS (by omega) hat ?_
      repeat array_get_dec
      rw [sgn_dec s10]
      refine bs_d (fun h2 => ?_) fun h2 => ?_
      · repeat array_get_dec
        refine xs_augA rfl (xe_int ⟨1, rfl, rfl, ?_⟩)
        exact ⟨t.length - (k + 1), by omega, hold ⟨k + 1, acc, x5, x6, rfl, rfl, rfl, by omega, by omega, by rw [← toksB_gap hget (.inr h2)]; exact hrn⟩⟩
      · repeat array_get_dec
        refine xr_ixS (by omega) hat ?_
        repeat array_get_dec
        rw [sgn_dec s35]
        refine bs_d (fun h3 => ?_) fun h3 => ?_
        · subst h3
          repeat array_get_dec
          refine xm_s2i ?_
          rw [find3_run t k (by omega)]
          rw [toksB_comment hget] at hrn
          have hrun : 0 < DL.run (fun c => c != 10) ((TL.tl t).drop k) := by rw [drop_get hget]; exact run_pos (by decide)
          generalize DL.run (fun c => c != 10) ((TL.tl t).drop k) = j at hrn hrun
          by_cases hj : k + j < t.length
          · rw [if_pos hj]
            repeat array_get_dec
            refine bs_d (fun h4 => absurd h4 (by omega)) fun h4 => ?_
            repeat array_get_dec
            exact ⟨t.length - (k + j), by omega, hold ⟨k + j, acc, _, x6, rfl, rfl, rfl, by omega, by omega, hrn⟩⟩
          · rw [if_neg hj]
            repeat array_get_dec
            refine bs_d (fun h4 => ?_) fun h4 => absurd h4 (by omega)
            repeat array_get_dec
            exact ⟨t.length - e0, by omega, hold ⟨e0, acc, _, x6, rfl, rfl, rfl, by omega, by omega, by rw [toksB_end (Nat.le_refl _)]; rw [toksB_end (by omega)] at hrn; exact hrn⟩⟩
        · repeat array_get_dec
          refine ⟨t, k, c, _, rfl, by omega, drop_get hget, ?_⟩
          rw [toksB_tok hget hlt h1 h2 h3] at hrn
          have hb := tokC_b k c ((TL.tl t).drop (k + 1))
          have hta := tokC_a k c ((TL.tl t).drop (k + 1))
          rw [List.length_drop] at hb
          generalize tokC k c ((TL.tl t).drop (k + 1)) = tk at hrn hb hta
          obtain ⟨ts, ta, tb⟩ := tk
          repeat array_get_dec
          refine xm_append (by rw [List.length_map]; omega) rfl ?_
          repeat array_get_dec
          refine xr_ixT (d := nI tb) (atD_of (j := 2) rfl rfl) ?_
          repeat array_get_dec
          exact ⟨t.length - tb, by have := hb.1; have : k < tb := this; omega, hold ⟨tb, acc ++ [⟨ts, ta, tb⟩], x5, _, rfl, by rw [List.map_append]; rfl, rfl, by have := hb.2; have : tb ≤ k + ((TL.tl t).length - (k + 1) + 1) := this; omega, by have := hb.1; have : k < tb := this; rw [List.length_append, List.length_singleton]; omega, by rw [List.append_assoc]; exact hrn⟩⟩
  · rw [toksB_end (by omega), List.append_nil] at hrn
    rw [← hrn] at q
    repeat array_get_dec
    exact q
theorem ok_tokens (T : Txt K mg) (G_tokens_between : FnOk P w K mg base CX0 3 T.a_tokens_between T.fd_tokens_between ["text", "start", "end"] (spD K (S_tokens_between K))) : FnOk P w K mg base CX0 4 T.a_tokens T.fd_tokens ["text"] (spD K (S_tokens K)) := by
  refine fnD T.F_tokens sc_tokens ?len fun cdv A outer s H E hr => ?body
  case len => intro dvs o R X h; first | (obtain ⟨rfl, _⟩ := h; rfl) | (obtain ⟨_, rfl, _⟩ := h; rfl) | (obtain ⟨_, _, rfl, _⟩ := h; rfl) | (obtain ⟨_, _, _, rfl, _⟩ := h; rfl) | (obtain ⟨_, _, _, _, rfl, _⟩ := h; rfl) | (obtain ⟨_, _, _, _, _, rfl, _⟩ := h; rfl) | (obtain ⟨_, _, _, _, _, _, rfl, _⟩ := h; rfl) | (obtain ⟨_, _, _, _, _, _, _, rfl, _⟩ := h; rfl) | (obtain ⟨_, _, _, _, _, _, _, _, rfl, _⟩ := h; rfl) | (obtain ⟨_, _, _, _, _, _, _, _, _, rfl, _⟩ := h; rfl) | (obtain ⟨_, _, _, _, _, _, _, _, _, _, rfl, _⟩ := h; rfl) | (obtain ⟨_, _, _, _, _, _, _, _, _, _, _, rfl, _⟩ := h; rfl) | (obtain ⟨_, _, _, _, _, _, _, _, _, _, _, _, rfl, _⟩ := h; rfl)
  have nd := sc_tokens.nd
  have hu := hu_of hr
  refine ⟨_, (pss_one (ps_ret (pe_call G_tokens_between (hr.mono (by first | decide | omega)) (by rfl) T.g_tokens_between T.F_tokens_between.kp T.b_tokens_between .nil pass0 (pa_cons (pv 0) (pa_cons pe_int (pa_cons (pe_callB (DL.call_lenK (K := K) rfl) (by rfl) T.n_len (by decide +kernel) (pa_cons (pv 0) pa_nil)) pa_nil)))))), ?_⟩
  intro dvs o R X h
  have st : ∀ z, dvs = z → startD N_tokens.length dvs = startD 1 z := fun z e => by rw [e]; rfl
  obtain ⟨t, rfl, hl, q⟩ := h
  rw [st _ rfl]; clear st; simp only [startD, toSl, List.map_cons, List.map_nil, List.length_cons, List.length_nil, List.cons_append, List.nil_append, List.append_nil, Nat.reduceAdd, Nat.reduceSub, List.reduceReplicate, Nat.zero_add, List.replicate_zero, Nat.sub_self]
  have hs : sizeLine = 16777216 := sizeLine_eq
  repeat array_get_dec
  refine xc_lenS (by omega) ?_
  repeat array_get_dec
  refine ⟨t, 0, t.length, rfl, hl, Nat.zero_le _, Nat.le_refl _, ?_⟩
  repeat array_get_dec
  have : toksB (TL.tl t) 0 t.length = toksN (TL.tl t) := by
    unfold toksB toksN
    refine List.filter_eq_self.mpr fun x hx => ?_
    have := scan_a _ _ _ _ x hx
    rw [List.drop_zero, ← len_tl] at this
    simp
    omega
  rw [this]
  exact q
theorem ok_is_name (T : Txt K mg) (G_tokens : FnOk P w K mg base CX0 4 T.a_tokens T.fd_tokens ["text"] (spD K (S_tokens K))) : FnOk P w K mg base CX0 5 T.a_is_name T.fd_is_name ["value"] (spD K (S_is_name K)) := by
  refine fnD T.F_is_name sc_is_name ?len fun cdv A outer s H E hr => ?body
  case len => intro dvs o R X h; first | (obtain ⟨rfl, _⟩ := h; rfl) | (obtain ⟨_, rfl, _⟩ := h; rfl) | (obtain ⟨_, _, rfl, _⟩ := h; rfl) | (obtain ⟨_, _, _, rfl, _⟩ := h; rfl) | (obtain ⟨_, _, _, _, rfl, _⟩ := h; rfl) | (obtain ⟨_, _, _, _, _, rfl, _⟩ := h; rfl) | (obtain ⟨_, _, _, _, _, _, rfl, _⟩ := h; rfl) | (obtain ⟨_, _, _, _, _, _, _, rfl, _⟩ := h; rfl) | (obtain ⟨_, _, _, _, _, _, _, _, rfl, _⟩ := h; rfl) | (obtain ⟨_, _, _, _, _, _, _, _, _, rfl, _⟩ := h; rfl) | (obtain ⟨_, _, _, _, _, _, _, _, _, _, rfl, _⟩ := h; rfl) | (obtain ⟨_, _, _, _, _, _, _, _, _, _, _, rfl, _⟩ := h; rfl) | (obtain ⟨_, _, _, _, _, _, _, _, _, _, _, _, rfl, _⟩ := h; rfl)
  have nd := sc_is_name.nd
  have hu := hu_of hr
  refine ⟨_, (pss_one (ps_ret (pe_cmpR (DL.op_eqK (K := K) rfl hr.units) (pe_call G_tokens (hr.mono (by first | decide | omega)) (by rfl) T.g_tokens T.F_tokens.kp T.b_tokens .nil pass0 (pa_cons (pv 0) pa_nil)) (pe_lst (pa_cons (pe_tup (pa_cons pe_str (pa_cons pe_int (pa_cons (pe_callB (DL.call_lenK (K := K) rfl) (by rfl) T.n_len (by decide +kernel) (pa_cons (pv 0) pa_nil)) pa_nil)))) pa_nil)) (nomark _)))), ?_⟩
  intro dvs o R X h
  have st : ∀ z, dvs = z → startD N_is_name.length dvs = startD 1 z := fun z e => by rw [e]; rfl
  obtain ⟨t, rfl, hl, q⟩ := h
  rw [st _ rfl]; clear st; simp only [startD, toSl, List.map_cons, List.map_nil, List.length_cons, List.length_nil, List.cons_append, List.nil_append, List.append_nil, Nat.reduceAdd, Nat.reduceSub, List.reduceReplicate, Nat.zero_add, List.replicate_zero, Nat.sub_self]
  have hs : sizeLine = 16777216 := sizeLine_eq
  repeat array_get_dec
  refine ⟨t, rfl, hl, ?_⟩
  repeat array_get_dec
  refine xc_lenS (by omega) ?_
  repeat array_get_dec
  refine xr_eqL isl_n isl_n (toks_shp _).shaped (shp_lst (n := 1) (ds := [tkD ⟨"name", 0, t.length⟩]) fun d hd => ?_).shaped ?_
  · have : d = tkD ⟨"name", 0, t.length⟩ := by simpa using hd
    rw [this]
    exact tk_shp (.inr (.inl rfl))
  repeat array_get_dec
  exact q
theorem kp_cls (T : Txt K mg) : clsA K "Keeper" = T.a_Keeper := clsA_of T.i_Keeper
theorem en_cls (T : Txt K mg) : clsA K "Entry" = T.a_Entry := clsA_of T.i_Entry
theorem kpF (T : Txt K mg) : KpF K := by
  have h1 := kp_cls T
  have h2 := en_cls T
  constructor
  all_goals first | rw [h1] | rw [h2]
  · exact T.cl_Keeper
  · exact T.no_Keeper__compute
  · exact T.no_Keeper__inputs
  · exact T.no_Keeper__entries
  · exact T.no_Keeper__revision
  · exact T.no_Keeper__left
  · exact T.no_Keeper__going
  · exact T.no_Keeper__asked
  · exact T.no_Keeper__done
  · exact T.cl_Entry
  · exact T.no_Entry_value
  · exact T.no_Entry_used
  · exact T.no_Entry_checked
  · exact T.no_Entry_changed
theorem ok_Keeper_put (T : Txt K mg)  : FnOk P w K mg base CX0 1 T.a_Keeper_put T.fd_Keeper_put ["self", "key", "value"] (spD K (S_Keeper_put K)) := by
  refine fnD T.F_Keeper_put sc_Keeper_put ?len fun cdv A outer s H E hr => ?body
  case len => intro dvs o R X h; first | (obtain ⟨rfl, _⟩ := h; rfl) | (obtain ⟨_, rfl, _⟩ := h; rfl) | (obtain ⟨_, _, rfl, _⟩ := h; rfl) | (obtain ⟨_, _, _, rfl, _⟩ := h; rfl) | (obtain ⟨_, _, _, _, rfl, _⟩ := h; rfl) | (obtain ⟨_, _, _, _, _, rfl, _⟩ := h; rfl) | (obtain ⟨_, _, _, _, _, _, rfl, _⟩ := h; rfl) | (obtain ⟨_, _, _, _, _, _, _, rfl, _⟩ := h; rfl) | (obtain ⟨_, _, _, _, _, _, _, _, rfl, _⟩ := h; rfl) | (obtain ⟨_, _, _, _, _, _, _, _, _, rfl, _⟩ := h; rfl) | (obtain ⟨_, _, _, _, _, _, _, _, _, _, rfl, _⟩ := h; rfl) | (obtain ⟨_, _, _, _, _, _, _, _, _, _, _, rfl, _⟩ := h; rfl) | (obtain ⟨_, _, _, _, _, _, _, _, _, _, _, _, rfl, _⟩ := h; rfl)
  have nd := sc_Keeper_put.nd
  have hu := hu_of hr
  refine ⟨_, (pss_cons (ps_expr ((DL.pe_bmK (K := K) rfl (pe_bm PySem.F.plainAttrs_dict PySem.F.slot_dict_pop PySem.F.type_dict_pop (L2.DX.mt_popT hu) (DL.pe_fldK (K := K) rfl (pv 0) rfl) (pa_cons (pv 1) (pa_cons pe_non pa_nil)))))) (pss_cons (ps_if (PW.pt (pw_and (pt_cmp (pc_din hu (pv 1) (DL.pe_fldK (K := K) rfl (pv 0) rfl))) (pw_and1 (pt_cmpR (DL.op_eqK (K := K) rfl hr.units) (pe_ix (DL.ix_K (K := K) rfl) (pe_dget hu (DL.pe_fldK (K := K) rfl (pv 0) rfl) (pv 1) (fun _ _ => rfl)) pe_int (fun _ _ => rfl)) (pv 2) (nomark _))))) (pss_one ps_retN) pss_nil) (pss_cons (DL.ps_fldaugK (K := K) rfl (pv 0) pe_int in_add) (pss_one (ps_dput hu (DL.pe_fldK (K := K) rfl (pv 0) rfl) (pv 1) (pe_tup (pa_cons (pv 2) (pa_cons (DL.pe_fldK (K := K) rfl (pv 0) rfl) pa_nil))) rfl))))), ?_⟩
  intro dvs o R X h
  have st : ∀ z, dvs = z → startD N_Keeper_put.length dvs = startD 3 z := fun z e => by rw [e]; rfl
  obtain ⟨a, b, C, L, kn, k, v, rfl, rfl, hk, hl, hs, hsi, q⟩ := h
  rw [st _ rfl]; clear st; simp only [startD, toSl, List.map_cons, List.map_nil, List.length_cons, List.length_nil, List.cons_append, List.nil_append, List.append_nil, Nat.reduceAdd, Nat.reduceSub, List.reduceReplicate, Nat.zero_add, List.replicate_zero, Nat.sub_self]
  have F := kpF T
  refine xs_seqH fun _ hrest => ?_
  refine xs_drop ?_
  have rd : ∃ c3 : KC, c3 = { C with ents := dropA CEn.k C.ents k } := ⟨_, rfl⟩
  obtain ⟨C1, hC1⟩ := rd
  have hi1 : C1.ins = C.ins := by rw [hC1]
  have he1 : C1.er = { C.er with ents := dropA PEn.k C.er.ents k } := by
    rw [hC1]
    show KS.mk _ ((dropA CEn.k C.ents k).map CEn.er) _ _ _ _ _ = KS.mk _ (dropA PEn.k (C.ents.map CEn.er) k) _ _ _ _ _
    rw [dropA_map (key := CEn.k) (key' := PEn.k) (h := CEn.er) (fun _ => rfl)]
    rfl
  have hf1 : C1.f = C.f := by rw [hC1]
  unfold putP at q
  rw [er_ins] at q
  have main := hrest [.raw (.ref a), .raw (.ref b), .val v] (kpO K a C1 L kn)
  have main2 := main (by
    clear main hrest
    refine xs_seqH fun _ hrest => ?_
    have cont := hrest [.raw (.ref a), .raw (.ref b), .val v] (kpO K a C1 L kn)
    have cont2 : (∀ D : KC, D.er = { C.er with ents := dropA PEn.k C.er.ents k, rev := C.er.rev + 1, ins := putA PIn.k C.er.ins ⟨k, v, C.er.rev + 1⟩ } → D.f = C.f → R (.d .none) (kpO K a D L kn)) → _ := fun q => cont (by
      clear cont hrest
      repeat array_get_dec
      refine xs_cfAug (m := C1.rev) (op := fun x y => x + y) (fun m n H Q q => ⟨_, _, rfl, rfl, q⟩) F.c F.rev rfl m_a (at_lk C1).2.2.2.1 (by with_unfolding_all exact Nat.le_of_ble_eq_true rfl) ?_
      repeat array_get_dec
      refine ⟨_, _, (by rw [(at_put C1).1]; exact cp_rev _), ?_⟩
      repeat array_get_dec
      refine xs_cput (p := C1.aI) (b := b) ?_
      repeat array_get_dec
      refine kr_rev F.c F.rev rfl ?_
      repeat array_get_dec
      refine kr_ins F.c F.ins rfl ?_
      refine ⟨rfl, xe_vr rfl ⟨rfl, _, _, _, k, rfl, m_I, kn_at hk, ?_, fun u hu => ⟨_, _, cp_ins ⟨k, u, v, C1.rev + 1⟩, ?_⟩⟩⟩
      · show (C1.ins.map _).length < _
        rw [List.length_map, hi1]
        exact Nat.lt_trans hl lim_size
      subst hC1
      refine q _ ?_ rfl
      show KS.mk ((putA CIn.k C.ins ⟨k, u, v, C.rev + 1⟩).map CIn.er) ((dropA CEn.k C.ents k).map CEn.er) _ _ _ _ _ = KS.mk (putA PIn.k (C.ins.map CIn.er) (CIn.er ⟨k, u, v, C.rev + 1⟩)) (dropA PEn.k (C.ents.map CEn.er) k) _ _ _ _ _
      rw [putA_map (key := CIn.k) (key' := PIn.k) (h := CIn.er) (fun _ => rfl), dropA_map (key := CEn.k) (key' := PEn.k) (h := CEn.er) (fun _ => rfl)]
      rfl)
    clear cont hrest
    repeat array_get_dec
    refine ki_in F.c F.ins rfl rfl hk ?_
    cases hx : getA CIn.k C1.ins k with
    | none =>
      rw [hi1] at hx
      rw [hx] at q
      rw [Option.isSome_none]
      repeat array_get_dec
      refine cont2 fun D h1 h2 => q D ?_ h2
      rw [if_neg (by exact Bool.false_ne_true)]
      exact h1
    | some x =>
      have hx2 := hx
      rw [hi1] at hx2
      rw [hx2] at q
      have q : ∀ D : KC, D.er = (if PyData.eqv x.d v = true then { C.er with ents := dropA PEn.k C.er.ents k } else { C.er with ents := dropA PEn.k C.er.ents k, rev := C.er.rev + 1, ins := putA PIn.k C.er.ins ⟨k, v, C.er.rev + 1⟩ }) → D.f = C.f → R (.d .none) (kpO K a D L kn) := q
      have hsx := hsi x (getA_mem hx2).1
      rw [Option.isSome_some]
      repeat array_get_dec
      refine ki_get F.c F.ins rfl rfl hk hx ?_
      repeat array_get_dec
      refine xr_ixT rfl ?_
      repeat array_get_dec
      refine xr_eqD hsx hs ?_
      refine ⟨_, rfl, bs_b (fun c => ?_) fun c => ?_⟩
      · repeat array_get_dec
        refine q C1 ?_ hf1
        rw [if_pos (show PyData.eqv x.d v = true from c)]
        exact he1
      · repeat array_get_dec
        refine cont2 fun D h1 h2 => q D ?_ h2
        rw [if_neg (show ¬ PyData.eqv x.d v = true from fun z => Bool.false_ne_true (c.symm.trans z))]
        exact h1)
  clear main hrest
  refine xe_cpop2 (b := b) (p := C.aE) ?_
  refine kr_ent F.c F.ent rfl ⟨rfl, ⟨_, _, _, rfl, m_E⟩, ?_⟩
  repeat array_get_dec
  refine ⟨_, _, _, k, rfl, m_E, kn_at hk, fun hv => ?_, fun z hv => ⟨_, _, cp_entD k, ?_⟩⟩
  · have hn : getA CEn.k C.ents k = none := by
      unfold KC.entK at hv
      rw [valV_A (key := CEn.k) (val := fun x => V.ref x.e)] at hv
      exact Option.map_eq_none_iff.mp hv
    have e2 : C1 = C := by rw [hC1, dropA_none hn]
    rw [e2] at main2
    exact main2
  · rw [hC1] at main2
    exact main2
theorem ok_Keeper___init__ (T : Txt K mg)  : FnOk P w K mg base CX0 1 T.a_Keeper___init__ T.fd_Keeper___init__ ["self", "compute"] (spD K (S_Keeper___init__ K)) := by
  refine fnD T.F_Keeper___init__ sc_Keeper___init__ ?len fun cdv A outer s H E hr => ?body
  case len => intro dvs o R X h; first | (obtain ⟨rfl, _⟩ := h; rfl) | (obtain ⟨_, rfl, _⟩ := h; rfl) | (obtain ⟨_, _, rfl, _⟩ := h; rfl) | (obtain ⟨_, _, _, rfl, _⟩ := h; rfl) | (obtain ⟨_, _, _, _, rfl, _⟩ := h; rfl) | (obtain ⟨_, _, _, _, _, rfl, _⟩ := h; rfl) | (obtain ⟨_, _, _, _, _, _, rfl, _⟩ := h; rfl) | (obtain ⟨_, _, _, _, _, _, _, rfl, _⟩ := h; rfl) | (obtain ⟨_, _, _, _, _, _, _, _, rfl, _⟩ := h; rfl) | (obtain ⟨_, _, _, _, _, _, _, _, _, rfl, _⟩ := h; rfl) | (obtain ⟨_, _, _, _, _, _, _, _, _, _, rfl, _⟩ := h; rfl) | (obtain ⟨_, _, _, _, _, _, _, _, _, _, _, rfl, _⟩ := h; rfl) | (obtain ⟨_, _, _, _, _, _, _, _, _, _, _, _, rfl, _⟩ := h; rfl)
  have nd := sc_Keeper___init__.nd
  have hu := hu_of hr
  refine ⟨_, (pss_cons (DL.ps_fldK (K := K) rfl (pv 0) (pv 1) rfl) (pss_cons (DL.ps_fldK (K := K) rfl (pv 0) (pe_dnewT) rfl) (pss_cons (DL.ps_fldK (K := K) rfl (pv 0) (pe_dnewT) rfl) (pss_cons (DL.ps_fldK (K := K) rfl (pv 0) pe_int rfl) (pss_cons (DL.ps_fldK (K := K) rfl (pv 0) pe_non rfl) (pss_cons (DL.ps_fldK (K := K) rfl (pv 0) (pe_dnewT) rfl) (pss_cons (DL.ps_fldK (K := K) rfl (pv 0) (pe_lst pa_nil) rfl) (pss_one (DL.ps_fldK (K := K) rfl (pv 0) (pe_lst pa_nil) rfl))))))))), ?_⟩
  intro dvs o R X h
  have st : ∀ z, dvs = z → startD N_Keeper___init__.length dvs = startD 2 z := fun z e => by rw [e]; rfl
  obtain ⟨a, dx, f, rfl, rfl, q⟩ := h
  rw [st _ rfl]; clear st; simp only [startD, toSl, List.map_cons, List.map_nil, List.length_cons, List.length_nil, List.cons_append, List.nil_append, List.append_nil, Nat.reduceAdd, Nat.reduceSub, List.reduceReplicate, Nat.zero_add, List.replicate_zero, Nat.sub_self]
  have F := kpF T
  refine xs_obj le_insC ?_
  refine xs_seqH fun _ hrest => ?_
  refine xs_cf F.c F.comp (xe_vr rfl (show HandR _ _ _ _ from ⟨rfl, _, _, _, _, rfl, .head _, (by with_unfolding_all exact Nat.le_of_ble_eq_true rfl), fun u1 hu1 => ⟨_, _, cp_hd, ?_⟩⟩))
  have hu1 : u1 = .ref f := hu1
  subst hu1
  refine hrest _ _ ?_
  clear hrest
  refine xs_seqH fun _ hrest => ?_
  refine xs_cf F.c F.ins (xe_cnewT fun p2 => ⟨_, _, cn_end trivial, (show HandR _ _ _ _ from ⟨rfl, _, _, _, _, rfl, .head _, (by with_unfolding_all exact Nat.le_of_ble_eq_true rfl), fun u2 hu2 => ⟨_, _, cp_hd, ?_⟩⟩)⟩)
  have hu2 : u2 = .ref p2 := hu2
  subst hu2
  refine hrest _ _ ?_
  clear hrest
  refine xs_seqH fun _ hrest => ?_
  refine xs_cf F.c F.ent (xe_cnewT fun p3 => ⟨_, _, cn_end trivial, (show HandR _ _ _ _ from ⟨rfl, _, _, _, _, rfl, .head _, (by with_unfolding_all exact Nat.le_of_ble_eq_true rfl), fun u3 hu3 => ⟨_, _, cp_hd, ?_⟩⟩)⟩)
  have hu3 : u3 = .ref p3 := hu3
  subst hu3
  refine hrest _ _ ?_
  clear hrest
  refine xs_seqH fun _ hrest => ?_
  refine xs_cf F.c F.rev (xe_int (show HandR _ _ _ _ from ⟨rfl, _, _, _, _, rfl, .head _, (by with_unfolding_all exact Nat.le_of_ble_eq_true rfl), fun u4 hu4 => ⟨_, _, cp_hd, ?_⟩⟩))
  have hu4 : u4 = .int 0 := hu4
  subst hu4
  refine hrest _ _ ?_
  clear hrest
  refine xs_seqH fun _ hrest => ?_
  refine xs_cf F.c F.left (xe_non (show HandR _ _ _ _ from ⟨rfl, _, _, _, _, rfl, .head _, (by with_unfolding_all exact Nat.le_of_ble_eq_true rfl), fun u5 hu5 => ⟨_, _, cp_hd, ?_⟩⟩))
  have hu5 : u5 = .non := hu5
  subst hu5
  refine hrest _ _ ?_
  clear hrest
  refine xs_seqH fun _ hrest => ?_
  refine xs_cf F.c F.going (xe_cnewT fun p6 => ⟨_, _, cn_end trivial, (show HandR _ _ _ _ from ⟨rfl, _, _, _, _, rfl, .head _, (by with_unfolding_all exact Nat.le_of_ble_eq_true rfl), fun u6 hu6 => ⟨_, _, cp_hd, ?_⟩⟩)⟩)
  have hu6 : u6 = .ref p6 := hu6
  subst hu6
  refine hrest _ _ ?_
  clear hrest
  refine xs_seqH fun _ hrest => ?_
  refine xs_cf F.c F.asked (xe_cnewL fun p7 => ⟨_, _, cn_end trivial, (show HandR _ _ _ _ from ⟨rfl, _, _, _, _, rfl, .head _, (by with_unfolding_all exact Nat.le_of_ble_eq_true rfl), fun u7 hu7 => ⟨_, _, cp_hd, ?_⟩⟩)⟩)
  have hu7 : u7 = .ref p7 := hu7
  subst hu7
  refine hrest _ _ ?_
  clear hrest
  refine xs_cf F.c F.done (xe_cnewL fun p8 => ⟨_, _, cn_end trivial, (show HandR _ _ _ _ from ⟨rfl, _, _, _, _, rfl, .head _, (by with_unfolding_all exact Nat.le_of_ble_eq_true rfl), fun u8 hu8 => ?_⟩)⟩)
  have hu8 : u8 = .ref p8 := hu8
  subst hu8
  have rd : ∃ C : KC, C = ⟨dx, p2, p3, p6, p7, p8, .ref f, [], [], [], [], [], 0, none⟩ := ⟨_, rfl⟩
  obtain ⟨C, hC⟩ := rd
  refine ⟨C.cells (clsA K "Keeper") (clsA K "Entry") a [], C.Abs K [], ⟨?_, fun _ _ q hq => ?_, fun _ _ h => ?_, trivial, fun _ => abs_mono, fun G _ _ => ?_⟩, q C (by rw [hC]; rfl) (by rw [hC])⟩
  · rw [hC]
    exact .head _
  · rw [hC] at hq
    exact (List.mem_cons.mp hq).imp id fun h => .tail _ h
  · rw [hC]
    exact h
  · rw [hC]
    exact ⟨fun _ h => (nomatch h), fun _ h => (nomatch h), fun _ h => (nomatch h), fun _ h => (nomatch h), fun _ h => (nomatch h), List.nodup_nil⟩
theorem ok_Keeper_computed (T : Txt K mg)  : FnOk P w K mg base CX0 1 T.a_Keeper_computed T.fd_Keeper_computed ["self"] (spD K (S_Keeper_computed K)) := by
  refine fnD T.F_Keeper_computed sc_Keeper_computed ?len fun cdv A outer s H E hr => ?body
  case len => intro dvs o R X h; first | (obtain ⟨rfl, _⟩ := h; rfl) | (obtain ⟨_, rfl, _⟩ := h; rfl) | (obtain ⟨_, _, rfl, _⟩ := h; rfl) | (obtain ⟨_, _, _, rfl, _⟩ := h; rfl) | (obtain ⟨_, _, _, _, rfl, _⟩ := h; rfl) | (obtain ⟨_, _, _, _, _, rfl, _⟩ := h; rfl) | (obtain ⟨_, _, _, _, _, _, rfl, _⟩ := h; rfl) | (obtain ⟨_, _, _, _, _, _, _, rfl, _⟩ := h; rfl) | (obtain ⟨_, _, _, _, _, _, _, _, rfl, _⟩ := h; rfl) | (obtain ⟨_, _, _, _, _, _, _, _, _, rfl, _⟩ := h; rfl) | (obtain ⟨_, _, _, _, _, _, _, _, _, _, rfl, _⟩ := h; rfl) | (obtain ⟨_, _, _, _, _, _, _, _, _, _, _, rfl, _⟩ := h; rfl) | (obtain ⟨_, _, _, _, _, _, _, _, _, _, _, _, rfl, _⟩ := h; rfl)
  have nd := sc_Keeper_computed.nd
  have hu := hu_of hr
  refine ⟨_, (pss_cons (ps_set (i := 1) nd rfl (Or.inl rfl) (DL.pe_fldK (K := K) rfl (pv 0) rfl)) (pss_cons (DL.ps_fldK (K := K) rfl (pv 0) (pe_lst pa_nil) rfl) (pss_one (ps_ret (pv 1))))), ?_⟩
  intro dvs o R X h
  have st : ∀ z, dvs = z → startD N_Keeper_computed.length dvs = startD 2 z := fun z e => by rw [e]; rfl
  obtain ⟨a, C, L, kn, rfl, rfl, q⟩ := h
  rw [st _ rfl]; clear st; simp only [startD, toSl, List.map_cons, List.map_nil, List.length_cons, List.length_nil, List.cons_append, List.nil_append, List.append_nil, Nat.reduceAdd, Nat.reduceSub, List.reduceReplicate, Nat.zero_add, List.replicate_zero, Nat.sub_self]
  have F := kpF T
  repeat array_get_dec
  refine kr_done F.c F.done rfl ?_
  refine ⟨rfl, asr_r (hrest _ _ ?_)⟩
  clear hrest
  refine xs_seqH fun _ hrest => ?_
  refine xs_cf F.c F.done (xe_cnewL fun p => ⟨_, _, cn_L trivial abs_mono fun G g _ => g, (show HandR _ _ _ _ from ⟨rfl, _, _, _, _, rfl, m_a, (by with_unfolding_all exact Nat.le_of_ble_eq_true rfl), fun u hu => ?_⟩)⟩)
  have hu : u = .ref p := hu
  subst hu
  refine ⟨_, _, (by rw [(at_put C).2.2.2.2.1]; exact cp_aD), ?_⟩
  repeat array_get_dec
  exact q p
theorem sv_cls (T : Txt K mg) : clsA K "Server" = T.a_Server := clsA_of T.i_Server
theorem svF (T : Txt K mg) : SvF K := by
  have h1 := sv_cls T
  constructor
  all_goals rw [h1]
  · exact T.cl_Server
  · exact T.no_Server__texts
  · exact T.no_Server__keeper
  · exact T.no_Server__done
  · exact T.no_Server__undone
theorem ok_Server_modules (T : Txt K mg)  : FnOk P w K mg base CX0 1 T.a_Server_modules T.fd_Server_modules ["self"] (spD K (S_Server_modules K)) := by
  refine fnD T.F_Server_modules sc_Server_modules ?len fun cdv A outer s H E hr => ?body
  case len => intro dvs o R X h; first | (obtain ⟨rfl, _⟩ := h; rfl) | (obtain ⟨_, rfl, _⟩ := h; rfl) | (obtain ⟨_, _, rfl, _⟩ := h; rfl) | (obtain ⟨_, _, _, rfl, _⟩ := h; rfl) | (obtain ⟨_, _, _, _, rfl, _⟩ := h; rfl) | (obtain ⟨_, _, _, _, _, rfl, _⟩ := h; rfl) | (obtain ⟨_, _, _, _, _, _, rfl, _⟩ := h; rfl) | (obtain ⟨_, _, _, _, _, _, _, rfl, _⟩ := h; rfl) | (obtain ⟨_, _, _, _, _, _, _, _, rfl, _⟩ := h; rfl) | (obtain ⟨_, _, _, _, _, _, _, _, _, rfl, _⟩ := h; rfl) | (obtain ⟨_, _, _, _, _, _, _, _, _, _, rfl, _⟩ := h; rfl) | (obtain ⟨_, _, _, _, _, _, _, _, _, _, _, rfl, _⟩ := h; rfl) | (obtain ⟨_, _, _, _, _, _, _, _, _, _, _, _, rfl, _⟩ := h; rfl)
  have nd := sc_Server_modules.nd
  have hu := hu_of hr
  refine ⟨_, (pss_one (ps_ret (pe_callB (DL.call_sortDc rfl) (by rfl) T.n_sorted (by decide +kernel) (pa_cons (DL.pe_fldK (K := K) rfl (pv 0) rfl) pa_nil)))), ?_⟩
  intro dvs o R X h
  have st : ∀ z, dvs = z → startD N_Server_modules.length dvs = startD 1 z := fun z e => by rw [e]; rfl
  obtain ⟨sv, C, M, dn, un, rfl, rfl, hl, q⟩ := h
  rw [st _ rfl]; clear st; simp only [startD, toSl, List.map_cons, List.map_nil, List.length_cons, List.length_nil, List.cons_append, List.nil_append, List.append_nil, Nat.reduceAdd, Nat.reduceSub, List.reduceReplicate, Nat.zero_add, List.replicate_zero, Nat.sub_self]
  have F := svF T
  repeat array_get_dec
  refine xe_gf F.c F.t (xe_vr rfl ⟨rfl, sv_at, (sc_look C).1, .any fun _ => .inl rfl, ?_⟩)
  repeat array_get_dec
  refine xc_gsort sv_atT (txK_keys C.tx) (by rw [List.length_map]; exact hl) fun ys h1 h2 => ?_
  exact q ys h1 h2
theorem ok_Server_program (T : Txt K mg)  : FnOk P w K mg base CX0 1 T.a_Server_program T.fd_Server_program ["self"] (spD K (S_Server_program K)) := by
  refine fnD T.F_Server_program sc_Server_program ?len fun cdv A outer s H E hr => ?body
  case len => intro dvs o R X h; first | (obtain ⟨rfl, _⟩ := h; rfl) | (obtain ⟨_, rfl, _⟩ := h; rfl) | (obtain ⟨_, _, rfl, _⟩ := h; rfl) | (obtain ⟨_, _, _, rfl, _⟩ := h; rfl) | (obtain ⟨_, _, _, _, rfl, _⟩ := h; rfl) | (obtain ⟨_, _, _, _, _, rfl, _⟩ := h; rfl) | (obtain ⟨_, _, _, _, _, _, rfl, _⟩ := h; rfl) | (obtain ⟨_, _, _, _, _, _, _, rfl, _⟩ := h; rfl) | (obtain ⟨_, _, _, _, _, _, _, _, rfl, _⟩ := h; rfl) | (obtain ⟨_, _, _, _, _, _, _, _, _, rfl, _⟩ := h; rfl) | (obtain ⟨_, _, _, _, _, _, _, _, _, _, rfl, _⟩ := h; rfl) | (obtain ⟨_, _, _, _, _, _, _, _, _, _, _, rfl, _⟩ := h; rfl) | (obtain ⟨_, _, _, _, _, _, _, _, _, _, _, _, rfl, _⟩ := h; rfl)
  have nd := sc_Server_program.nd
  have hu := hu_of hr
  refine ⟨_, (pss_one (ps_ret (DL.pe_frz (pe_callTy (DL.call_dictDc) (by rfl) T.n_dict (by decide +kernel) (pa_cons (DL.pe_fldK (K := K) rfl (pv 0) rfl) pa_nil))))), ?_⟩
  intro dvs o R X h
  have st : ∀ z, dvs = z → startD N_Server_program.length dvs = startD 1 z := fun z e => by rw [e]; rfl
  obtain ⟨sv, n, tx, dn, un, rfl, ⟨_, _, kp, ko, C, M, rfl, hk, hK, rfl, _⟩, q⟩ := h
  rw [st _ rfl]; clear st; simp only [startD, toSl, List.map_cons, List.map_nil, List.length_cons, List.length_nil, List.cons_append, List.nil_append, List.append_nil, Nat.reduceAdd, Nat.reduceSub, List.reduceReplicate, Nat.zero_add, List.replicate_zero, Nat.sub_self]
  have F := svF T
  repeat array_get_dec
  refine xe_frz (xe_cb (xa_cons ?_))
  refine xe_gf F.c F.t (xe_vr rfl ⟨rfl, sv_at.r, (sc_look C).1, .any fun _ => .inl rfl, ?_⟩)
  repeat array_get_dec
  refine xc_gdict sv_atT.r (.any fun _ => tx_kvr _) ⟨_, rfl, ?_⟩
  exact q
theorem ok_Server_need_file (T : Txt K mg)  : FnOk P w K mg base (L2.CX P w) 1 T.a_Server_need_file T.fd_Server_need_file ["self", "module"] (spD K (S_Server_need_file K)) := by
  refine fnDX T.F_Server_need_file sc_Server_need_file ?len fun cdv A outer s H E hr => ?body
  case len => intro dvs o R X h; first | (obtain ⟨rfl, _⟩ := h; rfl) | (obtain ⟨_, rfl, _⟩ := h; rfl) | (obtain ⟨_, _, rfl, _⟩ := h; rfl) | (obtain ⟨_, _, _, rfl, _⟩ := h; rfl) | (obtain ⟨_, _, _, _, rfl, _⟩ := h; rfl) | (obtain ⟨_, _, _, _, _, rfl, _⟩ := h; rfl) | (obtain ⟨_, _, _, _, _, _, rfl, _⟩ := h; rfl) | (obtain ⟨_, _, _, _, _, _, _, rfl, _⟩ := h; rfl) | (obtain ⟨_, _, _, _, _, _, _, _, rfl, _⟩ := h; rfl) | (obtain ⟨_, _, _, _, _, _, _, _, _, rfl, _⟩ := h; rfl) | (obtain ⟨_, _, _, _, _, _, _, _, _, _, rfl, _⟩ := h; rfl) | (obtain ⟨_, _, _, _, _, _, _, _, _, _, _, rfl, _⟩ := h; rfl) | (obtain ⟨_, _, _, _, _, _, _, _, _, _, _, _, rfl, _⟩ := h; rfl)
  have nd := sc_Server_need_file.nd
  have hu := hu_of hr
  refine ⟨_, (pss_one (ps_if (pt_cmp (pc_dnotin hu (pv 1) (DL.pe_fldK (K := K) rfl (pv 0) rfl))) (pss_one (DL.ps_raiseC rfl (takes_of rfl rfl rfl rfl) (pmk_own PySem.F.excBase_ValueError T.x_UnknownFile T.g_UnknownFile T.k_UnknownFile (raises_own T.b_UnknownFile T.t_UnknownFile) (by rfl)))) pss_nil)), ?_⟩
  intro dvs o R X h
  have st : ∀ z, dvs = z → startD N_Server_need_file.length dvs = startD 2 z := fun z e => by rw [e]; rfl
  obtain ⟨sv, n, tx, dn, un, m, rfl, ⟨_, _, kp, ko, C, M, rfl, hk, hK, rfl, _⟩, q1, q2⟩ := h
  rw [st _ rfl]; clear st; simp only [startD, toSl, List.map_cons, List.map_nil, List.length_cons, List.length_nil, List.cons_append, List.nil_append, List.append_nil, Nat.reduceAdd, Nat.reduceSub, List.reduceReplicate, Nat.zero_add, List.replicate_zero, Nat.sub_self]
  have F := svF T
  repeat array_get_dec
  refine xe_gnotin (xe_vd rfl ⟨.inr m, rfl, xe_gf F.c F.t (xe_vr rfl ⟨rfl, sv_at.r, (sc_look C).1, .any fun _ => .inl rfl, rfl, _, sv_atT.r, ?_⟩)⟩)
  rw [txK_val, Option.isSome_map]
  refine ⟨_, rfl, fun h => hthen _ _ ?_, fun h => helse _ _ ?_⟩
  · exact xs_raiseC (q2 (by simpa using h) _ ⟨T.i_UnknownFile, rfl⟩)
  · repeat array_get_dec
    exact q1 (by simpa using h)
theorem ok_Server_forget_steps (T : Txt K mg)  : FnOk P w K mg base CX0 1 T.a_Server_forget_steps T.fd_Server_forget_steps ["self"] (spD K (S_Server_forget_steps K)) := by
  refine fnD T.F_Server_forget_steps sc_Server_forget_steps ?len fun cdv A outer s H E hr => ?body
  case len => intro dvs o R X h; first | (obtain ⟨rfl, _⟩ := h; rfl) | (obtain ⟨_, rfl, _⟩ := h; rfl) | (obtain ⟨_, _, rfl, _⟩ := h; rfl) | (obtain ⟨_, _, _, rfl, _⟩ := h; rfl) | (obtain ⟨_, _, _, _, rfl, _⟩ := h; rfl) | (obtain ⟨_, _, _, _, _, rfl, _⟩ := h; rfl) | (obtain ⟨_, _, _, _, _, _, rfl, _⟩ := h; rfl) | (obtain ⟨_, _, _, _, _, _, _, rfl, _⟩ := h; rfl) | (obtain ⟨_, _, _, _, _, _, _, _, rfl, _⟩ := h; rfl) | (obtain ⟨_, _, _, _, _, _, _, _, _, rfl, _⟩ := h; rfl) | (obtain ⟨_, _, _, _, _, _, _, _, _, _, rfl, _⟩ := h; rfl) | (obtain ⟨_, _, _, _, _, _, _, _, _, _, _, rfl, _⟩ := h; rfl) | (obtain ⟨_, _, _, _, _, _, _, _, _, _, _, _, rfl, _⟩ := h; rfl)
  have nd := sc_Server_forget_steps.nd
  have hu := hu_of hr
  refine ⟨_, (pss_cons (DL.ps_fldK (K := K) rfl (pv 0) (pe_lst pa_nil) rfl) (pss_one (DL.ps_fldK (K := K) rfl (pv 0) (pe_lst pa_nil) rfl))), ?_⟩
  intro dvs o R X h
  have st : ∀ z, dvs = z → startD N_Server_forget_steps.length dvs = startD 1 z := fun z e => by rw [e]; rfl
  obtain ⟨sv, n, tx, dn, un, rfl, ⟨_, _, kp, ko, C, M, rfl, hk, hK, rfl, _⟩, q⟩ := h
  rw [st _ rfl]; clear st; simp only [startD, toSl, List.map_cons, List.map_nil, List.length_cons, List.length_nil, List.cons_append, List.nil_append, List.append_nil, Nat.reduceAdd, Nat.reduceSub, List.reduceReplicate, Nat.zero_add, List.replicate_zero, Nat.sub_self]
  have F := svF T
  refine xs_seqH fun _ hrest => ?_
  refine xs_gf F.c F.d (xe_gnewL fun p => (show HandR _ _ _ _ from ⟨rfl, _, _, sv_at.r.r, (by with_unfolding_all exact Nat.le_of_ble_eq_true rfl), fun u hu => ?_⟩))
  have hu : u = .ref p := hu
  subst hu
  rw [(sc_put C p).1]
  refine ⟨_, (sv_newD.r).pre and_swap2, hrest _ _ ?_⟩
  clear hrest
  have rD : ∃ C2 : SC, C2 = { C with aD := p, dn := [] } := ⟨_, rfl⟩
  obtain ⟨C2, hC2⟩ := rD
  have e1 : C2.tx = C.tx := by rw [hC2]
  have e2 : C2.aK = C.aK := by rw [hC2]
  rw [← hC2]
  generalize ((C.aD, HO.lst C.dn) :: M) = M2
  refine xs_gf F.c F.u (xe_gnewL fun p => (show HandR _ _ _ _ from ⟨rfl, _, _, sv_at.r.r, (by with_unfolding_all exact Nat.le_of_ble_eq_true rfl), fun u hu => ?_⟩))
  have hu : u = .ref p := hu
  subst hu
  rw [(sc_put C2 p).2]
  exact ⟨_, (sv_newU.r).pre and_swap2, q _ ⟨_, _, kp, _, _, _, rfl, hk, e2.trans hK, e1, rfl, rfl, by rw [hC2]; rfl, rfl⟩⟩
theorem ok_Server_set_text (T : Txt K mg) (G_Keeper_put : FnOk P w K mg base CX0 1 T.a_Keeper_put T.fd_Keeper_put ["self", "key", "value"] (spD K (S_Keeper_put K))) : FnOk P w K mg base CX0 2 T.a_Server_set_text T.fd_Server_set_text ["self", "module", "text"] (spD K (S_Server_set_text K)) := by
  refine fnD T.F_Server_set_text sc_Server_set_text ?len fun cdv A outer s H E hr => ?body
  case len => intro dvs o R X h; first | (obtain ⟨rfl, _⟩ := h; rfl) | (obtain ⟨_, rfl, _⟩ := h; rfl) | (obtain ⟨_, _, rfl, _⟩ := h; rfl) | (obtain ⟨_, _, _, rfl, _⟩ := h; rfl) | (obtain ⟨_, _, _, _, rfl, _⟩ := h; rfl) | (obtain ⟨_, _, _, _, _, rfl, _⟩ := h; rfl) | (obtain ⟨_, _, _, _, _, _, rfl, _⟩ := h; rfl) | (obtain ⟨_, _, _, _, _, _, _, rfl, _⟩ := h; rfl) | (obtain ⟨_, _, _, _, _, _, _, _, rfl, _⟩ := h; rfl) | (obtain ⟨_, _, _, _, _, _, _, _, _, rfl, _⟩ := h; rfl) | (obtain ⟨_, _, _, _, _, _, _, _, _, _, rfl, _⟩ := h; rfl) | (obtain ⟨_, _, _, _, _, _, _, _, _, _, _, rfl, _⟩ := h; rfl) | (obtain ⟨_, _, _, _, _, _, _, _, _, _, _, _, rfl, _⟩ := h; rfl)
  have nd := sc_Server_set_text.nd
  have hu := hu_of hr
  refine ⟨_, (pss_cons (ps_dput hu (DL.pe_fldK (K := K) rfl (pv 0) rfl) (pv 1) (pv 2) rfl) (pss_one (ps_expr (pe_meth (DL.pe_fldK (K := K) rfl (pv 0) rfl) T.cl_Keeper T.m_Keeper_put G_Keeper_put (hr.mono (by first | decide | omega)) T.b_Keeper_put .nil pass0 (pa_cons (pe_tup (pa_cons pe_str (pa_cons (pv 1) pa_nil))) (pa_cons (pv 2) pa_nil)))))), ?_⟩
  intro dvs o R X h
  have st : ∀ z, dvs = z → startD N_Server_set_text.length dvs = startD 3 z := fun z e => by rw [e]; rfl
  obtain ⟨sv, aD, aU, n, tx, dn, un, m, t, rfl, ⟨kp, ko, C, M, rfl, ⟨D, L, kn, rfl, hn, hs⟩, hK, rfl, hD0, hU0, hdl, hul⟩, hl, h6, ht, q⟩ := h
  rw [st _ rfl]; clear st; simp only [startD, toSl, List.map_cons, List.map_nil, List.length_cons, List.length_nil, List.cons_append, List.nil_append, List.append_nil, Nat.reduceAdd, Nat.reduceSub, List.reduceReplicate, Nat.zero_add, List.replicate_zero, Nat.sub_self]
  have hz : sizeLine = 16777216 := sizeLine_eq
  have F := svF T
  have F2 := kpF T
  refine xs_seqH fun _ hrest => ?_
  refine xs_gput (xe_vd rfl (show HandR _ _ _ _ from xe_gf F.c F.t (xe_vr rfl ⟨rfl, sv_at.r, (sc_look C).1, .any fun _ => .inl rfl, rfl, xe_vd rfl ⟨.inr m, _, rfl, sv_atT.r, by rw [txK_len, hz]; omega, fun u hu => ?_⟩⟩)))
  have hu : u = .str t := hu
  subst hu
  rw [txK_put]
  refine ⟨_, sv_putT.r, hrest _ _ ?_⟩
  clear hrest
  refine xs_drop ?_
  refine xe_methP (xe_gf F.c F.k (xe_vr rfl ⟨rfl, sv_at.r, (sc_look _).2.1, .any fun _ => .inl rfl, rfl, ⟨_, _, by rw [← kp_cls T]; exact (at_cell (by rw [← hK]; exact m_a)).l, (at_meth D).2.2.2.2.2⟩, ?_⟩))
  refine xaf_cons (xf_tupKpF ?_)
  repeat array_get_dec
  refine ⟨_, _, _, _, _, _, kText m, _, rfl, rfl, (show 2 ≤ 100 by decide), fun b => hr_r ?_⟩
  repeat array_get_dec
  refine ⟨_, _, .refl, ?_⟩
  refine ⟨kp, b, D, L, _, kText m, .str t, by rw [← hK], rfl, .head _, ?_, str_shaped ht.2, hs, fun D' hD hf => ⟨_, .refl, q _ ⟨kp, _, _, M, rfl, ⟨D', L, _, rfl, ?_⟩, hK, rfl, hD0, hU0, hdl, hul⟩⟩⟩
  · show D.ins.length < 1000000
    omega
  · exact sv_put_any (K := K) hD hn hs (str_shaped ht.2)
theorem ok_Server_do_step (T : Txt K mg) (G_Server_set_text : FnOk P w K mg base CX0 2 T.a_Server_set_text T.fd_Server_set_text ["self", "module", "text"] (spD K (S_Server_set_text K))) (G_apply_edit : FnOk P w K mg base (L2.CX P w) 2 T.a_apply_edit T.fd_apply_edit ["text", "edit"] (spD K (S_apply_edit K))) (G_inverse : FnOk P w K mg base (L2.CX P w) 3 T.a_inverse T.fd_inverse ["text", "edit"] (spD K (S_inverse K))) : FnOk P w K mg base (L2.CX P w) 4 T.a_Server_do_step T.fd_Server_do_step ["self", "edits"] (spD K (S_Server_do_step K)) := by
  refine fnDX T.F_Server_do_step sc_Server_do_step ?len fun cdv A outer s H E hr => ?body
  case len => intro dvs o R X h; first | (obtain ⟨rfl, _⟩ := h; rfl) | (obtain ⟨_, rfl, _⟩ := h; rfl) | (obtain ⟨_, _, rfl, _⟩ := h; rfl) | (obtain ⟨_, _, _, rfl, _⟩ := h; rfl) | (obtain ⟨_, _, _, _, rfl, _⟩ := h; rfl) | (obtain ⟨_, _, _, _, _, rfl, _⟩ := h; rfl) | (obtain ⟨_, _, _, _, _, _, rfl, _⟩ := h; rfl) | (obtain ⟨_, _, _, _, _, _, _, rfl, _⟩ := h; rfl) | (obtain ⟨_, _, _, _, _, _, _, _, rfl, _⟩ := h; rfl) | (obtain ⟨_, _, _, _, _, _, _, _, _, rfl, _⟩ := h; rfl) | (obtain ⟨_, _, _, _, _, _, _, _, _, _, rfl, _⟩ := h; rfl) | (obtain ⟨_, _, _, _, _, _, _, _, _, _, _, rfl, _⟩ := h; rfl) | (obtain ⟨_, _, _, _, _, _, _, _, _, _, _, _, rfl, _⟩ := h; rfl)
  have nd := sc_Server_do_step.nd
  have hu := hu_of hr
  refine ⟨_, (pss_cons (ps_set (i := 2) nd rfl (Or.inl rfl) (pe_lst pa_nil)) (pss_cons (ps_for (passes_of rfl) rfl (DL.pi_listK (K := K) rfl (pi_list (pv 1))) (DL.pg_tupK (K := K) (n := 2) rfl (pg_tup (by rfl) (pgs_cons (pg_name (i := 3) nd rfl (Or.inl rfl)) (pgs_cons (pg_name (i := 4) nd rfl (Or.inl rfl)) pgs_nil)))) (pss_cons (ps_set (i := 5) nd rfl (Or.inl rfl) (pe_dget hu (DL.pe_fldK (K := K) rfl (pv 0) rfl) (pv 3) (fun _ _ => rfl))) (pss_cons (ps_expr (DL.pe_bmK (K := K) rfl (pe_bm PySem.F.plainAttrs_list PySem.F.slot_list_append PySem.F.type_list_append mt_append (pv 2) (pa_cons (pe_tup (pa_cons (pv 3) (pa_cons (pe_callS G_inverse (hr.mono (by first | decide | omega)) (by rfl) T.g_inverse T.F_inverse.kp T.b_inverse (fun σ => passAt (takes_of rfl rfl rfl rfl) σ) (pa_cons (pv 5) (pa_cons (pv 4) pa_nil))) pa_nil))) pa_nil)))) (pss_one (ps_expr (pe_meth (pv 0) T.cl_Server T.m_Server_set_text G_Server_set_text (hr.mono (by first | decide | omega)) T.b_Server_set_text .nil pass0 (pa_cons (pv 3) (pa_cons (pe_callS G_apply_edit (hr.mono (by first | decide | omega)) (by rfl) T.g_apply_edit T.F_apply_edit.kp T.b_apply_edit (fun σ => passAt (takes_of rfl rfl rfl rfl) σ) (pa_cons (pv 5) (pa_cons (pv 4) pa_nil))) pa_nil)))))))) (pss_one (ps_ret (DL.pe_revLK (K := K) rfl (pv 2)))))), ?_⟩
  intro dvs o R X h
  have st : ∀ z, dvs = z → startD N_Server_do_step.length dvs = startD 6 z := fun z e => by rw [e]; rfl
  obtain ⟨sv, aD, aU, n, tx, dn, un, x, t, rfl, sa, hl, hT, ht, hx, hf, q⟩ := h
  rw [st _ rfl]; clear st; simp only [startD, toSl, List.map_cons, List.map_nil, List.length_cons, List.length_nil, List.cons_append, List.nil_append, List.append_nil, Nat.reduceAdd, Nat.reduceSub, List.reduceReplicate, Nat.zero_add, List.replicate_zero, Nat.sub_self]
  have hz : sizeLine = 16777216 := sizeLine_eq
  have F := svF T
  have h4 := (hT.get ht).1
  repeat array_get_dec
  refine xs_forL (xf_vd rfl ⟨_, rfl, fun k ρ' o' => Hold ((k = 0 ∧ ρ' = [.raw (.ref sv), .val (stD x), .own (.lst []), .no, .no, .no] ∧ o' = o) ∨ (k = 1 ∧ SvA K sv aD aU (n + 1) (putT tx x.m (apS t x)) dn un o' ∧ ∃ x3 x4 x5, ρ' = [.raw (.ref sv), .val (stD x), .own (.lst [edD (invE t x)]), x3, x4, x5])), hold (.inl ⟨rfl, rfl, rfl⟩), ?_, ?_⟩)
  · rintro k d _ o1 hk (⟨rfl, rfl, e⟩ | ⟨rfl, _⟩)
    rotate_left
    · cases hk
    subst e
    obtain rfl : edD x = d := by simpa using hk
    have sa0 := sa
    obtain ⟨kp, ko, C, M, rfl, hk, hK, rfl, hD0, hU0, hld, hlu⟩ := sa
    repeat array_get_dec
    refine xe_gget (xe_gf F.c F.t (xe_vr rfl ⟨rfl, sv_at.r, (sc_look C).1, .any fun _ => .inl rfl, rfl, xe_vd rfl ⟨.inr x.m, _, _, .d (.str t), rfl, sv_atT.r, by rw [txK_val, ht]; rfl, .any fun _ => .inr ⟨_, rfl, .str _⟩, ?_⟩⟩))
    repeat array_get_dec
    refine ⟨t, x.s, x.e, x.n, rfl, by omega, hx, fun _ r hr => ?_, fun hn => absurd hf hn⟩
    obtain rfl : mkS (((TL.tl t).take x.e.toNat).drop x.s.toNat) = r := tl_ext hr.symm
    repeat array_get_dec
    refine xm_append (by rw [hz]; show 0 < 16777216; decide) rfl ?_
    repeat array_get_dec
    refine xe_methP (xe_vr rfl ⟨rfl, ⟨_, _, by rw [← sv_cls T]; exact sv_at.r, (sc_meth C).2.2.2.2.2.1⟩, ?_⟩)
    repeat array_get_dec
    refine ⟨t, x.s, x.e, x.n, rfl, by omega, hx, fun _ r hr => ?_, fun hn => absurd hf hn⟩
    obtain rfl : apS t x = r := tl_ext hr.symm
    repeat array_get_dec
    refine ⟨_, .emp, le_emp, sv, aD, aU, n, C.tx, dn, un, x.m, apS t x, rfl, sa0, hl, hT.len, (edit_ok (hT.get ht) hf).1, fun o' so => ⟨_, le_emp', hold (.inr ⟨rfl, so, _, _, _, rfl⟩)⟩⟩
  · rintro _ o1 (⟨e, _⟩ | ⟨_, so, x3, x4, x5, rfl⟩)
    · cases e
    repeat array_get_dec
    refine xe_revL (xe_vo rfl ⟨_, rfl, ?_⟩)
    exact q _ so
theorem ok_Server_edit (T : Txt K mg) (G_Server_do_step : FnOk P w K mg base (L2.CX P w) 4 T.a_Server_do_step T.fd_Server_do_step ["self", "edits"] (spD K (S_Server_do_step K))) (G_Server_need_file : FnOk P w K mg base (L2.CX P w) 1 T.a_Server_need_file T.fd_Server_need_file ["self", "module"] (spD K (S_Server_need_file K))) (G_apply_edit : FnOk P w K mg base (L2.CX P w) 2 T.a_apply_edit T.fd_apply_edit ["text", "edit"] (spD K (S_apply_edit K))) : FnOk P w K mg base (L2.CX P w) 5 T.a_Server_edit T.fd_Server_edit ["self", "module", "edit"] (spD K (S_Server_edit K)) := by
  refine fnDX T.F_Server_edit sc_Server_edit ?len fun cdv A outer s H E hr => ?body
  case len => intro dvs o R X h; first | (obtain ⟨rfl, _⟩ := h; rfl) | (obtain ⟨_, rfl, _⟩ := h; rfl) | (obtain ⟨_, _, rfl, _⟩ := h; rfl) | (obtain ⟨_, _, _, rfl, _⟩ := h; rfl) | (obtain ⟨_, _, _, _, rfl, _⟩ := h; rfl) | (obtain ⟨_, _, _, _, _, rfl, _⟩ := h; rfl) | (obtain ⟨_, _, _, _, _, _, rfl, _⟩ := h; rfl) | (obtain ⟨_, _, _, _, _, _, _, rfl, _⟩ := h; rfl) | (obtain ⟨_, _, _, _, _, _, _, _, rfl, _⟩ := h; rfl) | (obtain ⟨_, _, _, _, _, _, _, _, _, rfl, _⟩ := h; rfl) | (obtain ⟨_, _, _, _, _, _, _, _, _, _, rfl, _⟩ := h; rfl) | (obtain ⟨_, _, _, _, _, _, _, _, _, _, _, rfl, _⟩ := h; rfl) | (obtain ⟨_, _, _, _, _, _, _, _, _, _, _, _, rfl, _⟩ := h; rfl)
  have nd := sc_Server_edit.nd
  have hu := hu_of hr
  refine ⟨_, (pss_cons (ps_expr (DL.pe_methW (pv 0) T.cl_Server T.m_Server_need_file G_Server_need_file (hr.mono (by first | decide | omega)) T.b_Server_need_file (fun σ => passAt (takes_of rfl rfl rfl rfl) σ) (pa_cons (pv 1) pa_nil))) (pss_cons (ps_expr (pe_callS G_apply_edit (hr.mono (by first | decide | omega)) (by rfl) T.g_apply_edit T.F_apply_edit.kp T.b_apply_edit (fun σ => passAt (takes_of rfl rfl rfl rfl) σ) (pa_cons (pe_dget hu (DL.pe_fldK (K := K) rfl (pv 0) rfl) (pv 1) (fun _ _ => rfl)) (pa_cons (pv 2) pa_nil)))) (pss_cons (ps_expr (DL.pe_bmK (K := K) rfl (pe_bm PySem.F.plainAttrs_list PySem.F.slot_list_append PySem.F.type_list_append mt_append (DL.pe_fldK (K := K) rfl (pv 0) rfl) (pa_cons (DL.pe_methW (pv 0) T.cl_Server T.m_Server_do_step G_Server_do_step (hr.mono (by first | decide | omega)) T.b_Server_do_step (fun σ => passAt (takes_of rfl rfl rfl rfl) σ) (pa_cons (pe_lst (pa_cons (pe_tup (pa_cons (pv 1) (pa_cons (pv 2) pa_nil))) pa_nil)) pa_nil)) pa_nil)))) (pss_one (DL.ps_fldK (K := K) rfl (pv 0) (pe_lst pa_nil) rfl))))), ?_⟩
  intro dvs o R X h
  have st : ∀ z, dvs = z → startD N_Server_edit.length dvs = startD 3 z := fun z e => by rw [e]; rfl
  obtain ⟨sv, n, tx, dn, un, x, rfl, ⟨aD, aU, sa⟩, hl, hdl, hT, hx, q0, q⟩ := h
  rw [st _ rfl]; clear st; simp only [startD, toSl, List.map_cons, List.map_nil, List.length_cons, List.length_nil, List.cons_append, List.nil_append, List.append_nil, Nat.reduceAdd, Nat.reduceSub, List.reduceReplicate, Nat.zero_add, List.replicate_zero, Nat.sub_self]
  have hz : sizeLine = 16777216 := sizeLine_eq
  have F := svF T
  have sa0 := sa
  obtain ⟨kp, ko, C, M, rfl, hk, hK, rfl, hD0, hU0, hld, hlu⟩ := sa
  repeat array_get_dec
  refine xe_methWP (xe_vr rfl ⟨rfl, ⟨_, _, by rw [← sv_cls T]; exact sv_at.r, (sc_meth C).2.2.1⟩, ?_⟩)
  repeat array_get_dec
  refine ⟨_, .emp, le_emp, sv, n, C.tx, dn, un, x.m, rfl, ⟨_, _, sa0⟩, fun h => ⟨_, le_emp', ?_⟩, fun h ex he => ⟨_, le_emp', q0 (by simpa using h) ex he⟩⟩
  obtain ⟨t, ht⟩ := Option.isSome_iff_exists.mp h
  have h4 := (hT.get ht).1
  repeat array_get_dec
  refine xe_gget (xe_gf F.c F.t (xe_vr rfl ⟨rfl, sv_at.r, (sc_look C).1, .any fun _ => .inl rfl, rfl, xe_vd rfl ⟨.inr x.m, _, _, .d (.str t), rfl, sv_atT.r, by rw [txK_val, ht]; rfl, .any fun _ => .inr ⟨_, rfl, .str _⟩, ?_⟩⟩))
  repeat array_get_dec
  refine ⟨t, x.s, x.e, x.n, rfl, by omega, hx, fun hf r hr => ?_, fun hf ex he => (q t ht).1 hf ex he⟩
  refine hrest _ _ ?_
  clear hrest
  refine xs_seqH fun _ hrest => ?_
  refine xs_drop ?_
  refine xe_gapp (xe_gf F.c F.d (xe_vr rfl ⟨rfl, sv_at.r, (sc_look C).2.2.1, .any fun _ => .inl rfl, rfl, ⟨_, sv_atD.r⟩, ?_⟩))
  refine xa_cons (xf_of ?_)
  refine xe_methWP (xe_vr rfl ⟨rfl, ⟨_, _, by rw [← sv_cls T]; exact sv_at.r, (sc_meth C).2.2.2.2.2.2.1⟩, ?_⟩)
  repeat array_get_dec
  refine ⟨_, .emp, le_emp, sv, aD, aU, n, C.tx, dn, un, x, t, rfl, sa0, hl, hT, ht, hx, hf, fun o' ⟨kp2, ko2, C2, M2, ho2, hk2, hK2, hX2, hD2, hU2, hld2, hlu2⟩ => ⟨_, le_emp', ?_⟩⟩
  subst ho2
  refine xa_nil ⟨trivial, _, C2.dn, rfl, .inl ⟨_, rfl⟩, by rw [hD0, ← hD2]; exact sv_atD.r, ?_, fun u hu => ⟨_, by rw [hD0, ← hD2]; exact (sv_putD (x := invE t x)).r, ?_⟩⟩
  · rw [hz, hld2]; omega
  refine hrest _ _ ?_
  clear hrest
  refine xs_gf F.c F.u (xe_gnewL fun p => (show HandR _ _ _ _ from ⟨rfl, _, _, sv_at.r.r, (by with_unfolding_all exact Nat.le_of_ble_eq_true rfl), fun u hu => ?_⟩))
  have hu : u = .ref p := hu
  subst hu
  rw [(sc_put _ p).2]
  exact ⟨_, (sv_newU.r).pre and_swap2, (q t ht).2 hf _ ⟨_, _, kp2, _, _, _, rfl, hk2, hK2, hX2, rfl, rfl, by rw [List.length_append, hld2]; rfl, rfl⟩⟩
theorem ok_Server_undo (T : Txt K mg) (G_Server_do_step : FnOk P w K mg base (L2.CX P w) 4 T.a_Server_do_step T.fd_Server_do_step ["self", "edits"] (spD K (S_Server_do_step K))) : FnOk P w K mg base (L2.CX P w) 5 T.a_Server_undo T.fd_Server_undo ["self"] (spD K (S_Server_undo K)) := by
  refine fnDX T.F_Server_undo sc_Server_undo ?len fun cdv A outer s H E hr => ?body
  case len => intro dvs o R X h; first | (obtain ⟨rfl, _⟩ := h; rfl) | (obtain ⟨_, rfl, _⟩ := h; rfl) | (obtain ⟨_, _, rfl, _⟩ := h; rfl) | (obtain ⟨_, _, _, rfl, _⟩ := h; rfl) | (obtain ⟨_, _, _, _, rfl, _⟩ := h; rfl) | (obtain ⟨_, _, _, _, _, rfl, _⟩ := h; rfl) | (obtain ⟨_, _, _, _, _, _, rfl, _⟩ := h; rfl) | (obtain ⟨_, _, _, _, _, _, _, rfl, _⟩ := h; rfl) | (obtain ⟨_, _, _, _, _, _, _, _, rfl, _⟩ := h; rfl) | (obtain ⟨_, _, _, _, _, _, _, _, _, rfl, _⟩ := h; rfl) | (obtain ⟨_, _, _, _, _, _, _, _, _, _, rfl, _⟩ := h; rfl) | (obtain ⟨_, _, _, _, _, _, _, _, _, _, _, rfl, _⟩ := h; rfl) | (obtain ⟨_, _, _, _, _, _, _, _, _, _, _, _, rfl, _⟩ := h; rfl)
  have nd := sc_Server_undo.nd
  have hu := hu_of hr
  refine ⟨_, (pss_cons (ps_if (pt_not (DL.pt_truK (K := K) rfl (DL.pe_fldK (K := K) rfl (pv 0) rfl) (by intro _; rfl))) (pss_one (DL.ps_raiseC rfl (takes_of rfl rfl rfl rfl) (pmk_own PySem.F.excBase_ValueError T.x_NothingToUndo T.g_NothingToUndo T.k_NothingToUndo (raises_own T.b_NothingToUndo T.t_NothingToUndo) (by rfl)))) pss_nil) (pss_one (ps_expr (DL.pe_bmK (K := K) rfl (pe_bm PySem.F.plainAttrs_list PySem.F.slot_list_append PySem.F.type_list_append mt_append (DL.pe_fldK (K := K) rfl (pv 0) rfl) (pa_cons (DL.pe_methW (pv 0) T.cl_Server T.m_Server_do_step G_Server_do_step (hr.mono (by first | decide | omega)) T.b_Server_do_step (fun σ => passAt (takes_of rfl rfl rfl rfl) σ) (pa_cons (DL.pe_bm0K (K := K) rfl (pe_bm0 PySem.F.plainAttrs_list PySem.F.slot_list_pop PySem.F.type_list_pop mt_pop (DL.pe_fldK (K := K) rfl (pv 0) rfl))) pa_nil)) pa_nil)))))), ?_⟩
  intro dvs o R X h
  have st : ∀ z, dvs = z → startD N_Server_undo.length dvs = startD 1 z := fun z e => by rw [e]; rfl
  obtain ⟨sv, n, tx, dn, un, rfl, ⟨aD, aU, sa⟩, hl, hul, hT, q0, q⟩ := h
  rw [st _ rfl]; clear st; simp only [startD, toSl, List.map_cons, List.map_nil, List.length_cons, List.length_nil, List.cons_append, List.nil_append, List.append_nil, Nat.reduceAdd, Nat.reduceSub, List.reduceReplicate, Nat.zero_add, List.replicate_zero, Nat.sub_self]
  have hz : sizeLine = 16777216 := sizeLine_eq
  have F := svF T
  have sa0 := sa
  obtain ⟨kp, ko, C, M, rfl, hk, hK, rfl, hD0, hU0, hld, hlu⟩ := sa
  refine xs_seqH fun _ hrest => ?_
  refine xs_ifH fun _ _ hthen helse => ?_
  refine xt_not (xt_gtru (xs := C.dn) (xe_gf F.c F.d (xe_vr rfl ⟨rfl, sv_at.r, (sc_look C).2.2.1, .any fun _ => .inl rfl, rfl, sv_atD.r, ?_⟩)))
  cases dn with
  | nil =>
    rw [List.eq_nil_of_length_eq_zero hld]
    exact ⟨fun _ => hthen _ _ (xs_raiseC (q0 rfl _ ⟨T.i_NothingToUndo, rfl⟩)), fun z => (nomatch z)⟩
  | cons x ds =>
    obtain ⟨t, ht, hx, hf, q⟩ := q x ds rfl
    obtain ⟨w, hw⟩ : ∃ w, C.dn[C.dn.length - 1]? = some w := ⟨_, List.getElem?_eq_getElem (by rw [hld]; exact Nat.lt_succ_self _)⟩
    have hne : C.dn.isEmpty = false := by cases hcd : C.dn with
      | nil => rw [hcd] at hld; cases hld
      | cons v vs => rfl
    rw [hne]
    refine ⟨fun z => (nomatch z), fun _ => helse _ _ (xs_next (hrest _ _ ?_))⟩
    clear hthen helse hrest
    refine xs_drop ?_
    refine xe_gapp (xe_gf F.c F.u (xe_vr rfl ⟨rfl, sv_at.r, (sc_look C).2.2.2, .any fun _ => .inl rfl, rfl, ⟨_, sv_atU.r⟩, ?_⟩))
    refine xa_cons (xf_of ?_)
    refine xe_methWP (xe_vr rfl ⟨rfl, ⟨_, _, by rw [← sv_cls T]; exact sv_at.r, (sc_meth C).2.2.2.2.2.2.1⟩, ?_⟩)
    refine xaf_cons (xf_of (xe_gpop (xe_gf F.c F.d (xe_vr rfl ⟨rfl, sv_at.r, (sc_look C).2.2.1, .any fun _ => .inl rfl, rfl, C.dn, w, .d (stD x), _, sv_atD.r, hw, sv_popD.r, (sv_kn.r).mono fun G h => .inr ⟨_, rfl, (rp_pop h.d).2 w hw⟩, ?_⟩))))
    repeat array_get_dec
    refine ⟨_, .emp, le_emp, sv, aD, aU, n, C.tx, ds, un, x, t, rfl, ⟨kp, ko, _, M, rfl, hk, hK, rfl, hD0, hU0, by rw [List.length_dropLast, hld]; rfl, hlu⟩, hl, hT, ht, hx, hf, fun o' ⟨kp2, ko2, C2, M2, ho2, hk2, hK2, hX2, hD2, hU2, hld2, hlu2⟩ => ⟨_, le_emp', ?_⟩⟩
    subst ho2
    refine xa_nil ⟨trivial, _, C2.un, rfl, .inl ⟨_, rfl⟩, by rw [hU0, ← hU2]; exact sv_atU.r, ?_, fun u hu => ⟨_, by rw [hU0, ← hU2]; exact (sv_putU (x := invE t x)).r, ?_⟩⟩
    · rw [hz, hlu2]; omega
    exact q _ ⟨_, _, kp2, _, _, _, rfl, hk2, hK2, hX2, rfl, rfl, hld2, by rw [List.length_append, hlu2]; rfl⟩
theorem ok_Server_redo (T : Txt K mg) (G_Server_do_step : FnOk P w K mg base (L2.CX P w) 4 T.a_Server_do_step T.fd_Server_do_step ["self", "edits"] (spD K (S_Server_do_step K))) : FnOk P w K mg base (L2.CX P w) 5 T.a_Server_redo T.fd_Server_redo ["self"] (spD K (S_Server_redo K)) := by
  refine fnDX T.F_Server_redo sc_Server_redo ?len fun cdv A outer s H E hr => ?body
  case len => intro dvs o R X h; first | (obtain ⟨rfl, _⟩ := h; rfl) | (obtain ⟨_, rfl, _⟩ := h; rfl) | (obtain ⟨_, _, rfl, _⟩ := h; rfl) | (obtain ⟨_, _, _, rfl, _⟩ := h; rfl) | (obtain ⟨_, _, _, _, rfl, _⟩ := h; rfl) | (obtain ⟨_, _, _, _, _, rfl, _⟩ := h; rfl) | (obtain ⟨_, _, _, _, _, _, rfl, _⟩ := h; rfl) | (obtain ⟨_, _, _, _, _, _, _, rfl, _⟩ := h; rfl) | (obtain ⟨_, _, _, _, _, _, _, _, rfl, _⟩ := h; rfl) | (obtain ⟨_, _, _, _, _, _, _, _, _, rfl, _⟩ := h; rfl) | (obtain ⟨_, _, _, _, _, _, _, _, _, _, rfl, _⟩ := h; rfl) | (obtain ⟨_, _, _, _, _, _, _, _, _, _, _, rfl, _⟩ := h; rfl) | (obtain ⟨_, _, _, _, _, _, _, _, _, _, _, _, rfl, _⟩ := h; rfl)
  have nd := sc_Server_redo.nd
  have hu := hu_of hr
  refine ⟨_, (pss_cons (ps_if (pt_not (DL.pt_truK (K := K) rfl (DL.pe_fldK (K := K) rfl (pv 0) rfl) (by intro _; rfl))) (pss_one (DL.ps_raiseC rfl (takes_of rfl rfl rfl rfl) (pmk_own PySem.F.excBase_ValueError T.x_NothingToUndo T.g_NothingToUndo T.k_NothingToUndo (raises_own T.b_NothingToUndo T.t_NothingToUndo) (by rfl)))) pss_nil) (pss_one (ps_expr (DL.pe_bmK (K := K) rfl (pe_bm PySem.F.plainAttrs_list PySem.F.slot_list_append PySem.F.type_list_append mt_append (DL.pe_fldK (K := K) rfl (pv 0) rfl) (pa_cons (DL.pe_methW (pv 0) T.cl_Server T.m_Server_do_step G_Server_do_step (hr.mono (by first | decide | omega)) T.b_Server_do_step (fun σ => passAt (takes_of rfl rfl rfl rfl) σ) (pa_cons (DL.pe_bm0K (K := K) rfl (pe_bm0 PySem.F.plainAttrs_list PySem.F.slot_list_pop PySem.F.type_list_pop mt_pop (DL.pe_fldK (K := K) rfl (pv 0) rfl))) pa_nil)) pa_nil)))))), ?_⟩
  intro dvs o R X h
  have st : ∀ z, dvs = z → startD N_Server_redo.length dvs = startD 1 z := fun z e => by rw [e]; rfl
  obtain ⟨sv, n, tx, dn, un, rfl, ⟨aD, aU, sa⟩, hl, hdl, hT, q0, q⟩ := h
  rw [st _ rfl]; clear st; simp only [startD, toSl, List.map_cons, List.map_nil, List.length_cons, List.length_nil, List.cons_append, List.nil_append, List.append_nil, Nat.reduceAdd, Nat.reduceSub, List.reduceReplicate, Nat.zero_add, List.replicate_zero, Nat.sub_self]
  have hz : sizeLine = 16777216 := sizeLine_eq
  have F := svF T
  have sa0 := sa
  obtain ⟨kp, ko, C, M, rfl, hk, hK, rfl, hD0, hU0, hld, hlu⟩ := sa
  refine xs_seqH fun _ hrest => ?_
  refine xs_ifH fun _ _ hthen helse => ?_
  refine xt_not (xt_gtru (xs := C.un) (xe_gf F.c F.u (xe_vr rfl ⟨rfl, sv_at.r, (sc_look C).2.2.2, .any fun _ => .inl rfl, rfl, sv_atU.r, ?_⟩)))
  cases un with
  | nil =>
    rw [List.eq_nil_of_length_eq_zero hlu]
    exact ⟨fun _ => hthen _ _ (xs_raiseC (q0 rfl _ ⟨T.i_NothingToUndo, rfl⟩)), fun z => (nomatch z)⟩
  | cons x ds =>
    obtain ⟨t, ht, hx, hf, q⟩ := q x ds rfl
    obtain ⟨w, hw⟩ : ∃ w, C.un[C.un.length - 1]? = some w := ⟨_, List.getElem?_eq_getElem (by rw [hlu]; exact Nat.lt_succ_self _)⟩
    have hne : C.un.isEmpty = false := by cases hcd : C.un with
      | nil => rw [hcd] at hlu; cases hlu
      | cons v vs => rfl
    rw [hne]
    refine ⟨fun z => (nomatch z), fun _ => helse _ _ (xs_next (hrest _ _ ?_))⟩
    clear hthen helse hrest
    refine xs_drop ?_
    refine xe_gapp (xe_gf F.c F.d (xe_vr rfl ⟨rfl, sv_at.r, (sc_look C).2.2.1, .any fun _ => .inl rfl, rfl, ⟨_, sv_atD.r⟩, ?_⟩))
    refine xa_cons (xf_of ?_)
    refine xe_methWP (xe_vr rfl ⟨rfl, ⟨_, _, by rw [← sv_cls T]; exact sv_at.r, (sc_meth C).2.2.2.2.2.2.1⟩, ?_⟩)
    refine xaf_cons (xf_of (xe_gpop (xe_gf F.c F.u (xe_vr rfl ⟨rfl, sv_at.r, (sc_look C).2.2.2, .any fun _ => .inl rfl, rfl, C.un, w, .d (stD x), _, sv_atU.r, hw, sv_popU.r, (sv_kn.r).mono fun G h => .inr ⟨_, rfl, (rp_pop h.u).2 w hw⟩, ?_⟩))))
    repeat array_get_dec
    refine ⟨_, .emp, le_emp, sv, aD, aU, n, C.tx, dn, ds, x, t, rfl, ⟨kp, ko, _, M, rfl, hk, hK, rfl, hD0, hU0, hld, by rw [List.length_dropLast, hlu]; rfl⟩, hl, hT, ht, hx, hf, fun o' ⟨kp2, ko2, C2, M2, ho2, hk2, hK2, hX2, hD2, hU2, hld2, hlu2⟩ => ⟨_, le_emp', ?_⟩⟩
    subst ho2
    refine xa_nil ⟨trivial, _, C2.dn, rfl, .inl ⟨_, rfl⟩, by rw [hD0, ← hD2]; exact sv_atD.r, ?_, fun u hu => ⟨_, by rw [hD0, ← hD2]; exact (sv_putD (x := invE t x)).r, ?_⟩⟩
    · rw [hz, hld2]; omega
    exact q _ ⟨_, _, kp2, _, _, _, rfl, hk2, hK2, hX2, rfl, rfl, by rw [List.length_append, hld2]; rfl, hlu2⟩
theorem ok_need_module (T : Txt K mg) (G_is_name : FnOk P w K mg base CX0 5 T.a_is_name T.fd_is_name ["value"] (spD K (S_is_name K))) (G_is_text : FnOk P w K mg base CX0 2 T.a_is_text T.fd_is_text ["value"] (spD K (S_is_text K))) : FnOk P w K mg base (L2.CX P w) 6 T.a_need_module T.fd_need_module ["name", "text"] (spD K (S_need_module K)) := by
  refine fnDX T.F_need_module sc_need_module ?len fun cdv A outer s H E hr => ?body
  case len => intro dvs o R X h; first | (obtain ⟨rfl, _⟩ := h; rfl) | (obtain ⟨_, rfl, _⟩ := h; rfl) | (obtain ⟨_, _, rfl, _⟩ := h; rfl) | (obtain ⟨_, _, _, rfl, _⟩ := h; rfl) | (obtain ⟨_, _, _, _, rfl, _⟩ := h; rfl) | (obtain ⟨_, _, _, _, _, rfl, _⟩ := h; rfl) | (obtain ⟨_, _, _, _, _, _, rfl, _⟩ := h; rfl) | (obtain ⟨_, _, _, _, _, _, _, rfl, _⟩ := h; rfl) | (obtain ⟨_, _, _, _, _, _, _, _, rfl, _⟩ := h; rfl) | (obtain ⟨_, _, _, _, _, _, _, _, _, rfl, _⟩ := h; rfl) | (obtain ⟨_, _, _, _, _, _, _, _, _, _, rfl, _⟩ := h; rfl) | (obtain ⟨_, _, _, _, _, _, _, _, _, _, _, rfl, _⟩ := h; rfl) | (obtain ⟨_, _, _, _, _, _, _, _, _, _, _, _, rfl, _⟩ := h; rfl)
  have nd := sc_need_module.nd
  have hu := hu_of hr
  refine ⟨_, (pss_one (ps_if (PW.pt (pw_or (pt_not (pt_val (pe_call G_is_name (hr.mono (by first | decide | omega)) (by rfl) T.g_is_name T.F_is_name.kp T.b_is_name .nil pass0 (pa_cons (pv 0) pa_nil)))) (pw_or1 (pt_not (pt_val (pe_call G_is_text (hr.mono (by first | decide | omega)) (by rfl) T.g_is_text T.F_is_text.kp T.b_is_text .nil pass0 (pa_cons (pv 1) pa_nil))))))) (pss_one (DL.ps_raiseC rfl (takes_of rfl rfl rfl rfl) (pmk_own PySem.F.excBase_ValueError T.x_InvalidEdit T.g_InvalidEdit T.k_InvalidEdit (raises_own T.b_InvalidEdit T.t_InvalidEdit) (by rfl)))) pss_nil)), ?_⟩
  intro dvs o R X h
  have st : ∀ z, dvs = z → startD N_need_module.length dvs = startD 2 z := fun z e => by rw [e]; rfl
  obtain ⟨m, t, rfl, hm, ht, hn, q⟩ := h
  rw [st _ rfl]; clear st; simp only [startD, toSl, List.map_cons, List.map_nil, List.length_cons, List.length_nil, List.cons_append, List.nil_append, List.append_nil, Nat.reduceAdd, Nat.reduceSub, List.reduceReplicate, Nat.zero_add, List.replicate_zero, Nat.sub_self]
  repeat array_get_dec
  refine ⟨m, rfl, by omega, ?_⟩
  rw [hn]
  repeat array_get_dec
  refine ⟨t, rfl, by have := ht.1; omega, ?_⟩
  rw [decide_eq_true ht.1, ht.2, Bool.and_self]
  repeat array_get_dec
  exact q
theorem ok_new_keeper (T : Txt K mg) (G_Keeper___init__ : FnOk P w K mg base CX0 1 T.a_Keeper___init__ T.fd_Keeper___init__ ["self", "compute"] (spD K (S_Keeper___init__ K))) (G_Keeper_put : FnOk P w K mg base CX0 1 T.a_Keeper_put T.fd_Keeper_put ["self", "key", "value"] (spD K (S_Keeper_put K))) : FnOk P w K mg base CX0 3 T.a_new_keeper T.fd_new_keeper ["program"] (spD K (S_new_keeper K)) := by
  refine fnD T.F_new_keeper sc_new_keeper ?len fun cdv A outer s H E hr => ?body
  case len => intro dvs o R X h; first | (obtain ⟨rfl, _⟩ := h; rfl) | (obtain ⟨_, rfl, _⟩ := h; rfl) | (obtain ⟨_, _, rfl, _⟩ := h; rfl) | (obtain ⟨_, _, _, rfl, _⟩ := h; rfl) | (obtain ⟨_, _, _, _, rfl, _⟩ := h; rfl) | (obtain ⟨_, _, _, _, _, rfl, _⟩ := h; rfl) | (obtain ⟨_, _, _, _, _, _, rfl, _⟩ := h; rfl) | (obtain ⟨_, _, _, _, _, _, _, rfl, _⟩ := h; rfl) | (obtain ⟨_, _, _, _, _, _, _, _, rfl, _⟩ := h; rfl) | (obtain ⟨_, _, _, _, _, _, _, _, _, rfl, _⟩ := h; rfl) | (obtain ⟨_, _, _, _, _, _, _, _, _, _, rfl, _⟩ := h; rfl) | (obtain ⟨_, _, _, _, _, _, _, _, _, _, _, rfl, _⟩ := h; rfl) | (obtain ⟨_, _, _, _, _, _, _, _, _, _, _, _, rfl, _⟩ := h; rfl)
  have nd := sc_new_keeper.nd
  have hu := hu_of hr
  refine ⟨_, (pss_cons (ps_set (i := 1) nd rfl (Or.inl rfl) (pe_make T.m_Keeper___init__ G_Keeper___init__ (hr.mono (by first | decide | omega)) (by rfl) T.g_Keeper T.b_Keeper___init__ .nil pass0 (pa_cons (pe_glob (v := .ref T.a_compute) (by rfl) T.g_compute rfl) pa_nil))) (pss_cons (ps_expr (pe_meth (pv 1) T.cl_Keeper T.m_Keeper_put G_Keeper_put (hr.mono (by first | decide | omega)) T.b_Keeper_put .nil pass0 (pa_cons (pe_tup (pa_cons pe_str pa_nil)) (pa_cons (pe_callTy (DL.call_tupK (K := K) rfl) (by rfl) T.n_tuple (by decide +kernel) (pa_cons (pe_callB (DL.call_sortDc rfl) (by rfl) T.n_sorted (by decide +kernel) (pa_cons (pv 0) pa_nil)) pa_nil)) pa_nil)))) (pss_cons (ps_for PassesOwn.never rfl (DL.pi_listK (K := K) rfl (pi_list (pe_callB (DL.call_sortDc rfl) (by rfl) T.n_sorted (by decide +kernel) (pa_cons (pv 0) pa_nil)))) (pg_name (i := 2) nd rfl (Or.inl rfl)) (pss_one (ps_expr (pe_meth (pv 1) T.cl_Keeper T.m_Keeper_put G_Keeper_put (hr.mono (by first | decide | omega)) T.b_Keeper_put .nil pass0 (pa_cons (pe_tup (pa_cons pe_str (pa_cons (pv 2) pa_nil))) (pa_cons (pe_dget hu (pv 0) (pv 2) (fun _ _ => rfl)) pa_nil)))))) (pss_one (ps_ret (pv 1)))))), ?_⟩
  intro dvs o R X h
  have st : ∀ z, dvs = z → startD N_new_keeper.length dvs = startD 3 z := fun z e => by rw [e]; rfl
  obtain ⟨t, rfl, hT, q⟩ := h
  rw [st _ rfl]; clear st; simp only [startD, toSl, List.map_cons, List.map_nil, List.length_cons, List.length_nil, List.cons_append, List.nil_append, List.append_nil, Nat.reduceAdd, Nat.reduceSub, List.reduceReplicate, Nat.zero_add, List.replicate_zero, Nat.sub_self]
  have hz : sizeLine = 16777216 := sizeLine_eq
  have F2 := kpF T
  have h6 := hT.len
  refine xs_seqH fun _ hrest => ?_
  refine xs_asg ?_
  refine xe_makeO rfl ?_
  repeat array_get_dec
  intro kp dx
  refine ⟨kp, dx, T.a_compute, rfl, by rw [kp_cls T], fun D hD hf => ⟨rfl, ?_⟩⟩
  refine ⟨rfl, asr_r (hrest _ _ ?_)⟩
  clear hrest
  have hi0 : D.ins = [] := List.map_eq_nil_iff.mp (show D.er.ins = [] by rw [hD])
  refine xs_seqH fun _ hrest => ?_
  refine xs_drop ?_
  refine xe_methP (xe_vr rfl ⟨rfl, ⟨_, _, by rw [← kp_cls T]; exact (at_cell m_a).l, (at_meth D).2.2.2.2.2⟩, ?_⟩)
  refine xaf_cons (xf_tupKpF ?_)
  repeat array_get_dec
  refine ⟨_, _, _, _, _, _, kMods, _, rfl, rfl, (show 1 ≤ 100 by decide), fun b => hr_r ?_⟩
  repeat array_get_dec
  refine xc_sortDc (ks := t.map Prod.fst) rfl (txD_keys t) (by rw [List.length_map]; omega) fun ys hp hs => ?_
  obtain ⟨s1, s2, s3⟩ := sorted_names hT hp
  repeat array_get_dec
  refine xc_tupL rfl ?_
  repeat array_get_dec
  refine ⟨_, _, .refl, kp, b, D, [], _, kMods, .tuple (ys.map .str), rfl, rfl, .head _, ?_, s1, ?_, fun D1 hD1 hf1 => ⟨_, .refl, ?_⟩⟩
  · rw [hi0]; show 0 < 1000000; decide
  · rw [hi0]; exact fun _ h => (nomatch h)
  have h1 := sv_put_any (K := K) (n := 0) hD1 (by rw [hi0]; exact Nat.le_refl _) (by rw [hi0]; exact fun _ h => (nomatch h)) s1
  refine hrest _ _ ?_
  clear hrest
  refine xs_seqH fun _ hrest => ?_
  refine xs_forL (xf_of (xe_cb (xa_cons (xe_vd rfl (xa_nil ⟨trivial, xc_sortDc (ks := t.map Prod.fst) rfl (txD_keys t) (by rw [List.length_map]; omega) fun ys hp hs => ?_⟩)))))
  obtain ⟨_, s2, s3⟩ := sorted_names hT hp
  refine ⟨_, rfl, fun k ρ' o' => Hold (∃ (D : KC) (kn : List (Addr × Ky)) (x2 : Sl), o' = (kpO K kp D [] kn).and o ∧ ρ' = [.val (dicD (txD t)), .raw (.ref kp), x2] ∧ D.ins.length ≤ 1 + k ∧ ∀ x ∈ D.ins, SeqAt.shaped x.d = true), hold ⟨D1, _, _, rfl, rfl, h1⟩, ?_, ?_⟩
  · rintro k d _ _ hk ⟨D, kn, x2, rfl, rfl, hn, hsh⟩
    rw [List.getElem?_map] at hk
    obtain ⟨m, hm, rfl⟩ := Option.map_eq_some_iff.mp hk
    obtain ⟨x, hx, hxo⟩ := s3 m (List.mem_of_getElem? hm)
    have hk6 : k < ys.length := (List.getElem?_eq_some_iff.mp hm).1
    refine xg_nd ?_
    refine xs_drop ?_
    refine xe_methP (xe_vr rfl ⟨rfl, ⟨_, _, by rw [← kp_cls T]; exact (at_cell m_a).l, (at_meth D).2.2.2.2.2⟩, ?_⟩)
    refine xaf_cons (xf_tupKpF ?_)
    repeat array_get_dec
    refine ⟨_, _, _, _, _, _, kText m, _, rfl, rfl, (show 2 ≤ 100 by decide), fun b => hr_r ?_⟩
    refine xaf_cons (xf_of (xe_ddget (xe_vd rfl ⟨_, rfl, xe_vd rfl ⟨trivial, .inr m, .str x, rfl, by rw [txD_val, hx]; rfl, ?_⟩⟩)))
    repeat array_get_dec
    refine ⟨_, _, .refl, kp, b, D, [], _, kText m, .str x, rfl, rfl, .head _, ?_, str_shaped hxo.2, hsh, fun D2 hD2 hf2 => ⟨_, .refl, ?_⟩⟩
    · show D.ins.length < 1000000
      omega
    exact hold ⟨D2, _, _, rfl, rfl, sv_put_any (K := K) (n := 1 + k) hD2 hn hsh (str_shaped hxo.2)⟩
  · rintro _ _ ⟨D, kn, x2, rfl, rfl, hn, hsh⟩
    repeat array_get_dec
    refine q kp _ ⟨D, [], kn, rfl, ?_, hsh⟩
    rw [List.length_map, s2] at hn
    omega
theorem ok_Server_open_file (T : Txt K mg) (G_Keeper_put : FnOk P w K mg base CX0 1 T.a_Keeper_put T.fd_Keeper_put ["self", "key", "value"] (spD K (S_Keeper_put K))) (G_Server_forget_steps : FnOk P w K mg base CX0 1 T.a_Server_forget_steps T.fd_Server_forget_steps ["self"] (spD K (S_Server_forget_steps K))) (G_Server_modules : FnOk P w K mg base CX0 1 T.a_Server_modules T.fd_Server_modules ["self"] (spD K (S_Server_modules K))) (G_need_module : FnOk P w K mg base (L2.CX P w) 6 T.a_need_module T.fd_need_module ["name", "text"] (spD K (S_need_module K))) : FnOk P w K mg base (L2.CX P w) 7 T.a_Server_open_file T.fd_Server_open_file ["self", "module", "text"] (spD K (S_Server_open_file K)) := by
  refine fnDX T.F_Server_open_file sc_Server_open_file ?len fun cdv A outer s H E hr => ?body
  case len => intro dvs o R X h; first | (obtain ⟨rfl, _⟩ := h; rfl) | (obtain ⟨_, rfl, _⟩ := h; rfl) | (obtain ⟨_, _, rfl, _⟩ := h; rfl) | (obtain ⟨_, _, _, rfl, _⟩ := h; rfl) | (obtain ⟨_, _, _, _, rfl, _⟩ := h; rfl) | (obtain ⟨_, _, _, _, _, rfl, _⟩ := h; rfl) | (obtain ⟨_, _, _, _, _, _, rfl, _⟩ := h; rfl) | (obtain ⟨_, _, _, _, _, _, _, rfl, _⟩ := h; rfl) | (obtain ⟨_, _, _, _, _, _, _, _, rfl, _⟩ := h; rfl) | (obtain ⟨_, _, _, _, _, _, _, _, _, rfl, _⟩ := h; rfl) | (obtain ⟨_, _, _, _, _, _, _, _, _, _, rfl, _⟩ := h; rfl) | (obtain ⟨_, _, _, _, _, _, _, _, _, _, _, rfl, _⟩ := h; rfl) | (obtain ⟨_, _, _, _, _, _, _, _, _, _, _, _, rfl, _⟩ := h; rfl)
  have nd := sc_Server_open_file.nd
  have hu := hu_of hr
  refine ⟨_, (pss_cons (ps_if (pt_cmp (pc_din hu (pv 1) (DL.pe_fldK (K := K) rfl (pv 0) rfl))) (pss_one (DL.ps_raiseC rfl (takes_of rfl rfl rfl rfl) (pmk_own PySem.F.excBase_ValueError T.x_FileExists T.g_FileExists T.k_FileExists (raises_own T.b_FileExists T.t_FileExists) (by rfl)))) pss_nil) (pss_cons (ps_expr (pe_callS G_need_module (hr.mono (by first | decide | omega)) (by rfl) T.g_need_module T.F_need_module.kp T.b_need_module (fun σ => passAt (takes_of rfl rfl rfl rfl) σ) (pa_cons (pv 1) (pa_cons (pv 2) pa_nil)))) (pss_cons (ps_if (pt_cmpR (op_ge) (pe_callB (DL.call_lenDc) (by rfl) T.n_len (by decide +kernel) (pa_cons (DL.pe_fldK (K := K) rfl (pv 0) rfl) pa_nil)) (pe_glob (v := .int 6) (by rfl) (T.c_MOST_MODULES).choose_spec ⟨_, rfl⟩) (nomark _)) (pss_one (DL.ps_raiseC rfl (takes_of rfl rfl rfl rfl) (pmk_own PySem.F.excBase_ValueError T.x_InvalidEdit T.g_InvalidEdit T.k_InvalidEdit (raises_own T.b_InvalidEdit T.t_InvalidEdit) (by rfl)))) pss_nil) (pss_cons (ps_dput hu (DL.pe_fldK (K := K) rfl (pv 0) rfl) (pv 1) (pv 2) rfl) (pss_cons (ps_expr (pe_meth (DL.pe_fldK (K := K) rfl (pv 0) rfl) T.cl_Keeper T.m_Keeper_put G_Keeper_put (hr.mono (by first | decide | omega)) T.b_Keeper_put .nil pass0 (pa_cons (pe_tup (pa_cons pe_str pa_nil)) (pa_cons (pe_callTy (DL.call_tupK (K := K) rfl) (by rfl) T.n_tuple (by decide +kernel) (pa_cons (pe_meth0 (pv 0) T.cl_Server T.m_Server_modules G_Server_modules (hr.mono (by first | decide | omega)) T.b_Server_modules .nil pass0) pa_nil)) pa_nil)))) (pss_cons (ps_expr (pe_meth (DL.pe_fldK (K := K) rfl (pv 0) rfl) T.cl_Keeper T.m_Keeper_put G_Keeper_put (hr.mono (by first | decide | omega)) T.b_Keeper_put .nil pass0 (pa_cons (pe_tup (pa_cons pe_str (pa_cons (pv 1) pa_nil))) (pa_cons (pv 2) pa_nil)))) (pss_one (ps_expr (pe_meth0 (pv 0) T.cl_Server T.m_Server_forget_steps G_Server_forget_steps (hr.mono (by first | decide | omega)) T.b_Server_forget_steps .nil pass0))))))))), ?_⟩
  intro dvs o R X h
  have st : ∀ z, dvs = z → startD N_Server_open_file.length dvs = startD 3 z := fun z e => by rw [e]; rfl
  obtain ⟨sv, n, tx, dn, un, m, t, rfl, ⟨aD, aU, sa⟩, hl, hT, h6, hmo, hno, hml, ht, hnm, q⟩ := h
  rw [st _ rfl]; clear st; simp only [startD, toSl, List.map_cons, List.map_nil, List.length_cons, List.length_nil, List.cons_append, List.nil_append, List.append_nil, Nat.reduceAdd, Nat.reduceSub, List.reduceReplicate, Nat.zero_add, List.replicate_zero, Nat.sub_self]
  have hz : sizeLine = 16777216 := sizeLine_eq
  have F := svF T
  have F2 := kpF T
  obtain ⟨kp, ko, C, M, rfl, hk, hK, rfl, hD0, hU0, hld, hlu⟩ := sa
  refine xs_seqH fun _ hrest => ?_
  refine xs_ifH fun _ _ hthen helse => ?_
  refine xt_test (xe_gin (xe_vd rfl ⟨.inr m, rfl, xe_gf F.c F.t (xe_vr rfl ⟨rfl, sv_at.r, (sc_look C).1, .any fun _ => .inl rfl, rfl, _, sv_atT.r, ?_⟩)⟩))
  rw [txK_val, hno]
  refine ⟨_, rfl, fun z => (nomatch z), fun _ => helse _ _ (xs_next (hrest _ _ ?_))⟩
  clear hthen helse hrest
  repeat array_get_dec
  refine ⟨m, t, rfl, hml, ht, hnm, ?_⟩
  repeat array_get_dec
  refine xe_gf F.c F.t (xe_vr rfl ⟨rfl, sv_at.r, (sc_look C).1, .any fun _ => .inl rfl, ?_⟩)
  refine xa_nil ⟨trivial, xc_glenD sv_atT.r ?_⟩
  rw [txK_len]
  repeat array_get_dec
  refine bs_d (fun c => by omega) fun c => helse _ _ (xs_next (hrest _ _ ?_))
  clear hthen helse hrest
  refine xs_seqH fun _ hrest => ?_
  refine xs_gput (xe_vd rfl (show HandR _ _ _ _ from xe_gf F.c F.t (xe_vr rfl ⟨rfl, sv_at.r, (sc_look C).1, .any fun _ => .inl rfl, rfl, xe_vd rfl ⟨.inr m, _, rfl, sv_atT.r, by rw [txK_len, hz]; omega, fun u hu => ?_⟩⟩)))
  have hu : u = .str t := hu
  subst hu
  rw [txK_put]
  refine ⟨_, sv_putT.r, hrest _ _ ?_⟩
  clear hrest
  have hT2 := hT.add hno h6 ht hmo hml
  obtain ⟨D, L, kn, rfl, hn, hs⟩ := hk
  have rC : ∃ C2 : SC, C2 = { C with tx := putT C.tx m t } := ⟨_, rfl⟩
  obtain ⟨C2, hC2⟩ := rC
  have e1 : C2.tx = putT C.tx m t := by rw [hC2]
  have e2 : C2.aK = kp := by rw [hC2]; exact hK
  have e3 : C2.dn.length = dn.length ∧ C2.un.length = un.length := by rw [hC2]; exact ⟨hld, hlu⟩
  rw [← hC2]
  rw [← e1] at hT2 q
  clear hC2 hK hD0 hU0 hld hlu e1
  refine xs_seqH fun _ hrest => ?_
  refine xs_drop ?_
  refine xe_methP (xe_gf F.c F.k (xe_vr rfl ⟨rfl, sv_at.r, (sc_look C2).2.1, .any fun _ => .inl rfl, rfl, ⟨_, _, by rw [← kp_cls T]; exact (at_cell (by rw [e2]; exact m_a)).l, (at_meth D).2.2.2.2.2⟩, ?_⟩))
  refine xaf_cons (xf_tupKpF ?_)
  repeat array_get_dec
  refine ⟨_, _, _, _, _, _, kMods, _, rfl, rfl, (show 1 ≤ 100 by decide), fun b => hr_r ?_⟩
  refine xaf_cons (xf_of (xe_cb (xa_cons ?_)))
  refine xe_methP (xe_vr rfl ⟨rfl, ⟨_, _, by rw [← sv_cls T]; exact sv_at.r, (sc_meth C2).1⟩, ?_⟩)
  repeat array_get_dec
  refine ⟨_, _, and_comm_le, sv, C2, M, dn, un, rfl, rfl, by have := hT2.len; omega, fun ys hp hs2 => ⟨_, and_comm_le, ?_⟩⟩
  obtain ⟨s1, _, _⟩ := sorted_names hT2 hp
  refine xa_nil ⟨trivial, xc_tupL rfl ?_⟩
  repeat array_get_dec
  refine ⟨_, _, .refl, kp, b, D, L, _, kMods, .tuple (ys.map .str), by rw [← e2], rfl, .head _, ?_, s1, hs, fun D1 hD1 hf1 => ⟨_, .refl, hrest _ _ ?_⟩⟩
  · show D.ins.length < 1000000; omega
  clear hrest
  have h1 := sv_put_any (K := K) hD1 hn hs s1
  refine xs_seqH fun _ hrest => ?_
  refine xs_drop ?_
  refine xe_methP (xe_gf F.c F.k (xe_vr rfl ⟨rfl, sv_at.r, (sc_look C2).2.1, .any fun _ => .inl rfl, rfl, ⟨_, _, by rw [← kp_cls T]; exact (at_cell (by rw [e2]; exact m_a)).l, (at_meth D1).2.2.2.2.2⟩, ?_⟩))
  refine xaf_cons (xf_tupKpF ?_)
  repeat array_get_dec
  refine ⟨_, _, _, _, _, _, kText m, _, rfl, rfl, (show 2 ≤ 100 by decide), fun b => hr_r ?_⟩
  repeat array_get_dec
  refine ⟨_, _, .refl, kp, b, D1, L, _, kText m, .str t, by rw [← e2], rfl, .head _, ?_, str_shaped ht.2, h1.2, fun D2 hD2 hf2 => ⟨_, .refl, hrest _ _ ?_⟩⟩
  · show D1.ins.length < 1000000; omega
  clear hrest
  have h2 := sv_put_any (K := K) hD2 h1.1 h1.2 (str_shaped ht.2)
  refine xs_drop ?_
  refine xe_methP (xe_vr rfl ⟨rfl, ⟨_, _, by rw [← sv_cls T]; exact sv_at.r, (sc_meth C2).2.2.2.1⟩, ?_⟩)
  repeat array_get_dec
  exact ⟨_, .emp, le_emp, sv, n + 2, C2.tx, dn, un, rfl, ⟨_, _, kp, _, C2, M, rfl, ⟨D2, L, _, rfl, h2⟩, e2, rfl, rfl, rfl, e3⟩, fun o' so => ⟨_, le_emp', q _ so⟩⟩
theorem ok_Server___init__ (T : Txt K mg) (G_Keeper_computed : FnOk P w K mg base CX0 1 T.a_Keeper_computed T.fd_Keeper_computed ["self"] (spD K (S_Keeper_computed K))) (G_need_module : FnOk P w K mg base (L2.CX P w) 6 T.a_need_module T.fd_need_module ["name", "text"] (spD K (S_need_module K))) (G_new_keeper : FnOk P w K mg base CX0 3 T.a_new_keeper T.fd_new_keeper ["program"] (spD K (S_new_keeper K))) : FnOk P w K mg base (L2.CX P w) 7 T.a_Server___init__ T.fd_Server___init__ ["self", "program"] (spD K (S_Server___init__ K)) := by
  refine fnDX T.F_Server___init__ sc_Server___init__ ?len fun cdv A outer s H E hr => ?body
  case len => intro dvs o R X h; first | (obtain ⟨rfl, _⟩ := h; rfl) | (obtain ⟨_, rfl, _⟩ := h; rfl) | (obtain ⟨_, _, rfl, _⟩ := h; rfl) | (obtain ⟨_, _, _, rfl, _⟩ := h; rfl) | (obtain ⟨_, _, _, _, rfl, _⟩ := h; rfl) | (obtain ⟨_, _, _, _, _, rfl, _⟩ := h; rfl) | (obtain ⟨_, _, _, _, _, _, rfl, _⟩ := h; rfl) | (obtain ⟨_, _, _, _, _, _, _, rfl, _⟩ := h; rfl) | (obtain ⟨_, _, _, _, _, _, _, _, rfl, _⟩ := h; rfl) | (obtain ⟨_, _, _, _, _, _, _, _, _, rfl, _⟩ := h; rfl) | (obtain ⟨_, _, _, _, _, _, _, _, _, _, rfl, _⟩ := h; rfl) | (obtain ⟨_, _, _, _, _, _, _, _, _, _, _, rfl, _⟩ := h; rfl) | (obtain ⟨_, _, _, _, _, _, _, _, _, _, _, _, rfl, _⟩ := h; rfl)
  have nd := sc_Server___init__.nd
  have hu := hu_of hr
  refine ⟨_, (pss_cons (ps_if (pt_cmpR (op_gt) (pe_callB (DL.call_lenDc) (by rfl) T.n_len (by decide +kernel) (pa_cons (pv 1) pa_nil)) (pe_glob (v := .int 6) (by rfl) (T.c_MOST_MODULES).choose_spec ⟨_, rfl⟩) (nomark _)) (pss_one (DL.ps_raiseC rfl (takes_of rfl rfl rfl rfl) (pmk_own PySem.F.excBase_ValueError T.x_InvalidEdit T.g_InvalidEdit T.k_InvalidEdit (raises_own T.b_InvalidEdit T.t_InvalidEdit) (by rfl)))) pss_nil) (pss_cons (ps_for (passes_of rfl) rfl (pi_keys (pv 1)) (pg_name (i := 2) nd rfl (Or.inl rfl)) (pss_one (ps_expr (pe_callS G_need_module (hr.mono (by first | decide | omega)) (by rfl) T.g_need_module T.F_need_module.kp T.b_need_module (fun σ => passAt (takes_of rfl rfl rfl rfl) σ) (pa_cons (pv 2) (pa_cons (pe_dget hu (pv 1) (pv 2) (fun _ _ => rfl)) pa_nil)))))) (pss_cons (DL.ps_fldK (K := K) rfl (pv 0) (pe_callTy (DL.call_dictDc) (by rfl) T.n_dict (by decide +kernel) (pa_cons (pv 1) pa_nil)) rfl) (pss_cons (DL.ps_fldK (K := K) rfl (pv 0) (pe_call G_new_keeper (hr.mono (by first | decide | omega)) (by rfl) T.g_new_keeper T.F_new_keeper.kp T.b_new_keeper .nil pass0 (pa_cons (pv 1) pa_nil)) rfl) (pss_cons (ps_expr (pe_meth0 (DL.pe_fldK (K := K) rfl (pv 0) rfl) T.cl_Keeper T.m_Keeper_computed G_Keeper_computed (hr.mono (by first | decide | omega)) T.b_Keeper_computed .nil pass0)) (pss_cons (DL.ps_fldK (K := K) rfl (pv 0) (pe_lst pa_nil) rfl) (pss_one (DL.ps_fldK (K := K) rfl (pv 0) (pe_lst pa_nil) rfl)))))))), ?_⟩
  intro dvs o R X h
  have st : ∀ z, dvs = z → startD N_Server___init__.length dvs = startD 3 z := fun z e => by rw [e]; rfl
  obtain ⟨sv, dx, t, rfl, rfl, hT, hnm, q⟩ := h
  rw [st _ rfl]; clear st; simp only [startD, toSl, List.map_cons, List.map_nil, List.length_cons, List.length_nil, List.cons_append, List.nil_append, List.append_nil, Nat.reduceAdd, Nat.reduceSub, List.reduceReplicate, Nat.zero_add, List.replicate_zero, Nat.sub_self]
  have hz : sizeLine = 16777216 := sizeLine_eq
  have F := svF T
  have F2 := kpF T
  have h6 := hT.len
  refine xs_obj le_insC ?_
  repeat array_get_dec
  refine xc_lenDc rfl ?_
  rw [txD_len]
  repeat array_get_dec
  refine bs_d (fun c => by omega) fun c => helse _ _ (xs_next (hrest _ _ ?_))
  clear hthen helse hrest
  refine xs_seqH fun _ hrest => ?_
  refine xs_forDD (xe_vd rfl ⟨_, rfl, fun k ρ' o' => Hold (∃ x2, ρ' = [.raw (.ref sv), .val (dicD (txD t)), x2] ∧ o' = cOb [(sv, .ins (clsA K "Server") dx []), (dx, .own sv)] fun _ => True), hold ⟨_, rfl, rfl⟩, ?_, ?_⟩)
  · rintro k key d _ _ hk ⟨x2, rfl, rfl⟩
    unfold txD at hk
    rw [List.getElem?_map] at hk
    obtain ⟨p, hp, he⟩ := Option.map_eq_some_iff.mp hk
    cases he
    have hm := List.mem_of_getElem? hp
    have hg : getT t p.1 = some p.2 := getT_mem hT.nd hm
    refine xg_nd ?_
    refine xs_drop ?_
    refine xe_callS (xaf_cons (xf_vd rfl (hr_d ?_)))
    refine xaf_cons (xf_of (xe_ddget (xe_vd rfl ⟨_, rfl, xe_vd rfl ⟨trivial, tKey p, .str p.2, rfl, by rw [show tKey p = .inr p.1 from rfl, txD_val, hg]; rfl, ?_⟩⟩)))
    repeat array_get_dec
    exact ⟨p.1, p.2, rfl, (hnm p hm).1, hT.ok p hm, (hnm p hm).2, hold ⟨_, rfl, rfl⟩⟩
  rintro _ _ ⟨x2, rfl, rfl⟩
  refine hrest _ _ ?_
  clear hrest
  refine xs_seqH fun _ hrest => ?_
  refine xs_gf (a := sv) F.c F.t (xe_gcellD (xe_cb (xa_cons (xe_vd rfl (xa_nil ⟨trivial, xc_dictDc rfl ⟨_, rfl, fun p kvs hkv => ?_⟩⟩)))))
  refine (show HandR _ _ _ _ from ⟨rfl, dx, [], (at_cell (.head _)).r, by decide, fun u hu => ?_⟩)
  have hu : u = .ref p := hu
  subst hu
  refine ⟨_, (put_new (fun _ _ _ h => h)).pre ((le_tx (t := t)).and .refl), hrest _ _ ?_⟩
  clear hrest
  refine xs_seqH fun _ hrest => ?_
  refine xs_gf (a := sv) F.c F.k (xe_call ?_)
  repeat array_get_dec
  refine ⟨t, rfl, hT, fun kp ko hk => ?_⟩
  obtain ⟨D, L, kn, rfl, hn, hs⟩ := hk
  refine (show HandR _ _ _ _ from ⟨rfl, dx, _, (at_cell (.head _)).r, (by with_unfolding_all exact Nat.le_of_ble_eq_true rfl), fun u hu => ?_⟩)
  have hu : u = .ref kp := hu
  subst hu
  refine ⟨_, (put_at (l1 := []) (by trivial) (fun _ _ _ h => h) fun _ h _ => h).r, hrest _ _ ?_⟩
  clear hrest
  refine xs_seqH fun _ hrest => ?_
  refine xs_drop ?_
  refine xe_methP (xe_gf F.c F.k (xe_vr rfl ⟨rfl, (at_cell (.head _)).r, (by with_unfolding_all rfl), .any fun _ => .inl rfl, rfl, ⟨_, _, by rw [← kp_cls T]; exact (at_cell m_a).l, (by unfold KC.attrs; with_unfolding_all rfl)⟩, ?_⟩))
  repeat array_get_dec
  refine ⟨_, _, .refl, kp, D, L, kn, rfl, rfl, fun p2 => ⟨_, .refl, hrest _ _ ?_⟩⟩
  clear hrest
  refine xs_seqH fun _ hrest => ?_
  refine xs_gf (a := sv) F.c F.d (xe_gnewL fun p3 => (show HandR _ _ _ _ from ⟨rfl, dx, _, (at_cell (.head _)).r.r, (by with_unfolding_all exact Nat.le_of_ble_eq_true rfl), fun u hu => ?_⟩))
  have hu : u = .ref p3 := hu
  subst hu
  refine ⟨_, ((put_new (fun _ _ _ h => h)).r).pre and_swap2, hrest _ _ ?_⟩
  clear hrest
  refine xs_gf (a := sv) F.c F.u (xe_gnewL fun p4 => (show HandR _ _ _ _ from ⟨rfl, dx, _, (at_cell (.head _)).r.r, (by with_unfolding_all exact Nat.le_of_ble_eq_true rfl), fun u hu => ?_⟩))
  have hu : u = .ref p4 := hu
  subst hu
  have lel : Ob.le (cOb ((sv, HO.ins (clsA K "Server") dx (putF "_undone" (.ref p4) (putF "_done" (.ref p3) (putF "_keeper" (.ref kp) (putF "_texts" (.ref p) []))))) :: ((dx, HO.own sv) :: [(p, HO.dK (txK t))] ++ [(p3, .lst [])] ++ [(p4, .lst [])])) fun _ => True) (svOb K sv ⟨dx, p, kp, p3, p4, t, [], []⟩ [] [] []) := by
    have e : putF "_undone" (.ref p4) (putF "_done" (.ref p3) (putF "_keeper" (.ref kp) (putF "_texts" (.ref p) []))) = SC.attrs ⟨dx, p, kp, p3, p4, t, [], []⟩ := by unfold SC.attrs; with_unfolding_all rfl
    rw [e]
    exact le_perm (List.Perm.refl _) sc_mono fun G _ => ⟨.nil, .nil⟩
  refine ⟨_, (((put_new (fun _ _ _ h => h)).r).pre and_swap2).le ((Ob.le.refl).and lel), q _ ⟨_, _, kp, _, _, [], rfl, ⟨_, _, kn, rfl, hn, hs⟩, rfl, rfl, rfl, rfl, rfl, rfl⟩⟩
theorem ok__law_snippet (T : Txt K mg) (n : Nat) (G__law_take : FnOk P w K mg base CX0 1 T.a__law_take T.fd__law_take ["_law_tape_here", "_law_many"] (spD K (S__law_take K))) : FnOk P w K mg base CX0 2 T.a__law_snippet T.fd__law_snippet ["_law_tape_here"] (spD K (S__law_snippet9 K)) := by
  refine fnD T.F__law_snippet sc__law_snippet ?len fun cdv A outer s H E hr => ?body
  case len => intro dvs o R X h; first | (obtain ⟨rfl, _⟩ := h; rfl) | (obtain ⟨_, rfl, _⟩ := h; rfl) | (obtain ⟨_, _, rfl, _⟩ := h; rfl) | (obtain ⟨_, _, _, rfl, _⟩ := h; rfl) | (obtain ⟨_, _, _, _, rfl, _⟩ := h; rfl) | (obtain ⟨_, _, _, _, _, rfl, _⟩ := h; rfl) | (obtain ⟨_, _, _, _, _, _, rfl, _⟩ := h; rfl) | (obtain ⟨_, _, _, _, _, _, _, rfl, _⟩ := h; rfl) | (obtain ⟨_, _, _, _, _, _, _, _, rfl, _⟩ := h; rfl) | (obtain ⟨_, _, _, _, _, _, _, _, _, rfl, _⟩ := h; rfl) | (obtain ⟨_, _, _, _, _, _, _, _, _, _, rfl, _⟩ := h; rfl) | (obtain ⟨_, _, _, _, _, _, _, _, _, _, _, rfl, _⟩ := h; rfl) | (obtain ⟨_, _, _, _, _, _, _, _, _, _, _, _, rfl, _⟩ := h; rfl)
  have nd := sc__law_snippet.nd
  have hu := hu_of hr
  refine ⟨_, (pss_cons (ps_set (i := 1) nd rfl (Or.inr rfl) (pe_lst (pa_cons pe_str (pa_cons pe_str (pa_cons pe_str (pa_cons pe_str (pa_cons pe_str (pa_cons pe_str (pa_cons pe_str (pa_cons pe_str (pa_cons pe_str (pa_cons pe_str (pa_cons pe_str (pa_cons pe_str (pa_cons pe_str (pa_cons pe_str (pa_cons pe_str (pa_cons pe_str pa_nil)))))))))))))))))) (pss_cons (ps_set (i := 1) nd rfl (Or.inr rfl) (pe_op (DL.op_addK (K := K) rfl) (pv 1) (pe_lst (pa_cons pe_str (pa_cons pe_str (pa_cons pe_str (pa_cons pe_str (pa_cons pe_str (pa_cons pe_str (pa_cons pe_str (pa_cons pe_str (pa_cons pe_str (pa_cons pe_str (pa_cons pe_str (pa_cons pe_str (pa_cons pe_str (pa_cons pe_str pa_nil))))))))))))))))) (pss_one (ps_ret (DL.pe_bmK (K := K) rfl (pe_bm PySem.F.plainAttrs_str PySem.F.slot_str_join PySem.F.type_str_join (DL.mt_joinK (K := K) rfl) pe_str (pa_cons (pe_lc (own := [("_law_k", 2)]) (g := (gName 2)) (tt := tYes) (by rfl) nd (pi_range1 (by rfl) T.n_range (pa_cons (pe_call G__law_take (hr.mono (by first | decide | omega)) (by rfl) T.g__law_take T.F__law_take.kp T.b__law_take .nil pass0 (pa_cons (pv 0) (pa_cons pe_int pa_nil))) pa_nil)) (blkOk_by (own := [("_law_k", 2)]) (N := N__law_snippet) (sc := defScope s__law_snippet) (by decide +kernel)) (fun _ _ _ _ _ => (pg_name (i := 2) nd rfl (Or.inl rfl))) (fun _ _ _ _ _ => pts_nil) (fun _ _ _ _ _ => (pe_ix (DL.ix_K (K := K) rfl) (pv 1) (pe_call G__law_take (hr.mono (by first | decide | omega)) (by rfl) T.g__law_take T.F__law_take.kp T.b__law_take .nil pass0 (pa_cons (pv 0) (pa_cons pe_int pa_nil))) (fun _ _ => rfl)))) pa_nil))))))), ?_⟩
  intro dvs o R X h
  have st : ∀ z, dvs = z → startD N__law_snippet.length dvs = startD 3 z := fun z e => by rw [e]; rfl
  obtain ⟨τ, rfl, rfl, q⟩ := h
  rw [st _ rfl]; clear st; simp only [startD, toSl, List.map_cons, List.map_nil, List.length_cons, List.length_nil, List.cons_append, List.nil_append, List.append_nil, Nat.reduceAdd, Nat.reduceSub, List.reduceReplicate, Nat.zero_add, List.replicate_zero, Nat.sub_self]
  repeat array_get_dec
  refine xr_addL rfl rfl (nat_small rfl) ?_
  repeat array_get_dec
  generalize hps : ([PyData.str "def f9(", .str "data ", .str "f0", .str "x", .str "(", .str ")", .str ": Int", .str " = ", .str "1", .str " + ", .str "\n", .str "\n ", .str "# ", .str "(let x = ", .str " in ", .str ","] ++ [PyData.str "import main: ", .str "a", .str "D0", .str "g0", .str "T0", .str "Bool", .str "if ", .str " then ", .str " else ", .str ".x", .str " == ", .str "f1(", .str "q", .str " "]) = ps
  have all : ∀ k : Nat, k < 30 → ∃ s, ps[k]? = some (.str s) ∧ TextOk s 13 := by
    rw [← hps]
    intro k hk
    match k, hk with
    | 0, _ => exact ⟨_, rfl, textOk_of (by decide +kernel)⟩
    | 1, _ => exact ⟨_, rfl, textOk_of (by decide +kernel)⟩
    | 2, _ => exact ⟨_, rfl, textOk_of (by decide +kernel)⟩
    | 3, _ => exact ⟨_, rfl, textOk_of (by decide +kernel)⟩
    | 4, _ => exact ⟨_, rfl, textOk_of (by decide +kernel)⟩
    | 5, _ => exact ⟨_, rfl, textOk_of (by decide +kernel)⟩
    | 6, _ => exact ⟨_, rfl, textOk_of (by decide +kernel)⟩
    | 7, _ => exact ⟨_, rfl, textOk_of (by decide +kernel)⟩
    | 8, _ => exact ⟨_, rfl, textOk_of (by decide +kernel)⟩
    | 9, _ => exact ⟨_, rfl, textOk_of (by decide +kernel)⟩
    | 10, _ => exact ⟨_, rfl, textOk_of (by decide +kernel)⟩
    | 11, _ => exact ⟨_, rfl, textOk_of (by decide +kernel)⟩
    | 12, _ => exact ⟨_, rfl, textOk_of (by decide +kernel)⟩
    | 13, _ => exact ⟨_, rfl, textOk_of (by decide +kernel)⟩
    | 14, _ => exact ⟨_, rfl, textOk_of (by decide +kernel)⟩
    | 15, _ => exact ⟨_, rfl, textOk_of (by decide +kernel)⟩
    | 16, _ => exact ⟨_, rfl, textOk_of (by decide +kernel)⟩
    | 17, _ => exact ⟨_, rfl, textOk_of (by decide +kernel)⟩
    | 18, _ => exact ⟨_, rfl, textOk_of (by decide +kernel)⟩
    | 19, _ => exact ⟨_, rfl, textOk_of (by decide +kernel)⟩
    | 20, _ => exact ⟨_, rfl, textOk_of (by decide +kernel)⟩
    | 21, _ => exact ⟨_, rfl, textOk_of (by decide +kernel)⟩
    | 22, _ => exact ⟨_, rfl, textOk_of (by decide +kernel)⟩
    | 23, _ => exact ⟨_, rfl, textOk_of (by decide +kernel)⟩
    | 24, _ => exact ⟨_, rfl, textOk_of (by decide +kernel)⟩
    | 25, _ => exact ⟨_, rfl, textOk_of (by decide +kernel)⟩
    | 26, _ => exact ⟨_, rfl, textOk_of (by decide +kernel)⟩
    | 27, _ => exact ⟨_, rfl, textOk_of (by decide +kernel)⟩
    | 28, _ => exact ⟨_, rfl, textOk_of (by decide +kernel)⟩
    | 29, _ => exact ⟨_, rfl, textOk_of (by decide +kernel)⟩
    | k + 30, h => exact absurd h (by omega)
  clear hps
  refine xe_lcR (xa_cons (xe_call ?_))
  repeat array_get_dec
  refine ⟨τ, 4, rfl, rfl, by decide, by decide, fun n n0 n6 => ?_⟩
  repeat array_get_dec
  refine ⟨by omega, by omega, noow_cons ⟨rfl, fun _ z => nomatch z⟩ noow_nil, fun k acc o => o = tapeOb K τ ∧ ∃ ys : List Str, acc = ys.map .str ∧ ys.length = k ∧ ∀ s ∈ ys, TextOk s 13, ⟨rfl, [], rfl, rfl, fun _ h => nomatch h⟩, ?_, ?_⟩
  · rintro k acc _ hk hl ⟨rfl, ys, rfl, hy, hs⟩
    refine ⟨_, bt_name, ?_⟩
    unfold LcTurn
    repeat array_get_dec
    refine ⟨τ, 30, rfl, rfl, by decide, by decide, fun m m0 m30 => ?_⟩
    repeat array_get_dec
    obtain ⟨s, h1, h2⟩ := all m.toNat (by omega)
    refine xr_ixL rfl (atD_of (j := m.toNat) (show m = (m.toNat : Int) by omega) h1) ?_
    repeat array_get_dec
    refine ⟨?_, rfl, ys ++ [s], by simp, by rw [List.length_append, hy]; rfl, fun z hz => ?_⟩
    · refine nat_small (Nat.ble_eq.mpr ?_)
      rw [List.length_append, List.length_map, hy, List.length_singleton]
      omega
    · rcases List.mem_append.mp hz with hz | hz
      · exact hs z hz
      · rw [List.mem_singleton.mp hz]; exact h2
  · rintro acc _ hl ⟨rfl, ys, rfl, hy, hs⟩
    repeat array_get_dec
    have hy5 : ys.length ≤ 5 := by omega
    refine xm_join rfl (join_room hs hy5 (by decide)) ?_
    repeat array_get_dec
    have tk := TextOk.join hs hy5
    exact q _ (List.all_eq_true.mpr fun c hc => okB_okc (tk.ok c hc)) (Nat.le_trans tk.len (by decide))
theorem ok__law_edit_of (T : Txt K mg) (n : Nat) (G__law_take : FnOk P w K mg base CX0 1 T.a__law_take T.fd__law_take ["_law_tape_here", "_law_many"] (spD K (S__law_take K))) (G__law_snippet : FnOk P w K mg base CX0 2 T.a__law_snippet T.fd__law_snippet ["_law_tape_here"] (spD K (S__law_snippet9 K))) : FnOk P w K mg base CX0 3 T.a__law_edit_of T.fd__law_edit_of ["_law_tape_here", "_law_text"] (spD K (S__law_edit_of K)) := by
  refine fnD T.F__law_edit_of sc__law_edit_of ?len fun cdv A outer s H E hr => ?body
  case len => intro dvs o R X h; first | (obtain ⟨rfl, _⟩ := h; rfl) | (obtain ⟨_, rfl, _⟩ := h; rfl) | (obtain ⟨_, _, rfl, _⟩ := h; rfl) | (obtain ⟨_, _, _, rfl, _⟩ := h; rfl) | (obtain ⟨_, _, _, _, rfl, _⟩ := h; rfl) | (obtain ⟨_, _, _, _, _, rfl, _⟩ := h; rfl) | (obtain ⟨_, _, _, _, _, _, rfl, _⟩ := h; rfl) | (obtain ⟨_, _, _, _, _, _, _, rfl, _⟩ := h; rfl) | (obtain ⟨_, _, _, _, _, _, _, _, rfl, _⟩ := h; rfl) | (obtain ⟨_, _, _, _, _, _, _, _, _, rfl, _⟩ := h; rfl) | (obtain ⟨_, _, _, _, _, _, _, _, _, _, rfl, _⟩ := h; rfl) | (obtain ⟨_, _, _, _, _, _, _, _, _, _, _, rfl, _⟩ := h; rfl) | (obtain ⟨_, _, _, _, _, _, _, _, _, _, _, _, rfl, _⟩ := h; rfl)
  have nd := sc__law_edit_of.nd
  have hu := hu_of hr
  refine ⟨_, (pss_cons (ps_set (i := 2) nd rfl (Or.inl rfl) (pe_call G__law_take (hr.mono (by first | decide | omega)) (by rfl) T.g__law_take T.F__law_take.kp T.b__law_take .nil pass0 (pa_cons (pv 0) (pa_cons (pe_op (DL.op_addK (K := K) rfl) (pe_callB (DL.call_lenK (K := K) rfl) (by rfl) T.n_len (by decide +kernel) (pa_cons (pv 1) pa_nil)) pe_int) pa_nil)))) (pss_cons (ps_set (i := 3) nd rfl (Or.inl rfl) (pe_callB (call_min2 rfl) (by rfl) T.n_min (by decide +kernel) (pa_cons (pe_callB (DL.call_lenK (K := K) rfl) (by rfl) T.n_len (by decide +kernel) (pa_cons (pv 1) pa_nil)) (pa_cons (pe_op (DL.op_addK (K := K) rfl) (pv 2) (pe_ix (DL.ix_K (K := K) rfl) (pe_lst (pa_cons pe_int (pa_cons pe_int (pa_cons pe_int (pa_cons pe_int (pa_cons pe_int pa_nil)))))) (pe_call G__law_take (hr.mono (by first | decide | omega)) (by rfl) T.g__law_take T.F__law_take.kp T.b__law_take .nil pass0 (pa_cons (pv 0) (pa_cons pe_int pa_nil))) (fun _ _ => rfl))) pa_nil)))) (pss_one (ps_ret (pe_tup (pa_cons (pv 2) (pa_cons (pv 3) (pa_cons (pe_call G__law_snippet (hr.mono (by first | decide | omega)) (by rfl) T.g__law_snippet T.F__law_snippet.kp T.b__law_snippet .nil pass0 (pa_cons (pv 0) pa_nil)) pa_nil)))))))), ?_⟩
  intro dvs o R X h
  have st : ∀ z, dvs = z → startD N__law_edit_of.length dvs = startD 4 z := fun z e => by rw [e]; rfl
  obtain ⟨τ, t, rfl, rfl, hl, q⟩ := h
  rw [st _ rfl]; clear st; simp only [startD, toSl, List.map_cons, List.map_nil, List.length_cons, List.length_nil, List.cons_append, List.nil_append, List.append_nil, Nat.reduceAdd, Nat.reduceSub, List.reduceReplicate, Nat.zero_add, List.replicate_zero, Nat.sub_self]
  have hz : sizeLine = 16777216 := sizeLine_eq
  repeat array_get_dec
  refine xc_lenS (by omega) ?_
  repeat array_get_dec
  refine ⟨τ, _, rfl, rfl, by omega, by omega, fun s s0 s1 => ?_⟩
  repeat array_get_dec
  refine xc_lenS (by omega) ?_
  repeat array_get_dec
  refine ⟨τ, 5, rfl, rfl, by decide, by decide, fun i i0 i5 => ?_⟩
  repeat array_get_dec
  obtain ⟨w, hw⟩ : ∃ w : Int, ([PyData.int 0, .int 1, .int 2, .int 5, .int 12] : List PyData)[i.toNat]? = some (.int w) := by
    have : i = 0 ∨ i = 1 ∨ i = 2 ∨ i = 3 ∨ i = 4 := by omega
    rcases this with rfl | rfl | rfl | rfl | rfl <;> exact ⟨_, rfl⟩
  refine xr_ixL rfl (atD_of (j := i.toNat) (show i = (i.toNat : Int) by omega) hw) ?_
  repeat array_get_dec
  refine ⟨τ, rfl, rfl, fun n h1 h2 => ?_⟩
  repeat array_get_dec
  exact q _ _ n h1 h2
theorem ok__law_do (T : Txt K mg) (G_Server_edit : FnOk P w K mg base (L2.CX P w) 5 T.a_Server_edit T.fd_Server_edit ["self", "module", "edit"] (spD K (S_Server_edit K))) (G_Server_open_file : FnOk P w K mg base (L2.CX P w) 7 T.a_Server_open_file T.fd_Server_open_file ["self", "module", "text"] (spD K (S_Server_open_file K))) (G_Server_redo : FnOk P w K mg base (L2.CX P w) 5 T.a_Server_redo T.fd_Server_redo ["self"] (spD K (S_Server_redo K))) (G_Server_undo : FnOk P w K mg base (L2.CX P w) 5 T.a_Server_undo T.fd_Server_undo ["self"] (spD K (S_Server_undo K))) : FnOk P w K mg base CX0 8 T.a__law_do T.fd__law_do ["_law_server", "_law_act_here"] (spD K (S__law_do K)) := by
  refine fnD T.F__law_do sc__law_do ?len fun cdv A outer s H E hr => ?body
  case len => intro dvs o R X h; first | (obtain ⟨rfl, _⟩ := h; rfl) | (obtain ⟨_, rfl, _⟩ := h; rfl) | (obtain ⟨_, _, rfl, _⟩ := h; rfl) | (obtain ⟨_, _, _, rfl, _⟩ := h; rfl) | (obtain ⟨_, _, _, _, rfl, _⟩ := h; rfl) | (obtain ⟨_, _, _, _, _, rfl, _⟩ := h; rfl) | (obtain ⟨_, _, _, _, _, _, rfl, _⟩ := h; rfl) | (obtain ⟨_, _, _, _, _, _, _, rfl, _⟩ := h; rfl) | (obtain ⟨_, _, _, _, _, _, _, _, rfl, _⟩ := h; rfl) | (obtain ⟨_, _, _, _, _, _, _, _, _, rfl, _⟩ := h; rfl) | (obtain ⟨_, _, _, _, _, _, _, _, _, _, rfl, _⟩ := h; rfl) | (obtain ⟨_, _, _, _, _, _, _, _, _, _, _, rfl, _⟩ := h; rfl) | (obtain ⟨_, _, _, _, _, _, _, _, _, _, _, _, rfl, _⟩ := h; rfl)
  have nd := sc__law_do.nd
  have hu := hu_of hr
  refine ⟨_, (pss_cons (DL.ps_tryClz (K := K) rfl rfl rfl nd takes0 (fun W pn xe tk po => (pss_one (ps_if (pt_cmpR (DL.op_eqK (K := K) rfl hr.units) (pe_ix (DL.ix_K (K := K) rfl) (pv 1) pe_int (fun _ _ => rfl)) pe_str (nomark _)) (pss_one (ps_expr (DL.pe_methW (pv 0) T.cl_Server T.m_Server_edit G_Server_edit (hr.mono (by first | decide | omega)) T.b_Server_edit (fun σ => passAt tk σ) (pa_cons (pe_ix (DL.ix_K (K := K) rfl) (pv 1) pe_int (fun _ _ => rfl)) (pa_cons (pe_ix (DL.ix_K (K := K) rfl) (pv 1) pe_int (fun _ _ => rfl)) pa_nil))))) (pss_one (ps_if (pt_cmpR (DL.op_eqK (K := K) rfl hr.units) (pe_ix (DL.ix_K (K := K) rfl) (pv 1) pe_int (fun _ _ => rfl)) pe_str (nomark _)) (pss_one (ps_expr (DL.pe_methW0 (pv 0) T.cl_Server T.m_Server_undo G_Server_undo (hr.mono (by first | decide | omega)) T.b_Server_undo (fun σ => passAt tk σ)))) (pss_one (ps_if (pt_cmpR (DL.op_eqK (K := K) rfl hr.units) (pe_ix (DL.ix_K (K := K) rfl) (pv 1) pe_int (fun _ _ => rfl)) pe_str (nomark _)) (pss_one (ps_expr (DL.pe_methW0 (pv 0) T.cl_Server T.m_Server_redo G_Server_redo (hr.mono (by first | decide | omega)) T.b_Server_redo (fun σ => passAt tk σ)))) (pss_one (ps_expr (DL.pe_methW (pv 0) T.cl_Server T.m_Server_open_file G_Server_open_file (hr.mono (by first | decide | omega)) T.b_Server_open_file (fun σ => passAt tk σ) (pa_cons (pe_ix (DL.ix_K (K := K) rfl) (pv 1) pe_int (fun _ _ => rfl)) (pa_cons pe_str pa_nil)))))))))))) (.as (i := 2) rfl rfl ⟨by rfl, by decide, .inl T.g_NothingToUndo⟩ (fun a oe cls d pn hz hf => (pss_one (ps_ret (pe_ifExp (pt_val (pe_callB (DL.call_isEx (K := K) rfl hz hf) (by rfl) T.n_isinstance (by decide +kernel) (pa_cons (pv 2) (pa_cons (pe_glob (v := .ref T.e_ServerError) (by rfl) T.g_ServerError rfl) pa_nil)))) pe_str pe_str)))) (.only ⟨by rfl, by decide, .inl T.g_InvalidEdit⟩ (fun a oe cls d pn hz hf => (pss_one (ps_ret pe_str))) (.only ⟨by rfl, by decide, .inl T.g_UnknownFile⟩ (fun a oe cls d pn hz hf => (pss_one (ps_ret pe_str))) .nil)))) (pss_one (ps_ret pe_str))), ?_⟩
  intro dvs o R X h
  have st : ∀ z, dvs = z → startD N__law_do.length dvs = startD 3 z := fun z e => by rw [e]; rfl
  obtain ⟨sv, n, k, B, cur, dn, un, past, fut, a, rfl, ⟨aD, aU, sa⟩, hn, hdn, hun, hB, hR, ha, q⟩ := h
  rw [st _ rfl]; clear st; simp only [startD, toSl, List.map_cons, List.map_nil, List.length_cons, List.length_nil, List.cons_append, List.nil_append, List.append_nil, Nat.reduceAdd, Nat.reduceSub, List.reduceReplicate, Nat.zero_add, List.replicate_zero, Nat.sub_self]
  have hz : sizeLine = 16777216 := sizeLine_eq
  have sa0 := sa
  obtain ⟨kp, ko, C, M, rfl, hk, hK, rfl, hD0, hU0, hld, hlu⟩ := sa
  cases a with
  | undo =>
    simp only [actD]
    refine xs_seqH fun _ hrest => ?_
    refine xs_tryClz (fun ex ρ' o' => ExN K "NothingToUndo" ex ∧ dn = [] ∧ ρ' = [.raw (.ref sv), .val (actD .undo), .no] ∧ o' = ko.and (svOb K sv C M dn un)) (fun W => ?_) ?_
    · repeat array_get_dec
      refine xr_ixT (atD_of (j := 0) rfl rfl) ?_
      repeat array_get_dec
      refine bs_d (fun c => absurd c (by decide +kernel)) fun _ => ?_
      repeat array_get_dec
      refine xr_ixT (atD_of (j := 0) rfl rfl) ?_
      repeat array_get_dec
      refine bs_d (fun _ => ?_) fun c => absurd rfl c
      repeat array_get_dec
      refine xe_methWP (xe_vr rfl ⟨rfl, ⟨_, _, by rw [← sv_cls T]; exact sv_at.r, (sc_meth C).2.2.2.2.2.2.2.2.1⟩, ?_⟩)
      repeat array_get_dec
      refine ⟨_, .emp, le_emp, sv, n, C.tx, dn, un, rfl, ⟨_, _, sa0⟩, by omega, by omega, hR.ok, fun hd ex he => ⟨_, le_emp', he, hd, rfl, rfl⟩, fun x ds hd => ?_⟩
      subst hd
      obtain ⟨t, p, ps, rfl, h1, h2, h3, h4, h5⟩ := hR.undo
      refine ⟨t, h1, h2, h3, fun o' so => ⟨_, le_emp', ?_⟩⟩
      repeat array_get_dec
      rw [h4] at so
      exact q o' _ _ (so.mono (by omega)) (by simp only [List.length_cons]; omega) (h5.mono (by omega))
    · rintro cls fs _ _ ⟨⟨hc, rfl⟩, hd, rfl, rfl⟩
      have hc : cls = .ref T.e_NothingToUndo := Option.some.inj (Option.some.inj (hc.symm.trans T.i_NothingToUndo))
      subst hc hd
      refine .takeAs (PySem.W.exm_ref T.b_NothingToUndo T.d_NothingToUndo T.t_NothingToUndo T.s_NothingToUndo_NothingToUndo) rfl fun a1 d hd => ?_
      repeat array_get_dec
      refine xc_isExR rfl (hd.mpr rfl) T.y_NothingToUndo (kit_ref T.d_ServerError T.t_ServerError T.s_NothingToUndo_ServerError) ?_
      repeat array_get_dec
      cases past with
      | cons _ _ => exact hR.c1.elim
      | nil => exact q _ _ _ (SvAt.mono ⟨_, _, sa0⟩ (by omega)) (by omega) (hR.mono (by omega))
  | redo =>
    simp only [actD]
    refine xs_seqH fun _ hrest => ?_
    refine xs_tryClz (fun ex ρ' o' => ExN K "NothingToUndo" ex ∧ un = [] ∧ ρ' = [.raw (.ref sv), .val (actD .redo), .no] ∧ o' = ko.and (svOb K sv C M dn un)) (fun W => ?_) ?_
    · repeat array_get_dec
      refine xr_ixT (atD_of (j := 0) rfl rfl) ?_
      repeat array_get_dec
      refine bs_d (fun c => absurd c (by decide +kernel)) fun _ => ?_
      repeat array_get_dec
      refine xr_ixT (atD_of (j := 0) rfl rfl) ?_
      repeat array_get_dec
      refine bs_d (fun c => absurd c (by decide +kernel)) fun _ => ?_
      repeat array_get_dec
      refine xr_ixT (atD_of (j := 0) rfl rfl) ?_
      repeat array_get_dec
      refine bs_d (fun _ => ?_) fun c => absurd rfl c
      repeat array_get_dec
      refine xe_methWP (xe_vr rfl ⟨rfl, ⟨_, _, by rw [← sv_cls T]; exact sv_at.r, (sc_meth C).2.2.2.2.2.2.2.2.2⟩, ?_⟩)
      repeat array_get_dec
      refine ⟨_, .emp, le_emp, sv, n, C.tx, dn, un, rfl, ⟨_, _, sa0⟩, by omega, by omega, hR.ok, fun hd ex he => ⟨_, le_emp', he, hd, rfl, rfl⟩, fun x ds hd => ?_⟩
      subst hd
      obtain ⟨t, p, ps, rfl, h1, h2, h3, h4, h5⟩ := hR.redo
      refine ⟨t, h1, h2, h3, fun o' so => ⟨_, le_emp', ?_⟩⟩
      repeat array_get_dec
      rw [h4] at so
      exact q o' _ _ (so.mono (by omega)) (by simp only [List.length_cons]; omega) (h5.mono (by omega))
    · rintro cls fs _ _ ⟨⟨hc, rfl⟩, hd, rfl, rfl⟩
      have hc : cls = .ref T.e_NothingToUndo := Option.some.inj (Option.some.inj (hc.symm.trans T.i_NothingToUndo))
      subst hc hd
      refine .takeAs (PySem.W.exm_ref T.b_NothingToUndo T.d_NothingToUndo T.t_NothingToUndo T.s_NothingToUndo_NothingToUndo) rfl fun a1 d hd => ?_
      repeat array_get_dec
      refine xc_isExR rfl (hd.mpr rfl) T.y_NothingToUndo (kit_ref T.d_ServerError T.t_ServerError T.s_NothingToUndo_ServerError) ?_
      repeat array_get_dec
      cases fut with
      | cons _ _ => exact hR.c2.elim
      | nil => exact q _ _ _ (SvAt.mono ⟨_, _, sa0⟩ (by omega)) (by omega) (hR.mono (by omega))
  | opn m =>
    simp only [actD]
    obtain ⟨hk5, hm⟩ := ha
    obtain ⟨m', g1, g2, g3, g4, g5, g6, _⟩ := nm5_ok k hR.k2.1 hk5
    obtain rfl : m' = m := by rw [g1] at hm; cases hm; rfl
    obtain ⟨hno, hl6, hR2⟩ := hR.opn hk5 hm
    refine xs_seqH fun _ hrest => ?_
    refine xs_tryClz (fun _ _ _ => False) (fun W => ?_) fun _ _ _ _ z => z.elim
    repeat array_get_dec
    refine xr_ixT (atD_of (j := 0) rfl rfl) ?_
    repeat array_get_dec
    refine bs_d (fun c => absurd c (by decide +kernel)) fun _ => ?_
    repeat array_get_dec
    refine xr_ixT (atD_of (j := 0) rfl rfl) ?_
    repeat array_get_dec
    refine bs_d (fun c => absurd c (by decide +kernel)) fun _ => ?_
    repeat array_get_dec
    refine xr_ixT (atD_of (j := 0) rfl rfl) ?_
    repeat array_get_dec
    refine bs_d (fun c => absurd c (by decide +kernel)) fun _ => ?_
    repeat array_get_dec
    refine xe_methWP (xe_vr rfl ⟨rfl, ⟨_, _, by rw [← sv_cls T]; exact sv_at.r, (sc_meth C).2.2.2.2.1⟩, ?_⟩)
    repeat array_get_dec
    refine xr_ixT (atD_of (j := 1) rfl rfl) ?_
    repeat array_get_dec
    refine ⟨_, .emp, le_emp, sv, n, C.tx, dn, un, m', "", rfl, ⟨_, _, sa0⟩, by omega, hR.ok, hl6, g2, hno, g3, ⟨Nat.zero_le _, rfl⟩, g4, fun o' so => ⟨_, le_emp', ?_⟩⟩
    repeat array_get_dec
    exact q o' _ _ so (by simp) (hR2.mono (by omega))
  | edit x =>
    simp only [actD]
    obtain ⟨hxo, hxl⟩ := ha
    refine xs_seqH fun _ hrest => ?_
    refine xs_tryClz (fun ex ρ' o' => (ExN K "UnknownFile" ex ∧ getT C.tx x.m = none ∨ ExN K "InvalidEdit" ex ∧ ∃ t, getT C.tx x.m = some t ∧ ¬ Fits t x.s x.e x.n) ∧ ρ' = [.raw (.ref sv), .val (actD (.edit x)), .no] ∧ o' = ko.and (svOb K sv C M dn un)) (fun W => ?_) ?_
    · repeat array_get_dec
      refine xr_ixT (atD_of (j := 0) rfl rfl) ?_
      repeat array_get_dec
      refine bs_d (fun _ => ?_) fun c => absurd rfl c
      repeat array_get_dec
      refine xe_methWP (xe_vr rfl ⟨rfl, ⟨_, _, by rw [← sv_cls T]; exact sv_at.r, (sc_meth C).2.2.2.2.2.2.2.1⟩, ?_⟩)
      repeat array_get_dec
      refine xr_ixT (atD_of (j := 1) rfl rfl) ?_
      repeat array_get_dec
      refine xr_ixT (atD_of (j := 2) rfl rfl) ?_
      repeat array_get_dec
      refine ⟨_, .emp, le_emp, sv, n, C.tx, dn, un, x, rfl, ⟨_, _, sa0⟩, by omega, by omega, hR.ok, by omega, fun hno ex he => ⟨_, le_emp', .inl ⟨he, hno⟩, rfl, rfl⟩, fun t ht => ⟨fun hf ex he => ⟨_, le_emp', .inr ⟨he, t, ht, hf⟩, rfl, rfl⟩, fun hf o' so => ⟨_, le_emp', ?_⟩⟩⟩
      repeat array_get_dec
      have e : kstep C.tx past fut (.edit x) = ⟨"done", putT C.tx x.m (apS t x), C.tx :: past, []⟩ := by
        show kEdit _ _ _ _ (getT C.tx x.m) = _
        rw [ht]
        exact if_pos ⟨hf.1, hf.2.1, hf.2.2.1⟩
      rw [e] at q
      exact q o' _ _ (so.mono (by omega)) (by simp only [List.length_cons, List.length_nil]; omega) ((hR.edit ht hf).mono (by omega))
    · rintro cls fs _ _ ⟨⟨⟨hc, rfl⟩, hno⟩ | ⟨⟨hc, rfl⟩, t, ht, hf⟩, rfl, rfl⟩
      · have hc : cls = .ref T.e_UnknownFile := Option.some.inj (Option.some.inj (hc.symm.trans T.i_UnknownFile))
        subst hc
        refine .skip (PySem.W.exm_ref T.b_NothingToUndo T.d_NothingToUndo T.t_NothingToUndo T.n_UnknownFile_NothingToUndo) (.skip (PySem.W.exm_ref T.b_InvalidEdit T.d_InvalidEdit T.t_InvalidEdit T.n_UnknownFile_InvalidEdit) (.take (PySem.W.exm_ref T.b_UnknownFile T.d_UnknownFile T.t_UnknownFile T.s_UnknownFile_UnknownFile) fun a1 d hd => ?_))
        repeat array_get_dec
        have e : kstep C.tx past fut (.edit x) = ⟨"unknown", C.tx, past, fut⟩ := by
          show kEdit _ _ _ _ (getT C.tx x.m) = _
          rw [hno]
          rfl
        rw [e] at q
        exact q _ _ _ (SvAt.mono ⟨_, _, sa0⟩ (by omega)) (by omega) (hR.mono (by omega))
      · have hc : cls = .ref T.e_InvalidEdit := Option.some.inj (Option.some.inj (hc.symm.trans T.i_InvalidEdit))
        subst hc
        refine .skip (PySem.W.exm_ref T.b_NothingToUndo T.d_NothingToUndo T.t_NothingToUndo T.n_InvalidEdit_NothingToUndo) (.take (PySem.W.exm_ref T.b_InvalidEdit T.d_InvalidEdit T.t_InvalidEdit T.s_InvalidEdit_InvalidEdit) fun a1 d hd => ?_)
        repeat array_get_dec
        have hb : t.length ≤ B := by
          have h0 := ht
          unfold getT at h0
          obtain ⟨p, hp, hpt⟩ := Option.map_eq_some_iff.mp h0
          rw [← hpt]
          exact hR.b C.tx (.head _) p (getA_mem hp).1
        have e : kstep C.tx past fut (.edit x) = ⟨"invalid", C.tx, past, fut⟩ := by
          show kEdit _ _ _ _ (getT C.tx x.m) = _
          rw [ht]
          exact if_neg fun z => hf ⟨z.1, z.2.1, z.2.2, hxo, by omega⟩
        rw [e] at q
        exact q _ _ _ (SvAt.mono ⟨_, _, sa0⟩ (by omega)) (by omega) (hR.mono (by omega))
theorem ok__law_expected (T : Txt K mg)  : FnOk P w K mg base CX0 1 T.a__law_expected T.fd__law_expected ["_law_known", "_law_act_here"] (spD K (S__law_expected K)) := by
  refine fnD T.F__law_expected sc__law_expected ?len fun cdv A outer s H E hr => ?body
  case len => intro dvs o R X h; first | (obtain ⟨rfl, _⟩ := h; rfl) | (obtain ⟨_, rfl, _⟩ := h; rfl) | (obtain ⟨_, _, rfl, _⟩ := h; rfl) | (obtain ⟨_, _, _, rfl, _⟩ := h; rfl) | (obtain ⟨_, _, _, _, rfl, _⟩ := h; rfl) | (obtain ⟨_, _, _, _, _, rfl, _⟩ := h; rfl) | (obtain ⟨_, _, _, _, _, _, rfl, _⟩ := h; rfl) | (obtain ⟨_, _, _, _, _, _, _, rfl, _⟩ := h; rfl) | (obtain ⟨_, _, _, _, _, _, _, _, rfl, _⟩ := h; rfl) | (obtain ⟨_, _, _, _, _, _, _, _, _, rfl, _⟩ := h; rfl) | (obtain ⟨_, _, _, _, _, _, _, _, _, _, rfl, _⟩ := h; rfl) | (obtain ⟨_, _, _, _, _, _, _, _, _, _, _, rfl, _⟩ := h; rfl) | (obtain ⟨_, _, _, _, _, _, _, _, _, _, _, _, rfl, _⟩ := h; rfl)
  have nd := sc__law_expected.nd
  have hu := hu_of hr
  refine ⟨_, (pss_cons (ps_set (i := 2) nd rfl (Or.inl rfl) (pe_ix (DL.ix_K (K := K) rfl) (pe_dget hu (pv 0) pe_str (fun _ _ => rfl)) (pe_un un_neg pe_int) (fun _ _ => rfl))) (pss_cons (ps_if (pt_cmpR (DL.op_eqK (K := K) rfl hr.units) (pe_ix (DL.ix_K (K := K) rfl) (pv 1) pe_int (fun _ _ => rfl)) pe_str (nomark _)) (pss_cons (ps_if (pt_cmpR (DL.op_eqK (K := K) rfl hr.units) (pe_callB (DL.call_lenK (K := K) rfl) (by rfl) T.n_len (by decide +kernel) (pa_cons (pe_dget hu (pv 0) pe_str (fun _ _ => rfl)) pa_nil)) pe_int (nomark _)) (pss_one (ps_ret pe_str)) pss_nil) (pss_cons (ps_expr (DL.pe_bmK (K := K) rfl (pe_bm PySem.F.plainAttrs_list PySem.F.slot_list_append PySem.F.type_list_append mt_append (pe_dget hu (pv 0) pe_str (fun _ _ => rfl)) (pa_cons (DL.pe_bm0K (K := K) rfl (pe_bm0 PySem.F.plainAttrs_list PySem.F.slot_list_pop PySem.F.type_list_pop mt_pop (pe_dget hu (pv 0) pe_str (fun _ _ => rfl)))) pa_nil)))) (pss_one (ps_ret pe_str)))) pss_nil) (pss_cons (ps_if (pt_cmpR (DL.op_eqK (K := K) rfl hr.units) (pe_ix (DL.ix_K (K := K) rfl) (pv 1) pe_int (fun _ _ => rfl)) pe_str (nomark _)) (pss_cons (ps_if (pt_cmpR (DL.op_eqE (K := K) rfl hu) (pe_dget hu (pv 0) pe_str (fun _ _ => rfl)) (pe_lst pa_nil) (nomark _)) (pss_one (ps_ret pe_str)) pss_nil) (pss_cons (ps_expr (DL.pe_bmK (K := K) rfl (pe_bm PySem.F.plainAttrs_list PySem.F.slot_list_append PySem.F.type_list_append mt_append (pe_dget hu (pv 0) pe_str (fun _ _ => rfl)) (pa_cons (DL.pe_bm0K (K := K) rfl (pe_bm0 PySem.F.plainAttrs_list PySem.F.slot_list_pop PySem.F.type_list_pop mt_pop (pe_dget hu (pv 0) pe_str (fun _ _ => rfl)))) pa_nil)))) (pss_one (ps_ret pe_str)))) pss_nil) (pss_cons (ps_set (i := 3) nd rfl (Or.inl rfl) (pe_callTy (DL.call_dictDc) (by rfl) T.n_dict (by decide +kernel) (pa_cons (pv 2) pa_nil))) (pss_cons (ps_if (pt_cmpR (DL.op_eqK (K := K) rfl hr.units) (pe_ix (DL.ix_K (K := K) rfl) (pv 1) pe_int (fun _ _ => rfl)) pe_str (nomark _)) (pss_cons (ps_dput hu (pv 3) (pe_ix (DL.ix_K (K := K) rfl) (pv 1) pe_int (fun _ _ => rfl)) pe_str rfl) (pss_cons (ps_dput hu (pv 0) pe_str (pe_lst (pa_cons (DL.pe_frz (pv 3)) pa_nil)) rfl) (pss_cons (ps_dput hu (pv 0) pe_str (pe_lst pa_nil) rfl) (pss_one (ps_ret pe_str))))) pss_nil) (pss_cons (ps_if (pt_cmp (pc_dnotin hu (pe_ix (DL.ix_K (K := K) rfl) (pv 1) pe_int (fun _ _ => rfl)) (pv 2))) (pss_one (ps_ret pe_str)) pss_nil) (pss_cons (ps_asg (pe_ix (DL.ix_K (K := K) rfl) (pv 1) pe_int (fun _ _ => rfl)) (DL.pg_tupK (K := K) (n := 3) rfl (pg_tup (by rfl) (pgs_cons (pg_name (i := 4) nd rfl (Or.inl rfl)) (pgs_cons (pg_name (i := 5) nd rfl (Or.inl rfl)) (pgs_cons (pg_name (i := 6) nd rfl (Or.inl rfl)) pgs_nil)))))) (pss_cons (ps_set (i := 7) nd rfl (Or.inl rfl) (pe_dget hu (pv 2) (pe_ix (DL.ix_K (K := K) rfl) (pv 1) pe_int (fun _ _ => rfl)) (fun _ _ => rfl))) (pss_cons (ps_if (pt_not (DL.pt_chain3 (DL.op_leU) (DL.op_leU) (DL.op_leU) pe_int (pv 4) (pv 5) (pe_callB (DL.call_lenK (K := K) rfl) (by rfl) T.n_len (by decide +kernel) (pa_cons (pv 7) pa_nil)))) (pss_one (ps_ret pe_str)) pss_nil) (pss_cons (ps_dput hu (pv 3) (pe_ix (DL.ix_K (K := K) rfl) (pv 1) pe_int (fun _ _ => rfl)) (pe_op (DL.op_addK (K := K) rfl) (pe_op (DL.op_addK (K := K) rfl) (pe_slice (DL.sl_K (K := K) rfl) (pv 7) po_none (po_some (pv 4))) (pv 6)) (pe_slice (DL.sl_K (K := K) rfl) (pv 7) (po_some (pv 5)) po_none)) rfl) (pss_cons (ps_expr ((DL.pe_bmK (K := K) rfl (pe_bm PySem.F.plainAttrs_list PySem.F.slot_list_append PySem.F.type_list_append mt_append (pe_dget hu (pv 0) pe_str (fun _ _ => rfl)) (pa_cons (DL.pe_frz (pv 3)) pa_nil))))) (pss_cons (ps_dput hu (pv 0) pe_str (pe_lst pa_nil) rfl) (pss_one (ps_ret pe_str)))))))))))))), ?_⟩
  intro dvs o R X h
  have st : ∀ z, dvs = z → startD N__law_expected.length dvs = startD 8 z := fun z e => by rw [e]; rfl
  obtain ⟨g, cur, past, fut, a, rfl, ⟨C, M, rfl, hpl, hfl⟩, hp, hf, hT, ⟨k0, hak⟩, q⟩ := h
  rw [st _ rfl]; clear st; simp only [startD, toSl, List.map_cons, List.map_nil, List.length_cons, List.length_nil, List.cons_append, List.nil_append, List.append_nil, Nat.reduceAdd, Nat.reduceSub, List.reduceReplicate, Nat.zero_add, List.replicate_zero, Nat.sub_self]
  have hz : sizeLine = 16777216 := sizeLine_eq
  have hne : ∃ w, C.ps[C.ps.length - 1]? = some w := ⟨_, List.getElem?_eq_getElem (by rw [hpl]; exact Nat.lt_succ_self _)⟩
  obtain ⟨w, hw⟩ := hne
  have hla : atI C.ps (-1) = some w := atI_end hw
  refine xs_seqH fun _ hrest => ?_
  refine xs_asg (xe_op (xe_gget (xe_vr rfl ⟨rfl, xe_str ⟨.inr "past", _, _, .raw (.ref C.aP), rfl, kh_at, (kh_val C).1, .any fun _ => .inl rfl, ?_⟩⟩)))
  repeat array_get_dec
  refine xr_gix kh_atP hla ((kh_kn).mono fun G h => .inr ⟨_, rfl, (rq_pop h.p).2 w hw⟩) ?_
  refine ⟨rfl, asr_d (hrest _ _ ?_)⟩
  clear hrest
  cases a with
  | undo =>
    simp only [actD]
    repeat array_get_dec
    refine xr_ixT (atD_of (j := 0) rfl rfl) ?_
    repeat array_get_dec
    refine bs_d (fun _ => ?_) fun c => absurd rfl c
    repeat array_get_dec
    refine xe_gget (xe_vr rfl ⟨rfl, xe_str ⟨.inr "past", _, _, .raw (.ref C.aP), rfl, kh_at, (kh_val C).1, .any fun _ => .inl rfl, ?_⟩⟩)
    refine xa_nil ⟨trivial, xc_glenL kh_atP ?_⟩
    rw [hpl]
    repeat array_get_dec
    cases past with
    | nil =>
      refine bs_d (fun _ => ?_) fun c => absurd rfl c
      repeat array_get_dec
      exact q _ ⟨C, M, rfl, hpl, hfl⟩
    | cons p ps =>
      refine bs_d (fun c => by simp only [List.length_cons] at c; omega) fun _ => ?_
      clear hthen
      refine helse _ _ (xs_next (hrest _ _ ?_))
      clear helse hrest
      refine xs_seqH fun _ hrest => ?_
      refine xs_drop ?_
      refine xe_gapp (xe_gget (xe_vr rfl ⟨rfl, xe_str ⟨.inr "future", _, _, .raw (.ref C.aF), rfl, kh_at, (kh_val C).2, .any fun _ => .inl rfl, rfl, ⟨_, kh_atF⟩, ?_⟩⟩))
      refine xa_cons (xe_gpop (xe_gget (xe_vr rfl ⟨rfl, xe_str ⟨.inr "past", _, _, .raw (.ref C.aP), rfl, kh_at, (kh_val C).1, .any fun _ => .inl rfl, rfl, C.ps, w, .d (txV cur), _, kh_atP, hw, kh_popP, (kh_kn).mono fun G h => .inr ⟨_, rfl, (rq_pop h.p).2 w hw⟩, ?_⟩⟩)))
      refine xa_nil ⟨trivial, _, C.fs, rfl, .inl ⟨_, rfl⟩, kh_atF (C := { C with ps := C.ps.dropLast }), by rw [hfl, hz]; omega, fun u hu => ⟨_, kh_putF (C := { C with ps := C.ps.dropLast }) (x := cur), ?_⟩⟩
      repeat array_get_dec
      refine q _ ⟨_, M, rfl, ?_, ?_⟩
      · show C.ps.dropLast.length = _
        rw [List.length_dropLast, hpl]; rfl
      · show (C.fs ++ [u]).length = _
        rw [List.length_append, hfl]; rfl
  | redo =>
    simp only [actD]
    repeat array_get_dec
    refine xr_ixT (atD_of (j := 0) rfl rfl) ?_
    repeat array_get_dec
    refine bs_d (fun c => absurd c (by decide +kernel)) fun _ => ?_
    repeat array_get_dec
    refine xr_ixT (atD_of (j := 0) rfl rfl) ?_
    repeat array_get_dec
    refine bs_d (fun _ => ?_) fun c => absurd rfl c
    repeat array_get_dec
    refine xe_gget (xe_vr rfl ⟨rfl, xe_str ⟨.inr "future", _, _, .raw (.ref C.aF), rfl, kh_at, (kh_val C).2, .any fun _ => .inl rfl, ?_⟩⟩)
    repeat array_get_dec
    refine xr_eqE kh_atF rfl ?_
    cases fut with
    | nil =>
      rw [List.eq_nil_of_length_eq_zero hfl]
      refine ⟨_, rfl, fun _ => hthen _ _ ?_, fun z => (nomatch z)⟩
      repeat array_get_dec
      exact q _ ⟨C, M, rfl, hpl, hfl⟩
    | cons f fs =>
      obtain ⟨w2, hw2⟩ : ∃ w, C.fs[C.fs.length - 1]? = some w := ⟨_, List.getElem?_eq_getElem (by rw [hfl]; exact Nat.lt_succ_self _)⟩
      have hne : C.fs.isEmpty = false := by cases hcd : C.fs with
        | nil => rw [hcd] at hfl; cases hfl
        | cons v vs => rfl
      rw [hne]
      refine ⟨_, rfl, fun z => (nomatch z), fun _ => helse _ _ (xs_next (hrest _ _ ?_))⟩
      clear hthen helse hrest
      refine xs_seqH fun _ hrest => ?_
      refine xs_drop ?_
      refine xe_gapp (xe_gget (xe_vr rfl ⟨rfl, xe_str ⟨.inr "past", _, _, .raw (.ref C.aP), rfl, kh_at, (kh_val C).1, .any fun _ => .inl rfl, rfl, ⟨_, kh_atP⟩, ?_⟩⟩))
      refine xa_cons (xe_gpop (xe_gget (xe_vr rfl ⟨rfl, xe_str ⟨.inr "future", _, _, .raw (.ref C.aF), rfl, kh_at, (kh_val C).2, .any fun _ => .inl rfl, rfl, C.fs, w2, .d (txV f), _, kh_atF, hw2, kh_popF, (kh_kn).mono fun G h => .inr ⟨_, rfl, (rq_pop h.f).2 w2 hw2⟩, ?_⟩⟩)))
      refine xa_nil ⟨trivial, _, C.ps, rfl, .inl ⟨_, rfl⟩, kh_atP (C := { C with fs := C.fs.dropLast }), by rw [hpl, hz, List.length_cons]; omega, fun u hu => ⟨_, kh_putP (C := { C with fs := C.fs.dropLast }) (x := f), ?_⟩⟩
      repeat array_get_dec
      refine q _ ⟨_, M, rfl, ?_, ?_⟩
      · show (C.ps ++ [u]).length = _
        rw [List.length_append, hpl]; rfl
      · show C.fs.dropLast.length = _
        rw [List.length_dropLast, hfl]; rfl
  | opn m =>
    simp only [actD]
    repeat array_get_dec
    refine xr_ixT (atD_of (j := 0) rfl rfl) ?_
    repeat array_get_dec
    refine bs_d (fun c => absurd c (by decide +kernel)) fun _ => ?_
    repeat array_get_dec
    refine xr_ixT (atD_of (j := 0) rfl rfl) ?_
    repeat array_get_dec
    refine bs_d (fun c => absurd c (by decide +kernel)) fun _ => ?_
    repeat array_get_dec
    refine xc_dictDc rfl ?_
    repeat array_get_dec
    refine xr_ixT (atD_of (j := 0) rfl rfl) ?_
    repeat array_get_dec
    refine bs_d (fun _ => ?_) fun c => absurd rfl c
    repeat array_get_dec
    refine xs_dputS (xe_str (show HandR _ _ _ _ from xe_vo rfl ⟨3, _, rfl, ?_⟩))
    repeat array_get_dec
    refine xr_ixT (atD_of (j := 1) rfl rfl) ?_
    refine ⟨.inr m, .str "", rfl, rfl, rfl, by rw [txD_len, hz]; have := hT.len; omega, hrest _ _ ?_⟩
    clear hrest
    rw [txD_put]
    refine xs_seqH fun _ hrest => ?_
    refine xs_gput (p := g) (xe_gcellL (xe_lstD (xad_cons (xe_frzS rfl ⟨_, rfl, xad_nil ⟨by rw [hz]; show 1 ≤ 16777216; decide, _, rfl, fun p vs hvs => ?_⟩⟩))))
    refine (show HandR _ _ _ _ from xe_vr rfl ⟨rfl, xe_str ⟨.inr "past", _, rfl, kh_at.r, by unfold KH.kvs; rw [hz]; show 2 < 16777216; decide, fun u hu => ?_⟩⟩)
    have hu : u = .ref p := hu
    subst hu
    rw [(kh_put C p).1]
    refine ⟨_, kh_newP, hrest _ _ ?_⟩
    clear hrest
    refine xs_seqH fun _ hrest => ?_
    refine xs_gput (p := g) (xe_gnewL fun p2 => ?_)
    refine (show HandR _ _ _ _ from xe_vr rfl ⟨rfl, xe_str ⟨.inr "future", _, rfl, kh_at.r, by unfold KH.kvs; rw [hz]; show 2 < 16777216; decide, fun u hu => ?_⟩⟩)
    have hu : u = .ref p2 := hu
    subst hu
    rw [(kh_put _ p2).2]
    refine ⟨_, kh_newF, hrest _ _ ?_⟩
    clear hrest
    repeat array_get_dec
    exact q _ ⟨_, _, rfl, hvs, rfl⟩
  | edit x =>
    simp only [actD]
    repeat array_get_dec
    refine xr_ixT (atD_of (j := 0) rfl rfl) ?_
    repeat array_get_dec
    refine bs_d (fun c => absurd c (by decide +kernel)) fun _ => ?_
    repeat array_get_dec
    refine xr_ixT (atD_of (j := 0) rfl rfl) ?_
    repeat array_get_dec
    refine bs_d (fun c => absurd c (by decide +kernel)) fun _ => ?_
    repeat array_get_dec
    refine xc_dictDc rfl ?_
    repeat array_get_dec
    refine xr_ixT (atD_of (j := 0) rfl rfl) ?_
    repeat array_get_dec
    refine bs_d (fun c => absurd c (by decide +kernel)) fun _ => ?_
    repeat array_get_dec
    refine xe_ddnotin (xe_op (xe_vd rfl (xe_int ⟨kept_d, xr_ixT (atD_of (j := 1) rfl rfl) ⟨.inr x.m, rfl, xe_vd rfl ⟨_, rfl, ?_⟩⟩⟩)))
    rw [txD_val, Option.isSome_map]
    cases ht : getT cur x.m with
    | none =>
      refine ⟨_, rfl, fun _ => hthen _ _ ?_, fun z => (nomatch z)⟩
      repeat array_get_dec
      have e : kstep cur past fut (.edit x) = ⟨"unknown", cur, past, fut⟩ := by
        show kEdit _ _ _ _ (getT cur x.m) = _
        rw [ht]
        rfl
      rw [e] at q
      exact q _ ⟨C, M, rfl, hpl, hfl⟩
    | some t =>
      have h4 := (hT.get ht).1
      refine ⟨_, rfl, fun z => (nomatch z), fun _ => helse _ _ (xs_next (hrest _ _ ?_))⟩
      clear hthen helse hrest
      have ee : edP x = .tuple [.int x.s, .int x.e, .str x.n] := rfl
      rw [ee]
      repeat array_get_dec
      refine xr_ixT (atD_of (j := 2) rfl rfl) ?_
      repeat array_get_dec
      refine xe_ddget (xe_vd rfl ⟨_, rfl, xe_op (xe_vd rfl (xe_int ⟨kept_d, xr_ixT (atD_of (j := 1) rfl rfl) ⟨trivial, .inr x.m, .str t, rfl, by rw [txD_val, ht]; rfl, ?_⟩⟩))⟩)
      repeat array_get_dec
      have inv : ¬ (0 ≤ x.s ∧ x.s ≤ x.e ∧ x.e ≤ (t.length : Int)) → R (.d (.str "invalid")) (khOb K g C M (cur :: past) fut) := fun hn => by
        have e : kstep cur past fut (.edit x) = ⟨"invalid", cur, past, fut⟩ := by
          show kEdit _ _ _ _ (getT cur x.m) = _
          rw [ht]
          exact if_neg hn
        rw [e] at q
        exact q _ ⟨C, M, rfl, hpl, hfl⟩
      refine bs_d3 kept_d (fun a1 => ?_) fun a1 => ?_
      rotate_left
      · repeat array_get_dec
        exact inv fun z => a1 z.1
      repeat array_get_dec
      refine bs_d3 kept_d (fun a2 => ?_) fun a2 => ?_
      rotate_left
      · repeat array_get_dec
        exact inv fun z => a2 z.2.1
      repeat array_get_dec
      refine xc_lenS (by omega) ?_
      repeat array_get_dec
      refine bs_nd (fun a3 => ?_) fun a3 => ?_
      · repeat array_get_dec
        exact inv fun z => a3 z.2.2
      have e : kstep cur past fut (.edit x) = ⟨"done", putT cur x.m (apS t x), cur :: past, []⟩ := by
        show kEdit _ _ _ _ (getT cur x.m) = _
        rw [ht]
        exact if_pos ⟨a1, a2, a3⟩
      rw [e] at q
      clear inv
      have hn80 : x.n.length ≤ 80 := hak.2
      refine helse _ _ (xs_next (hrest _ _ ?_))
      clear hthen helse hrest
      refine xs_seqH fun _ hrest => ?_
      refine xs_dputS ?_
      obtain ⟨a, ha⟩ : ∃ a : Nat, x.s = a := ⟨x.s.toNat, by omega⟩
      obtain ⟨b, hb⟩ : ∃ b : Nat, x.e = b := ⟨x.e.toNat, by omega⟩
      rw [ha] at a1 a2
      rw [hb] at a2 a3
      have hap : TL.tl (apS t x) = (TL.tl t).take a ++ TL.tl x.n ++ (TL.tl t).drop b := by
        unfold apS
        rw [ha, hb, tl_mkS, Int.toNat_natCast, Int.toNat_natCast]
      rw [ha, hb]
      repeat array_get_dec
      refine xsl_S (by omega) ?_
      have c1 := tl_cutTo t a
      have c2 := tl_cutFrom t b
      have d1 := cut_len t none (some (a : Int))
      have d2 := cut_len t (some (b : Int)) none
      generalize cutS t none (some (a : Int)) = x1 at c1 d1
      generalize hx2 : cutS t (some (b : Int)) none = x2 at c2 d2
      have lc : (x1 ++ x.n).length = x1.length + x.n.length := by rw [len_tl, app_tl, List.length_append, ← len_tl, ← len_tl]
      repeat array_get_dec
      refine xr_addS (by omega) ?_
      repeat array_get_dec
      refine xsl_S (by omega) ?_
      repeat array_get_dec
      rw [hx2]
      refine xr_addS (by omega) ?_
      have hr : x1 ++ x.n ++ x2 = apS t x := tl_ext (by rw [app_tl, app_tl, c1, c2, hap])
      rw [hr]
      refine (show HandR _ _ _ _ from xe_vo rfl ⟨3, _, rfl, xe_op (xe_vd rfl (xe_int ⟨kept_d, xr_ixT (atD_of (j := 1) rfl rfl) ⟨.inr x.m, .str (apS t x), rfl, rfl, rfl, by rw [txD_len, hz]; have := hT.len; omega, hrest _ _ ?_⟩⟩))⟩)
      clear hrest
      rw [txD_put]
      refine xs_seqH fun _ hrest => ?_
      refine xs_drop ?_
      refine xe_gapp (xe_gget (xe_vr rfl ⟨rfl, xe_str ⟨.inr "past", _, _, .raw (.ref C.aP), rfl, kh_at, (kh_val C).1, .any fun _ => .inl rfl, rfl, ⟨_, kh_atP⟩, ?_⟩⟩))
      refine xa_cons (xe_frzS rfl (xa_nil ⟨trivial, _, C.ps, rfl, .inl ⟨_, rfl⟩, kh_atP, by rw [hpl, hz, List.length_cons]; omega, fun u hu => ⟨_, kh_putP (x := putT cur x.m (apS t x)), hrest _ _ ?_⟩⟩))
      clear hrest
      refine xs_seqH fun _ hrest => ?_
      refine xs_gput (p := g) (xe_gnewL fun p2 => ?_)
      refine (show HandR _ _ _ _ from xe_vr rfl ⟨rfl, xe_str ⟨.inr "future", _, rfl, kh_at.r, by unfold KH.kvs; rw [hz]; show 2 < 16777216; decide, fun u2 hu2 => ?_⟩⟩)
      have hu2 : u2 = .ref p2 := hu2
      subst hu2
      rw [(kh_put _ p2).2]
      refine ⟨_, kh_newF, hrest _ _ ?_⟩
      clear hrest
      repeat array_get_dec
      refine q _ ⟨_, _, rfl, ?_, rfl⟩
      show (C.ps ++ [u]).length = _
      rw [List.length_append, hpl]; rfl
local macro_rules | `(tactic| array_get_dec) => `(tactic| first | ((with_reducible show DL.XE _ (tCall (spD _ (S__law_take _)) _ _ _) _ (Ob.and _ _) _); refine xe_and2 ?_) | ((with_reducible show DL.XE _ (tCall (spD _ (S__law_edit_of _)) _ _ _) _ (Ob.and _ _) _); refine xe_and2 ?_))
theorem ok__law_act (T : Txt K mg) (n : Nat) (G__law_take : FnOk P w K mg base CX0 1 T.a__law_take T.fd__law_take ["_law_tape_here", "_law_many"] (spD K (S__law_take K))) (G__law_edit_of : FnOk P w K mg base CX0 3 T.a__law_edit_of T.fd__law_edit_of ["_law_tape_here", "_law_text"] (spD K (S__law_edit_of K))) : FnOk P w K mg base CX0 4 T.a__law_act T.fd__law_act ["_law_tape_here", "_law_known"] (spD K (S__law_act K)) := by
  refine fnD T.F__law_act sc__law_act ?len fun cdv A outer s H E hr => ?body
  case len => intro dvs o R X h; first | (obtain ⟨rfl, _⟩ := h; rfl) | (obtain ⟨_, rfl, _⟩ := h; rfl) | (obtain ⟨_, _, rfl, _⟩ := h; rfl) | (obtain ⟨_, _, _, rfl, _⟩ := h; rfl) | (obtain ⟨_, _, _, _, rfl, _⟩ := h; rfl) | (obtain ⟨_, _, _, _, _, rfl, _⟩ := h; rfl) | (obtain ⟨_, _, _, _, _, _, rfl, _⟩ := h; rfl) | (obtain ⟨_, _, _, _, _, _, _, rfl, _⟩ := h; rfl) | (obtain ⟨_, _, _, _, _, _, _, _, rfl, _⟩ := h; rfl) | (obtain ⟨_, _, _, _, _, _, _, _, _, rfl, _⟩ := h; rfl) | (obtain ⟨_, _, _, _, _, _, _, _, _, _, rfl, _⟩ := h; rfl) | (obtain ⟨_, _, _, _, _, _, _, _, _, _, _, rfl, _⟩ := h; rfl) | (obtain ⟨_, _, _, _, _, _, _, _, _, _, _, _, rfl, _⟩ := h; rfl)
  have nd := sc__law_act.nd
  have hu := hu_of hr
  refine ⟨_, (pss_cons (ps_set (i := 2) nd rfl (Or.inl rfl) (pe_ix (DL.ix_K (K := K) rfl) (pe_dget hu (pv 1) pe_str (fun _ _ => rfl)) (pe_un un_neg pe_int) (fun _ _ => rfl))) (pss_cons (ps_set (i := 3) nd rfl (Or.inl rfl) (pe_call G__law_take (hr.mono (by first | decide | omega)) (by rfl) T.g__law_take T.F__law_take.kp T.b__law_take .nil pass0 (pa_cons (pv 0) (pa_cons pe_int pa_nil)))) (pss_cons (ps_if (PW.pt (pw_and (pt_cmpR (DL.op_eqK (K := K) rfl hr.units) (pv 3) pe_int (nomark _)) (pw_and1 (pt_cmpR (DL.op_ltU) (pe_callB (DL.call_lenDc) (by rfl) T.n_len (by decide +kernel) (pa_cons (pv 2) pa_nil)) pe_int (nomark _))))) (pss_one (ps_ret (pe_tup (pa_cons pe_str (pa_cons (pe_op (DL.op_addK (K := K) rfl) pe_str (pe_callTy (DL.call_strU) (by rfl) T.n_str (by decide +kernel) (pa_cons (pe_callB (DL.call_lenDc) (by rfl) T.n_len (by decide +kernel) (pa_cons (pv 2) pa_nil)) pa_nil))) pa_nil))))) pss_nil) (pss_cons (ps_if (pt_cmpR (DL.op_ltU) (pv 3) pe_int (nomark _)) (pss_one (ps_ret (pe_tup (pa_cons (pe_ix (DL.ix_K (K := K) rfl) (pe_lst (pa_cons pe_str (pa_cons pe_str pa_nil))) (pe_op op_fdivN (pe_call G__law_take (hr.mono (by first | decide | omega)) (by rfl) T.g__law_take T.F__law_take.kp T.b__law_take .nil pass0 (pa_cons (pv 0) (pa_cons pe_int pa_nil))) pe_int) (fun _ _ => rfl)) (pa_cons pe_str pa_nil))))) pss_nil) (pss_cons (ps_set (i := 4) nd rfl (Or.inl rfl) (pe_ix (DL.ix_K (K := K) rfl) (pe_op (DL.op_addK (K := K) rfl) (pe_callB (DL.call_sortDc rfl) (by rfl) T.n_sorted (by decide +kernel) (pa_cons (pv 2) pa_nil)) (pe_lst (pa_cons pe_str pa_nil))) (pe_call G__law_take (hr.mono (by first | decide | omega)) (by rfl) T.g__law_take T.F__law_take.kp T.b__law_take .nil pass0 (pa_cons (pv 0) (pa_cons (pe_op (DL.op_addK (K := K) rfl) (pe_callB (DL.call_lenDc) (by rfl) T.n_len (by decide +kernel) (pa_cons (pv 2) pa_nil)) pe_int) pa_nil))) (fun _ _ => rfl))) (pss_cons (ps_set (i := 5) nd rfl (Or.inl rfl) (pe_dget2 hu (pv 2) (pv 4) pe_str ⟨by rfl, by rfl, by rfl, by rfl⟩)) (pss_cons (ps_asg (pe_call G__law_edit_of (hr.mono (by first | decide | omega)) (by rfl) T.g__law_edit_of T.F__law_edit_of.kp T.b__law_edit_of .nil pass0 (pa_cons (pv 0) (pa_cons (pv 5) pa_nil))) (DL.pg_tupK (K := K) (n := 3) rfl (pg_tup (by rfl) (pgs_cons (pg_name (i := 6) nd rfl (Or.inl rfl)) (pgs_cons (pg_name (i := 7) nd rfl (Or.inl rfl)) (pgs_cons (pg_name (i := 8) nd rfl (Or.inl rfl)) pgs_nil)))))) (pss_cons (ps_if (pt_cmpR (DL.op_eqK (K := K) rfl hr.units) (pe_call G__law_take (hr.mono (by first | decide | omega)) (by rfl) T.g__law_take T.F__law_take.kp T.b__law_take .nil pass0 (pa_cons (pv 0) (pa_cons pe_int pa_nil))) pe_int (nomark _)) (pss_one (ps_set (i := 7) nd rfl (Or.inl rfl) (pe_op (DL.op_addK (K := K) rfl) (pe_callB (DL.call_lenK (K := K) rfl) (by rfl) T.n_len (by decide +kernel) (pa_cons (pv 5) pa_nil)) pe_int))) pss_nil) (pss_one (ps_ret (pe_tup (pa_cons pe_str (pa_cons (pv 4) (pa_cons (pe_tup (pa_cons (pv 6) (pa_cons (pv 7) (pa_cons (pv 8) pa_nil)))) pa_nil)))))))))))))), ?_⟩
  intro dvs o R X h
  have st : ∀ z, dvs = z → startD N__law_act.length dvs = startD 9 z := fun z e => by rw [e]; rfl
  obtain ⟨τ, g, k, B, cur, dn, un, past, fut, _, rfl, rfl, ⟨C, M, rfl, hpl, hfl⟩, hR, q⟩ := h
  rw [st _ rfl]; clear st; simp only [startD, toSl, List.map_cons, List.map_nil, List.length_cons, List.length_nil, List.cons_append, List.nil_append, List.append_nil, Nat.reduceAdd, Nat.reduceSub, List.reduceReplicate, Nat.zero_add, List.replicate_zero, Nat.sub_self]
  have hz : sizeLine = 16777216 := sizeLine_eq
  obtain ⟨w, hw⟩ : ∃ w, C.ps[C.ps.length - 1]? = some w := ⟨_, List.getElem?_eq_getElem (by rw [hpl]; exact Nat.lt_succ_self _)⟩
  have hla : atI C.ps (-1) = some w := atI_end hw
  have hck : cur.length = k := by
    have e := congrArg List.length hR.ks
    have := hR.k2
    rw [List.length_map, List.length_take] at e
    rw [e]
    show min k 5 = k
    omega
  refine xs_seqH fun _ hrest => ?_
  refine xs_asg (xe_op (xe_gget (xe_vr rfl ⟨rfl, xe_str ⟨.inr "past", _, _, .raw (.ref C.aP), rfl, kh_at.l, (kh_val C).1, .any fun _ => .inl rfl, ?_⟩⟩)))
  repeat array_get_dec
  refine xr_gix kh_atP.l hla ((kh_kn.l).mono fun G h => .inr ⟨_, rfl, (rq_pop h.p).2 w hw⟩) ?_
  refine ⟨rfl, asr_d (hrest _ _ ?_)⟩
  clear hrest
  refine xs_seqH fun _ hrest => ?_
  refine xs_asg (xe_and2 ?_)
  repeat array_get_dec
  refine ⟨τ, 10, rfl, rfl, by decide, by decide, fun c c0 c10 => ?_⟩
  refine ⟨rfl, asr_d (hrest _ _ ?_)⟩
  clear hrest
  repeat array_get_dec
  refine (fun cont => ⟨fun h0 => ?_, fun h0 => ⟨fun z => (nomatch z), fun _ => cont⟩⟩) (helse _ _ (xs_next (hrest _ _ ?_)))
  rotate_left
  · clear hrest helse
    refine xt_test ?_
    repeat array_get_dec
    refine xc_lenDc rfl ?_
    rw [txD_len, hck]
    repeat array_get_dec
    refine bs_d (fun h5 => ?_) fun _ => cont
    obtain ⟨m, g1, _, _, _, _, _, g7⟩ := nm5_ok k hR.k2.1 (by omega)
    refine hthen _ _ ?_
    repeat array_get_dec
    refine xc_lenDc rfl ?_
    rw [txD_len, hck]
    repeat array_get_dec
    have hk5 : k < 5 := by omega
    refine xc_strI (by
      have := hR.k2.1
      have : k = 2 ∨ k = 3 ∨ k = 4 := by omega
      rcases this with rfl | rfl | rfl <;> decide) ?_
    repeat array_get_dec
    refine xr_addS (by
      have := hR.k2.1
      have : k = 2 ∨ k = 3 ∨ k = 4 := by omega
      rw [hz]
      rcases this with rfl | rfl | rfl <;> decide +kernel) ?_
    rw [← g7]
    repeat array_get_dec
    exact q (.opn m) ⟨hk5, g1⟩
  · clear hthen helse hrest
    repeat array_get_dec
    refine bs_d (fun c5 => ?_) fun c5 => ?_
    · repeat array_get_dec
      refine ⟨τ, 5, rfl, rfl, by decide, by decide, fun i i0 i5 => ?_⟩
      repeat array_get_dec
      refine xr_fdiv ⟨by decide, by decide⟩ ?_
      have hj : i.fdiv 3 = 0 ∨ i.fdiv 3 = 1 := by
        have : i.fdiv 3 = i / 3 := Int.fdiv_eq_ediv_of_nonneg i (by decide)
        omega
      rcases hj with hj | hj
      · rw [hj]
        repeat array_get_dec
        refine xr_ixL rfl (atD_of (j := 0) rfl rfl) ?_
        repeat array_get_dec
        exact q .undo trivial
      · rw [hj]
        repeat array_get_dec
        refine xr_ixL rfl (atD_of (j := 1) rfl rfl) ?_
        repeat array_get_dec
        exact q .redo trivial
    · refine helse _ _ (xs_next (hrest _ _ ?_))
      clear hthen helse hrest
      repeat array_get_dec
      refine xc_sortDc (ks := cur.map Prod.fst) rfl (txD_keys cur) (by rw [List.length_map]; have := hR.k2; omega) fun ys hp hs => ?_
      have hyl : ys.length = k := by rw [hp.length_eq, List.length_map, hck]
      repeat array_get_dec
      refine xr_addL rfl rfl (by rw [List.length_map, hyl, hz]; have := hR.k2; show k + 1 ≤ _; omega) ?_
      repeat array_get_dec
      refine xc_lenDc rfl ?_
      rw [txD_len, hck]
      repeat array_get_dec
      refine ⟨τ, _, rfl, rfl, by have := hR.k2; omega, by have := hR.k2; omega, fun i i0 i1 => ?_⟩
      repeat array_get_dec
      obtain ⟨mo, hmo⟩ : ∃ mo : Str, (ys.map PyData.str ++ [PyData.str "nowhere"])[i.toNat]? = some (.str mo) := by
        have e : ys.map PyData.str ++ [PyData.str "nowhere"] = (ys ++ [("nowhere" : Str)]).map PyData.str := by rw [List.map_append]; rfl
        rw [e, List.getElem?_map]
        have hl : i.toNat < (ys ++ [("nowhere" : Str)]).length := by rw [List.length_append, hyl]; show i.toNat < k + 1; omega
        rw [List.getElem?_eq_getElem hl]
        exact ⟨_, rfl⟩
      refine xr_ixL rfl (atD_of (j := i.toNat) (show i = (i.toNat : Int) by omega) hmo) ?_
      repeat array_get_dec
      refine xe_ddget2 (xe_vd rfl ⟨_, rfl, xe_vd rfl ⟨.inr mo, rfl, xe_str ⟨trivial, trivial, _, rfl, ?_⟩⟩⟩)
      rw [txD_val]
      obtain ⟨t, ht, htl⟩ : ∃ t : Str, ((getT cur mo).map PyData.str).getD (.str "") = .str t ∧ t.length ≤ 4000 := by
        cases hg : getT cur mo with
        | none => exact ⟨_, rfl, Nat.zero_le _⟩
        | some t => exact ⟨t, rfl, (hR.ok.get hg).1⟩
      rw [ht]
      repeat array_get_dec
      refine ⟨τ, t, rfl, rfl, htl, fun s e n h1 h2 => ?_⟩
      repeat array_get_dec
      refine ⟨τ, 8, rfl, rfl, by decide, by decide, fun z z0 z8 => ?_⟩
      repeat array_get_dec
      refine bs_d (fun _ => ?_) fun _ => ?_
      · refine hthen _ _ ?_
        repeat array_get_dec
        refine xc_lenS (by omega) ?_
        repeat array_get_dec
        exact q (.edit ⟨mo, s, (t.length : Int) + 1, n⟩) ⟨h1, h2⟩
      · repeat array_get_dec
        exact q (.edit ⟨mo, s, e, n⟩) ⟨h1, h2⟩
theorem ok_law (T : Txt K mg) (n : Nat) (G__law_take : FnOk P w K mg base CX0 1 T.a__law_take T.fd__law_take ["_law_tape_here", "_law_many"] (spD K (S__law_take K))) (G__law_tape : FnOk P w K mg base CX0 1 T.a__law_tape T.fd__law_tape ["_law_script"] (spD K (S__law_tape K))) (G__law_same : FnOk P w K mg base CX0 4 T.a__law_same T.fd__law_same ["_law_actual", "_law_expected_here"] (spD K (S__law_same 1 K))) (G__law_act : FnOk P w K mg base CX0 4 T.a__law_act T.fd__law_act ["_law_tape_here", "_law_known"] (spD K (S__law_act K))) (G__law_do : FnOk P w K mg base CX0 20 T.a__law_do T.fd__law_do ["_law_server", "_law_act_here"] (spD K (S__law_do K))) (G__law_expected : FnOk P w K mg base CX0 1 T.a__law_expected T.fd__law_expected ["_law_known", "_law_act_here"] (spD K (S__law_expected K))) (G_Server___init__ : FnOk P w K mg base (L2.CX P w) 20 T.a_Server___init__ T.fd_Server___init__ ["self", "program"] (spD K (S_Server___init__ K))) (G_Server_program : FnOk P w K mg base CX0 1 T.a_Server_program T.fd_Server_program ["self"] (spD K (S_Server_program K))) : FnOk P w K mg base CX0 60 T.a_law T.fd_law ["_law_script"] (spD K (S_law K)) := by
  refine fnD T.F_law sc_law ?len fun cdv A outer s H E hr => ?body
  case len => intro dvs o R X h; first | (obtain ⟨rfl, _⟩ := h; rfl) | (obtain ⟨_, rfl, _⟩ := h; rfl) | (obtain ⟨_, _, rfl, _⟩ := h; rfl) | (obtain ⟨_, _, _, rfl, _⟩ := h; rfl) | (obtain ⟨_, _, _, _, rfl, _⟩ := h; rfl) | (obtain ⟨_, _, _, _, _, rfl, _⟩ := h; rfl) | (obtain ⟨_, _, _, _, _, _, rfl, _⟩ := h; rfl) | (obtain ⟨_, _, _, _, _, _, _, rfl, _⟩ := h; rfl) | (obtain ⟨_, _, _, _, _, _, _, _, rfl, _⟩ := h; rfl) | (obtain ⟨_, _, _, _, _, _, _, _, _, rfl, _⟩ := h; rfl) | (obtain ⟨_, _, _, _, _, _, _, _, _, _, rfl, _⟩ := h; rfl) | (obtain ⟨_, _, _, _, _, _, _, _, _, _, _, rfl, _⟩ := h; rfl) | (obtain ⟨_, _, _, _, _, _, _, _, _, _, _, _, rfl, _⟩ := h; rfl)
  have nd := sc_law.nd
  have hu := hu_of hr
  refine ⟨_, (pss_cons (ps_set (i := 1) nd rfl (Or.inl rfl) (pe_call G__law_tape (hr.mono (by first | decide | omega)) (by rfl) T.g__law_tape T.F__law_tape.kp T.b__law_tape .nil pass0 (pa_cons (pv 0) pa_nil))) (pss_cons (ps_set (i := 2) nd rfl (Or.inl rfl) (DL.pe_frz (pe_disp (pps_cons pe_str pe_str (pps_cons pe_str pe_str pps_nil)) (by rfl) (by rfl) (fun z => by cases z) (by decide)))) (pss_cons (ps_set (i := 3) nd rfl (Or.inl rfl) (pe_make T.m_Server___init__ G_Server___init__ (hr.mono (by first | decide | omega)) (by rfl) T.g_Server T.b_Server___init__ .nil DL.passP (pa_cons (pv 2) pa_nil))) (pss_cons (ps_set (i := 4) nd rfl (Or.inl rfl) (pe_disp (pps_cons pe_str (pe_lst (pa_cons (DL.pe_frz (pe_callTy (DL.call_dictDc) (by rfl) T.n_dict (by decide +kernel) (pa_cons (pv 2) pa_nil))) pa_nil)) (pps_cons pe_str (pe_lst pa_nil) pps_nil)) (by rfl) (by rfl) (fun z => by cases z) (by decide))) (pss_cons (ps_for PassesOwn.never rfl (pi_range1 (by rfl) T.n_range (pa_cons (pe_op (DL.op_addK (K := K) rfl) pe_int (pe_call G__law_take (hr.mono (by first | decide | omega)) (by rfl) T.g__law_take T.F__law_take.kp T.b__law_take .nil pass0 (pa_cons (pv 1) (pa_cons pe_int pa_nil)))) pa_nil)) (pg_name (i := 5) nd rfl (Or.inl rfl)) (pss_cons (ps_set (i := 6) nd rfl (Or.inl rfl) (pe_call G__law_act (hr.mono (by first | decide | omega)) (by rfl) T.g__law_act T.F__law_act.kp T.b__law_act .nil pass0 (pa_cons (pv 1) (pa_cons (pv 4) pa_nil)))) (pss_cons (ps_if (pt_cmpR (DL.op_neK (K := K) rfl hr.units) (pe_call G__law_do (hr.mono (by first | decide | omega)) (by rfl) T.g__law_do T.F__law_do.kp T.b__law_do .nil pass0 (pa_cons (pv 3) (pa_cons (pv 6) pa_nil))) (pe_call G__law_expected (hr.mono (by first | decide | omega)) (by rfl) T.g__law_expected T.F__law_expected.kp T.b__law_expected .nil pass0 (pa_cons (pv 4) (pa_cons (pv 6) pa_nil))) (nomark _)) (pss_one (ps_ret pe_bl)) pss_nil) (pss_one (ps_if (pt_not (pt_val (pe_call G__law_same (hr.mono (by first | decide | omega)) (by rfl) T.g__law_same T.F__law_same.kp T.b__law_same .nil pass0 (pa_cons (pe_meth0 (pv 3) T.cl_Server T.m_Server_program G_Server_program (hr.mono (by first | decide | omega)) T.b_Server_program .nil pass0) (pa_cons (pe_ix (DL.ix_K (K := K) rfl) (pe_dget hu (pv 4) pe_str (fun _ _ => rfl)) (pe_un un_neg pe_int) (fun _ _ => rfl)) pa_nil))))) (pss_one (ps_ret pe_bl)) pss_nil))))) (pss_one (ps_ret pe_bl))))))), ?_⟩
  intro dvs o R X h
  have st : ∀ z, dvs = z → startD N_law.length dvs = startD 7 z := fun z e => by rw [e]; rfl
  obtain ⟨a, ns, rfl, rfl, hn, q⟩ := h
  rw [st _ rfl]; clear st; simp only [startD, toSl, List.map_cons, List.map_nil, List.length_cons, List.length_nil, List.cons_append, List.nil_append, List.append_nil, Nat.reduceAdd, Nat.reduceSub, List.reduceReplicate, Nat.zero_add, List.replicate_zero, Nat.sub_self]
  have hz : sizeLine = 16777216 := sizeLine_eq
  repeat array_get_dec
  refine ⟨a, ns, rfl, rfl, hn, fun cs s h0 h1 h2 => ?_⟩
  refine ⟨rfl, asr_n (hrest _ _ ?_)⟩
  clear hrest
  refine xs_pubT (i := 1) (ns := cs) (a := 0) (l := 0) (s := s) (t := 0) rfl ⟨h0, by decide, by decide, h1, h2, by decide⟩ fun τ => ?_
  refine xs_seqH fun _ hrest => ?_
  refine xs_asg ?_
  refine xe_frz ?_
  repeat array_get_dec
  refine ⟨by show 2 ≤ 15; decide, txD tx0, by with_unfolding_all rfl, ?_⟩
  refine ⟨rfl, asr_d (hrest _ _ ?_)⟩
  clear hrest
  obtain ⟨hT0, hN0, hR0⟩ := tx0_ok
  refine xs_seqH fun _ hrest => ?_
  refine xs_asg ?_
  refine xe_makeO rfl ?_
  repeat array_get_dec
  intro sv dx
  refine ⟨sv, dx, tx0, rfl, by rw [sv_cls T], hT0, hN0, fun osv so => ⟨rfl, ?_⟩⟩
  refine ⟨rfl, asr_r (hrest _ _ ?_)⟩
  clear hrest
  refine xs_seqH fun _ hrest => ?_
  refine xs_asg (xe_conv (xe_gdisp ?_))
  refine .cons (.inr "past") (fun b ρ2 o2 => ∃ p vs, vs.length = 1 ∧ b = .raw (.ref p) ∧ ρ2 = [.raw (.ref a), .raw (.ref τ), .val (dicD (txD tx0)), .raw (.ref sv), .no, .no, .no] ∧ o2 = (cOb [(p, .lst vs)] fun G => RpAll K G vs [txV tx0]).and (osv.and (tapeOb K τ)))
    (xe_str ⟨rfl, xe_gcellL (xe_lstD (xad_cons (xe_frz (xe_cb (xa_cons (xe_vd rfl (xa_nil ⟨trivial, xc_dictDc rfl ⟨_, rfl, _, rfl, xad_nil ⟨by rw [hz]; show 1 ≤ 16777216; decide, _, rfl, fun p vs hvs => ⟨p, vs, hvs, rfl, rfl, rfl⟩⟩⟩⟩)))))))⟩) ?_
  rintro _ _ _ ⟨p, vs, hvs, rfl, rfl, rfl⟩
  refine .cons (.inr "future") (fun b ρ2 o2 => ∃ p2, b = .raw (.ref p2) ∧ ρ2 = [.raw (.ref a), .raw (.ref τ), .val (dicD (txD tx0)), .raw (.ref sv), .no, .no, .no] ∧ o2 = (cOb [(p2, .lst [])] fun _ => True).and ((cOb [(p, .lst vs)] fun G => RpAll K G vs [txV tx0]).and (osv.and (tapeOb K τ))))
    (xe_str ⟨rfl, xe_gnewL fun p2 => ⟨p2, rfl, rfl, rfl⟩⟩) ?_
  rintro _ _ _ ⟨p2, rfl, rfl, rfl⟩
  refine .nil ⟨by show 2 ≤ 15; decide, fun g ks hk hv => ?_⟩
  have hks : ks = [(.inr "past", .ref p), (.inr "future", .ref p2)] := by
    match ks, hk with
    | [(k1, v1), (k2, v2)], hk =>
      have h1 : v1 = .ref p := hv 0 _ _ rfl rfl
      have h2 : v2 = .ref p2 := hv 1 _ _ rfl rfl
      simp only [List.map_cons, List.map_nil, List.cons.injEq, and_true] at hk
      rw [h1, h2, hk.1, hk.2]
    | [], hk => simp at hk
    | [_], hk => simp at hk
    | _ :: _ :: _ :: _, hk => simp at hk
  subst hks
  have hmk : mergeK [] [((.inr "past" : Key), V.ref p), (.inr "future", .ref p2)] = [(.inr "past", .ref p), (.inr "future", .ref p2)] := by with_unfolding_all rfl
  rw [hmk]
  refine ⟨_, le_known, rfl, asr_r (hrest _ _ ?_)⟩
  clear hrest
  refine xs_seqH fun _ hrest => ?_
  refine xs_forR1 ?_
  refine xa_cons (xe_and2 (xe_and2 ?_))
  repeat array_get_dec
  refine ⟨τ, 14, rfl, rfl, by decide, by decide, fun m0 m1 m14 => ?_⟩
  repeat array_get_dec
  refine ⟨by omega, by omega, fun k ρ' o' => Hold (∃ (okn osv : Ob) (cur : Txs) (dn un : List Ed) (past fut : List Txs) (kk : Nat) (x5 x6 : Sl), o' = okn.and (osv.and (tapeOb K τ)) ∧ ρ' = [.raw (.ref a), .raw (.ref τ), .val (dicD (txD tx0)), .raw (.ref sv), .raw (.ref g), x5, x6] ∧ KnA K g (cur :: past) fut okn ∧ SvAt K sv (3 + 2 * k) cur dn un osv ∧ Rl kk (100 + 80 * k) cur dn un past fut ∧ dn.length + un.length ≤ k),
    hold ⟨_, osv, tx0, [], [], [], [], 2, _, _, rfl, rfl, ⟨_, _, rfl, hvs, rfl⟩, so, hR0, Nat.le_refl _⟩, ?_, ?_⟩
  · clear hR0 so hv hk hvs
    rintro k _ _ hk ⟨okn, osv, cur, dn, un, past, fut, kk, x5, x6, rfl, rfl, hkn, so, hR, hlen⟩
    have hk14 : k < 14 := by omega
    have hpl := Chain.len hR.c1
    have hfl := Chain.len hR.c2
    refine xg_nd ?_
    refine xs_seqH fun _ hrest => ?_
    refine xs_asg (xe_callP ?_)
    repeat array_get_dec
    refine ⟨okn.and (tapeOb K τ), osv, and_swap2.trans and_comm_le, τ, g, kk, _, cur, dn, un, past, fut, okn, rfl, rfl, hkn, hR, fun ac hac => ⟨okn.and (osv.and (tapeOb K τ)), and_assoc_le.trans (Ob.le.and .refl and_comm_le), ?_⟩⟩
    refine ⟨rfl, asr_d (hrest _ _ ?_)⟩
    clear hrest
    refine xs_seqH fun _ hrest => ?_
    refine xs_ifH fun _ _ hthen helse => ?_
    refine xt_test (xe_op (xe_callP ?_))
    repeat array_get_dec
    refine ⟨osv, okn.and (tapeOb K τ), and_swap2, sv, _, kk, _, cur, dn, un, past, fut, ac, rfl, so, by omega, by omega, by omega, by omega, hR, hac, fun o1 dn' un' so' hl' hR' => ⟨okn.and (o1.and (tapeOb K τ)), and_swap2, ?_⟩⟩
    refine xe_callP ?_
    repeat array_get_dec
    refine ⟨okn, o1.and (tapeOb K τ), .refl, g, cur, past, fut, ac, rfl, hkn, by omega, by omega, hR.ok, ⟨_, hac⟩, fun o2 hk2 => ⟨o2.and (o1.and (tapeOb K τ)), .refl, ?_⟩⟩
    refine ⟨trivial, xr_neS ?_⟩
    refine ⟨_, rfl, bs_nd (fun h => absurd rfl h) fun _ => ?_⟩
    refine helse _ _ (xs_next (hrest _ _ ?_))
    clear hthen helse hrest
    refine xs_ifH fun _ _ hthen helse => ?_
    refine xt_not (xt_b (xe_call ?_))
    refine xaf_cons (xf_of ?_)
    generalize kstep cur past fut ac = r at so' hR' hk2 ⊢
    have so2 := so'
    obtain ⟨aD, aU, kp, ko, C, M, rfl, _⟩ := so'
    refine xe_methP (xe_vr rfl ⟨rfl, ⟨_, _, by rw [← sv_cls T]; exact (sv_at.r).l.r, (sc_meth C).2.1⟩, ?_⟩)
    repeat array_get_dec
    refine ⟨_, _, and_swap2, sv, _, _, dn', un', rfl, so2, ⟨_, and_swap2, ?_⟩⟩
    obtain ⟨C3, M3, rfl, hp3, hf3⟩ := hk2
    obtain ⟨w, hw⟩ : ∃ w, C3.ps[C3.ps.length - 1]? = some w := ⟨_, List.getElem?_eq_getElem (by rw [hp3]; exact Nat.lt_succ_self _)⟩
    refine xaf_cons (xf_of (xe_op (xe_gget (xe_vr rfl ⟨rfl, xe_str ⟨.inr "past", _, _, .raw (.ref C3.aP), rfl, kh_at.l, (kh_val C3).1, .any fun _ => .inl rfl, ?_⟩⟩))))
    repeat array_get_dec
    refine xr_gix kh_atP.l (atI_end hw) ((kh_kn.l).mono fun G h => .inr ⟨_, rfl, (rq_pop h.p).2 w hw⟩) ?_
    repeat array_get_dec
    refine ⟨_, rfl, sm_tx hR'.ok.nd, ?_⟩
    repeat array_get_dec
    exact hold ⟨_, _, _, dn', un', _, _, _, _, _, rfl, rfl, ⟨C3, M3, rfl, hp3, hf3⟩, so2.mono (by omega), hR'.mono (by omega), by omega⟩
  rintro _ _ ⟨okn, osv, cur, dn, un, past, fut, kk, x5, x6, rfl, rfl, _⟩
  repeat array_get_dec
  exact q _
theorem all_ok (T : Txt K mg) : FnOk P w K mg base CX0 60 T.a_law T.fd_law ["_law_script"] (spD K (S_law K)) := by
  have Gt := ok__law_take (P := P) (w := w) (base := base) T
  have Gr := ok_has_right_characters (P := P) (w := w) (base := base) T
  have Ga := ok_apply_edit T Gr
  have Gx := ok_is_text T Gr
  have Gn := ok_is_name (P := P) (w := w) (base := base) T (ok_tokens T (ok_tokens_between T (ok_token_at T (ok_run_end T))))
  have Gm := ok_need_module T Gn Gx
  have Gp := ok_Keeper_put (P := P) (w := w) (base := base) T
  have Gnk := ok_new_keeper T (ok_Keeper___init__ T) Gp
  have Gs := ok_Server_set_text T Gp
  have Gd := ok_Server_do_step T Gs Ga (ok_inverse T Ga)
  have Ge := ok_Server_edit T Gd (ok_Server_need_file T) Ga
  have Go := ok_Server_open_file T Gp (ok_Server_forget_steps T) (ok_Server_modules T) Gm
  have Gi := ok_Server___init__ T (ok_Keeper_computed T) Gm Gnk
  have Gdo := ok__law_do T Ge Go (ok_Server_redo T Gd) (ok_Server_undo T Gd)
  have Geo := ok__law_edit_of T 0 Gt (ok__law_snippet T 0 Gt)
  have Gac := ok__law_act T 0 Gt Geo
  exact ok_law T 0 Gt (ok__law_tape T) (same_all T 1) Gac (Gdo.mono (by decide)) (ok__law_expected T) (Gi.mono (by decide)) (ok_Server_program T)
end
theorem mkT {w : World} {K : PySem.W.Frag} {h : Heap} {mg : Str → Option Value} (X : K.In h) (G : h.Ns mainGlobals mg) (c : obH MyH.fs MyH.fn MyH.ds K = vlH MyH.fn MyH.ds w) :
    ∃ T : Txt K mg, (∀ (s : Shared) (v : Value), BindsTo s T.fd_law ⟨[v], []⟩ [("_law_script", v)]) := by
  obtain ⟨g_Entry, i_Entry, cl_Entry, mk_Entry, kc_Entry⟩ := fCls_ok (x := "Entry") X G (sh_fact (f := MyH.q_0) c 0 rfl)
  have no_Entry := (sh_fact (f := MyH.q_1) c 1 rfl)
  obtain ⟨g_Keeper, i_Keeper, cl_Keeper, mk_Keeper, kc_Keeper⟩ := fCls_ok (x := "Keeper") X G (sh_fact (f := MyH.q_2) c 2 rfl)
  have no_Keeper := (sh_fact (f := MyH.q_3) c 3 rfl)
  obtain ⟨g_Server, i_Server, cl_Server, mk_Server, kc_Server⟩ := fCls_ok (x := "Server") X G (sh_fact (f := MyH.q_4) c 4 rfl)
  have no_Server := (sh_fact (f := MyH.q_5) c 5 rfl)
  obtain ⟨fd_has_right_characters, F_has_right_characters⟩ : ∃ fd, Fun K "has_right_characters" "has_right_characters" s_has_right_characters (He.ga K "has_right_characters") fd := sh_fun (sh_def (d := MyH.d_has_right_characters) c 0 rfl)
  have B_has_right_characters := F_has_right_characters.binds (ps := ["value"]) fun _ _ _ _ _ _ us hl => match us, hl with | [_], _ => rfl
  obtain ⟨fd_is_text, F_is_text⟩ : ∃ fd, Fun K "is_text" "is_text" s_is_text (He.ga K "is_text") fd := sh_fun (sh_def (d := MyH.d_is_text) c 1 rfl)
  have B_is_text := F_is_text.binds (ps := ["value"]) fun _ _ _ _ _ _ us hl => match us, hl with | [_], _ => rfl
  obtain ⟨fd_apply_edit, F_apply_edit⟩ : ∃ fd, Fun K "apply_edit" "apply_edit" s_apply_edit (He.ga K "apply_edit") fd := sh_fun (sh_def (d := MyH.d_apply_edit) c 2 rfl)
  have B_apply_edit := F_apply_edit.binds (ps := ["text", "edit"]) fun _ _ _ _ _ _ us hl => match us, hl with | [_, _], _ => rfl
  obtain ⟨fd_inverse, F_inverse⟩ : ∃ fd, Fun K "inverse" "inverse" s_inverse (He.ga K "inverse") fd := sh_fun (sh_def (d := MyH.d_inverse) c 3 rfl)
  have B_inverse := F_inverse.binds (ps := ["text", "edit"]) fun _ _ _ _ _ _ us hl => match us, hl with | [_, _], _ => rfl
  obtain ⟨fd_run_end, F_run_end⟩ : ∃ fd, Fun K "run_end" "run_end" s_run_end (He.ga K "run_end") fd := sh_fun (sh_def (d := MyH.d_run_end) c 4 rfl)
  have B_run_end := F_run_end.binds (ps := ["text", "start", "allowed"]) fun _ _ _ _ _ _ us hl => match us, hl with | [_, _, _], _ => rfl
  obtain ⟨fd_token_at, F_token_at⟩ : ∃ fd, Fun K "token_at" "token_at" s_token_at (He.ga K "token_at") fd := sh_fun (sh_def (d := MyH.d_token_at) c 5 rfl)
  have B_token_at := F_token_at.binds (ps := ["text", "start"]) fun _ _ _ _ _ _ us hl => match us, hl with | [_, _], _ => rfl
  obtain ⟨fd_tokens_between, F_tokens_between⟩ : ∃ fd, Fun K "tokens_between" "tokens_between" s_tokens_between (He.ga K "tokens_between") fd := sh_fun (sh_def (d := MyH.d_tokens_between) c 6 rfl)
  have B_tokens_between := F_tokens_between.binds (ps := ["text", "start", "end"]) fun _ _ _ _ _ _ us hl => match us, hl with | [_, _, _], _ => rfl
  obtain ⟨fd_tokens, F_tokens⟩ : ∃ fd, Fun K "tokens" "tokens" s_tokens (He.ga K "tokens") fd := sh_fun (sh_def (d := MyH.d_tokens) c 7 rfl)
  have B_tokens := F_tokens.binds (ps := ["text"]) fun _ _ _ _ _ _ us hl => match us, hl with | [_], _ => rfl
  obtain ⟨fd_is_name, F_is_name⟩ : ∃ fd, Fun K "is_name" "is_name" s_is_name (He.ga K "is_name") fd := sh_fun (sh_def (d := MyH.d_is_name) c 8 rfl)
  have B_is_name := F_is_name.binds (ps := ["value"]) fun _ _ _ _ _ _ us hl => match us, hl with | [_], _ => rfl
  obtain ⟨fd_Keeper___init__, F_Keeper___init__⟩ : ∃ fd, Fun K "__init__" "Keeper.__init__" s_Keeper___init__ (He.ma K (He.ga K "Keeper") "__init__") fd := sh_fun (sh_def (d := MyH.d_Keeper___init__) c 9 rfl)
  have B_Keeper___init__ := F_Keeper___init__.binds (ps := ["self", "compute"]) fun _ _ _ _ _ _ us hl => match us, hl with | [_, _], _ => rfl
  obtain ⟨fd_Keeper_put, F_Keeper_put⟩ : ∃ fd, Fun K "put" "Keeper.put" s_Keeper_put (He.ma K (He.ga K "Keeper") "put") fd := sh_fun (sh_def (d := MyH.d_Keeper_put) c 10 rfl)
  have B_Keeper_put := F_Keeper_put.binds (ps := ["self", "key", "value"]) fun _ _ _ _ _ _ us hl => match us, hl with | [_, _, _], _ => rfl
  obtain ⟨fd_Keeper_computed, F_Keeper_computed⟩ : ∃ fd, Fun K "computed" "Keeper.computed" s_Keeper_computed (He.ma K (He.ga K "Keeper") "computed") fd := sh_fun (sh_def (d := MyH.d_Keeper_computed) c 11 rfl)
  have B_Keeper_computed := F_Keeper_computed.binds (ps := ["self"]) fun _ _ _ _ _ _ us hl => match us, hl with | [_], _ => rfl
  obtain ⟨fd_compute, F_compute⟩ : ∃ fd, Fun K "compute" "compute" s_compute (He.ga K "compute") fd := sh_fun (sh_def (d := MyH.d_compute) c 12 rfl)
  have B_compute := F_compute.binds (ps := ["keeper", "key"]) fun _ _ _ _ _ _ us hl => match us, hl with | [_, _], _ => rfl
  obtain ⟨fd_new_keeper, F_new_keeper⟩ : ∃ fd, Fun K "new_keeper" "new_keeper" s_new_keeper (He.ga K "new_keeper") fd := sh_fun (sh_def (d := MyH.d_new_keeper) c 13 rfl)
  have B_new_keeper := F_new_keeper.binds (ps := ["program"]) fun _ _ _ _ _ _ us hl => match us, hl with | [_], _ => rfl
  obtain ⟨fd_need_module, F_need_module⟩ : ∃ fd, Fun K "need_module" "need_module" s_need_module (He.ga K "need_module") fd := sh_fun (sh_def (d := MyH.d_need_module) c 14 rfl)
  have B_need_module := F_need_module.binds (ps := ["name", "text"]) fun _ _ _ _ _ _ us hl => match us, hl with | [_, _], _ => rfl
  obtain ⟨fd_Server___init__, F_Server___init__⟩ : ∃ fd, Fun K "__init__" "Server.__init__" s_Server___init__ (He.ma K (He.ga K "Server") "__init__") fd := sh_fun (sh_def (d := MyH.d_Server___init__) c 15 rfl)
  have B_Server___init__ := F_Server___init__.binds (ps := ["self", "program"]) fun _ _ _ _ _ _ us hl => match us, hl with | [_, _], _ => rfl
  obtain ⟨fd_Server_modules, F_Server_modules⟩ : ∃ fd, Fun K "modules" "Server.modules" s_Server_modules (He.ma K (He.ga K "Server") "modules") fd := sh_fun (sh_def (d := MyH.d_Server_modules) c 16 rfl)
  have B_Server_modules := F_Server_modules.binds (ps := ["self"]) fun _ _ _ _ _ _ us hl => match us, hl with | [_], _ => rfl
  obtain ⟨fd_Server_program, F_Server_program⟩ : ∃ fd, Fun K "program" "Server.program" s_Server_program (He.ma K (He.ga K "Server") "program") fd := sh_fun (sh_def (d := MyH.d_Server_program) c 17 rfl)
  have B_Server_program := F_Server_program.binds (ps := ["self"]) fun _ _ _ _ _ _ us hl => match us, hl with | [_], _ => rfl
  obtain ⟨fd_Server_need_file, F_Server_need_file⟩ : ∃ fd, Fun K "need_file" "Server.need_file" s_Server_need_file (He.ma K (He.ga K "Server") "need_file") fd := sh_fun (sh_def (d := MyH.d_Server_need_file) c 18 rfl)
  have B_Server_need_file := F_Server_need_file.binds (ps := ["self", "module"]) fun _ _ _ _ _ _ us hl => match us, hl with | [_, _], _ => rfl
  obtain ⟨fd_Server_forget_steps, F_Server_forget_steps⟩ : ∃ fd, Fun K "forget_steps" "Server.forget_steps" s_Server_forget_steps (He.ma K (He.ga K "Server") "forget_steps") fd := sh_fun (sh_def (d := MyH.d_Server_forget_steps) c 19 rfl)
  have B_Server_forget_steps := F_Server_forget_steps.binds (ps := ["self"]) fun _ _ _ _ _ _ us hl => match us, hl with | [_], _ => rfl
  obtain ⟨fd_Server_open_file, F_Server_open_file⟩ : ∃ fd, Fun K "open_file" "Server.open_file" s_Server_open_file (He.ma K (He.ga K "Server") "open_file") fd := sh_fun (sh_def (d := MyH.d_Server_open_file) c 20 rfl)
  have B_Server_open_file := F_Server_open_file.binds (ps := ["self", "module", "text"]) fun _ _ _ _ _ _ us hl => match us, hl with | [_, _, _], _ => rfl
  obtain ⟨fd_Server_set_text, F_Server_set_text⟩ : ∃ fd, Fun K "set_text" "Server.set_text" s_Server_set_text (He.ma K (He.ga K "Server") "set_text") fd := sh_fun (sh_def (d := MyH.d_Server_set_text) c 21 rfl)
  have B_Server_set_text := F_Server_set_text.binds (ps := ["self", "module", "text"]) fun _ _ _ _ _ _ us hl => match us, hl with | [_, _, _], _ => rfl
  obtain ⟨fd_Server_do_step, F_Server_do_step⟩ : ∃ fd, Fun K "do_step" "Server.do_step" s_Server_do_step (He.ma K (He.ga K "Server") "do_step") fd := sh_fun (sh_def (d := MyH.d_Server_do_step) c 22 rfl)
  have B_Server_do_step := F_Server_do_step.binds (ps := ["self", "edits"]) fun _ _ _ _ _ _ us hl => match us, hl with | [_, _], _ => rfl
  obtain ⟨fd_Server_edit, F_Server_edit⟩ : ∃ fd, Fun K "edit" "Server.edit" s_Server_edit (He.ma K (He.ga K "Server") "edit") fd := sh_fun (sh_def (d := MyH.d_Server_edit) c 23 rfl)
  have B_Server_edit := F_Server_edit.binds (ps := ["self", "module", "edit"]) fun _ _ _ _ _ _ us hl => match us, hl with | [_, _, _], _ => rfl
  obtain ⟨fd_Server_undo, F_Server_undo⟩ : ∃ fd, Fun K "undo" "Server.undo" s_Server_undo (He.ma K (He.ga K "Server") "undo") fd := sh_fun (sh_def (d := MyH.d_Server_undo) c 24 rfl)
  have B_Server_undo := F_Server_undo.binds (ps := ["self"]) fun _ _ _ _ _ _ us hl => match us, hl with | [_], _ => rfl
  obtain ⟨fd_Server_redo, F_Server_redo⟩ : ∃ fd, Fun K "redo" "Server.redo" s_Server_redo (He.ma K (He.ga K "Server") "redo") fd := sh_fun (sh_def (d := MyH.d_Server_redo) c 25 rfl)
  have B_Server_redo := F_Server_redo.binds (ps := ["self"]) fun _ _ _ _ _ _ us hl => match us, hl with | [_], _ => rfl
  obtain ⟨fd__law_tape, F__law_tape⟩ : ∃ fd, Fun K "_law_tape" "_law_tape" s__law_tape (He.ga K "_law_tape") fd := sh_fun (sh_def (d := MyH.d__law_tape) c 26 rfl)
  have B__law_tape := F__law_tape.binds (ps := ["_law_script"]) fun _ _ _ _ _ _ us hl => match us, hl with | [_], _ => rfl
  obtain ⟨fd__law_take, F__law_take⟩ : ∃ fd, Fun K "_law_take" "_law_take" s__law_take (He.ga K "_law_take") fd := sh_fun (sh_def (d := MyH.d__law_take) c 27 rfl)
  have B__law_take := F__law_take.binds (ps := ["_law_tape_here", "_law_many"]) fun _ _ _ _ _ _ us hl => match us, hl with | [_, _], _ => rfl
  obtain ⟨fd__law_is_integer, F__law_is_integer⟩ : ∃ fd, Fun K "_law_is_integer" "_law_is_integer" s__law_is_integer (He.ga K "_law_is_integer") fd := sh_fun (sh_def (d := MyH.d__law_is_integer) c 28 rfl)
  have B__law_is_integer := F__law_is_integer.binds (ps := ["_law_actual"]) fun _ _ _ _ _ _ us hl => match us, hl with | [_], _ => rfl
  obtain ⟨fd__law_same_items, F__law_same_items⟩ : ∃ fd, Fun K "_law_same_items" "_law_same_items" s__law_same_items (He.ga K "_law_same_items") fd := sh_fun (sh_def (d := MyH.d__law_same_items) c 29 rfl)
  have B__law_same_items := F__law_same_items.binds (ps := ["_law_actual", "_law_expected_here"]) fun _ _ _ _ _ _ us hl => match us, hl with | [_, _], _ => rfl
  obtain ⟨fd__law_same, F__law_same⟩ : ∃ fd, Fun K "_law_same" "_law_same" s__law_same (He.ga K "_law_same") fd := sh_fun (sh_def (d := MyH.d__law_same) c 30 rfl)
  have B__law_same := F__law_same.binds (ps := ["_law_actual", "_law_expected_here"]) fun _ _ _ _ _ _ us hl => match us, hl with | [_, _], _ => rfl
  obtain ⟨fd__law_snippet, F__law_snippet⟩ : ∃ fd, Fun K "_law_snippet" "_law_snippet" s__law_snippet (He.ga K "_law_snippet") fd := sh_fun (sh_def (d := MyH.d__law_snippet) c 31 rfl)
  have B__law_snippet := F__law_snippet.binds (ps := ["_law_tape_here"]) fun _ _ _ _ _ _ us hl => match us, hl with | [_], _ => rfl
  obtain ⟨fd__law_edit_of, F__law_edit_of⟩ : ∃ fd, Fun K "_law_edit_of" "_law_edit_of" s__law_edit_of (He.ga K "_law_edit_of") fd := sh_fun (sh_def (d := MyH.d__law_edit_of) c 32 rfl)
  have B__law_edit_of := F__law_edit_of.binds (ps := ["_law_tape_here", "_law_text"]) fun _ _ _ _ _ _ us hl => match us, hl with | [_, _], _ => rfl
  obtain ⟨fd__law_do, F__law_do⟩ : ∃ fd, Fun K "_law_do" "_law_do" s__law_do (He.ga K "_law_do") fd := sh_fun (sh_def (d := MyH.d__law_do) c 33 rfl)
  have B__law_do := F__law_do.binds (ps := ["_law_server", "_law_act_here"]) fun _ _ _ _ _ _ us hl => match us, hl with | [_, _], _ => rfl
  obtain ⟨fd__law_expected, F__law_expected⟩ : ∃ fd, Fun K "_law_expected" "_law_expected" s__law_expected (He.ga K "_law_expected") fd := sh_fun (sh_def (d := MyH.d__law_expected) c 34 rfl)
  have B__law_expected := F__law_expected.binds (ps := ["_law_known", "_law_act_here"]) fun _ _ _ _ _ _ us hl => match us, hl with | [_, _], _ => rfl
  obtain ⟨fd__law_act, F__law_act⟩ : ∃ fd, Fun K "_law_act" "_law_act" s__law_act (He.ga K "_law_act") fd := sh_fun (sh_def (d := MyH.d__law_act) c 35 rfl)
  have B__law_act := F__law_act.binds (ps := ["_law_tape_here", "_law_known"]) fun _ _ _ _ _ _ us hl => match us, hl with | [_, _], _ => rfl
  obtain ⟨fd_law, F_law⟩ : ∃ fd, Fun K "law" "law" s_law (He.ga K "law") fd := sh_fun (sh_def (d := MyH.d_law) c 36 rfl)
  have B_law := F_law.binds (ps := ["_law_script"]) fun _ _ _ _ _ _ us hl => match us, hl with | [_], _ => rfl
  obtain ⟨i_ServerError, k_ServerError, b_ServerError, t_ServerError, d_ServerError⟩ := fExc_ok (x := "ServerError") (He.ba (sh_fact (f := MyH.q_62) c 62 rfl)).1
  have x_ServerError := (He.ba (sh_fact (f := MyH.q_62) c 62 rfl)).2
  obtain ⟨i_InvalidEdit, k_InvalidEdit, b_InvalidEdit, t_InvalidEdit, d_InvalidEdit⟩ := fExc_ok (x := "InvalidEdit") (He.ba (sh_fact (f := MyH.q_63) c 63 rfl)).1
  have x_InvalidEdit := (He.ba (sh_fact (f := MyH.q_63) c 63 rfl)).2
  obtain ⟨i_UnknownFile, k_UnknownFile, b_UnknownFile, t_UnknownFile, d_UnknownFile⟩ := fExc_ok (x := "UnknownFile") (He.ba (sh_fact (f := MyH.q_64) c 64 rfl)).1
  have x_UnknownFile := (He.ba (sh_fact (f := MyH.q_64) c 64 rfl)).2
  obtain ⟨i_FileExists, k_FileExists, b_FileExists, t_FileExists, d_FileExists⟩ := fExc_ok (x := "FileExists") (He.ba (sh_fact (f := MyH.q_65) c 65 rfl)).1
  have x_FileExists := (He.ba (sh_fact (f := MyH.q_65) c 65 rfl)).2
  obtain ⟨i_NothingToUndo, k_NothingToUndo, b_NothingToUndo, t_NothingToUndo, d_NothingToUndo⟩ := fExc_ok (x := "NothingToUndo") (He.ba (sh_fact (f := MyH.q_66) c 66 rfl)).1
  have x_NothingToUndo := (He.ba (sh_fact (f := MyH.q_66) c 66 rfl)).2
  have hb : ∀ (s : Shared) (v : Value), BindsTo s fd_law ⟨[v], []⟩ [("_law_script", v)] := by
    obtain ⟨oc, od, kV, doc, pm, an, cdv, ct, osl, e, l, c⟩ := F_law.ex
    subst e
    exact fun s v => .of_eq rfl
  refine ⟨{
    a_Entry := _, g_Entry := g_Entry, i_Entry := i_Entry, cl_Entry := cl_Entry,
    no_Entry_value := fNos_at no_Entry 0 rfl,
    no_Entry_used := fNos_at no_Entry 1 rfl,
    no_Entry_checked := fNos_at no_Entry 2 rfl,
    no_Entry_changed := fNos_at no_Entry 3 rfl,
    a_Keeper := _, g_Keeper := g_Keeper, i_Keeper := i_Keeper, cl_Keeper := cl_Keeper,
    no_Keeper__compute := fNos_at no_Keeper 0 rfl,
    no_Keeper__inputs := fNos_at no_Keeper 1 rfl,
    no_Keeper__entries := fNos_at no_Keeper 2 rfl,
    no_Keeper__revision := fNos_at no_Keeper 3 rfl,
    no_Keeper__left := fNos_at no_Keeper 4 rfl,
    no_Keeper__going := fNos_at no_Keeper 5 rfl,
    no_Keeper__asked := fNos_at no_Keeper 6 rfl,
    no_Keeper__done := fNos_at no_Keeper 7 rfl,
    a_Server := _, g_Server := g_Server, i_Server := i_Server, cl_Server := cl_Server,
    no_Server__texts := fNos_at no_Server 0 rfl,
    no_Server__keeper := fNos_at no_Server 1 rfl,
    no_Server__done := fNos_at no_Server 2 rfl,
    no_Server__undone := fNos_at no_Server 3 rfl,
    a_has_right_characters := _, fd_has_right_characters := fd_has_right_characters, F_has_right_characters := F_has_right_characters, b_has_right_characters := B_has_right_characters,
    g_has_right_characters := fGlo_ok (x := "has_right_characters") X G (sh_fact (f := MyH.q_6) c 6 rfl),
    a_is_text := _, fd_is_text := fd_is_text, F_is_text := F_is_text, b_is_text := B_is_text,
    g_is_text := fGlo_ok (x := "is_text") X G (sh_fact (f := MyH.q_7) c 7 rfl),
    a_apply_edit := _, fd_apply_edit := fd_apply_edit, F_apply_edit := F_apply_edit, b_apply_edit := B_apply_edit,
    g_apply_edit := fGlo_ok (x := "apply_edit") X G (sh_fact (f := MyH.q_8) c 8 rfl),
    a_inverse := _, fd_inverse := fd_inverse, F_inverse := F_inverse, b_inverse := B_inverse,
    g_inverse := fGlo_ok (x := "inverse") X G (sh_fact (f := MyH.q_9) c 9 rfl),
    a_run_end := _, fd_run_end := fd_run_end, F_run_end := F_run_end, b_run_end := B_run_end,
    g_run_end := fGlo_ok (x := "run_end") X G (sh_fact (f := MyH.q_10) c 10 rfl),
    a_token_at := _, fd_token_at := fd_token_at, F_token_at := F_token_at, b_token_at := B_token_at,
    g_token_at := fGlo_ok (x := "token_at") X G (sh_fact (f := MyH.q_11) c 11 rfl),
    a_tokens_between := _, fd_tokens_between := fd_tokens_between, F_tokens_between := F_tokens_between, b_tokens_between := B_tokens_between,
    g_tokens_between := fGlo_ok (x := "tokens_between") X G (sh_fact (f := MyH.q_12) c 12 rfl),
    a_tokens := _, fd_tokens := fd_tokens, F_tokens := F_tokens, b_tokens := B_tokens,
    g_tokens := fGlo_ok (x := "tokens") X G (sh_fact (f := MyH.q_13) c 13 rfl),
    a_is_name := _, fd_is_name := fd_is_name, F_is_name := F_is_name, b_is_name := B_is_name,
    g_is_name := fGlo_ok (x := "is_name") X G (sh_fact (f := MyH.q_14) c 14 rfl),
    a_Keeper___init__ := _, fd_Keeper___init__ := fd_Keeper___init__, F_Keeper___init__ := F_Keeper___init__, b_Keeper___init__ := B_Keeper___init__,
    m_Keeper___init__ := fMk_ok (c := "Keeper") (sh_fact (f := MyH.q_15) c 15 rfl) mk_Keeper kc_Keeper,
    a_Keeper_put := _, fd_Keeper_put := fd_Keeper_put, F_Keeper_put := F_Keeper_put, b_Keeper_put := B_Keeper_put,
    m_Keeper_put := fMeth_ok (c := "Keeper") (m := "put") (sh_fact (f := MyH.q_16) c 16 rfl) F_Keeper_put,
    a_Keeper_computed := _, fd_Keeper_computed := fd_Keeper_computed, F_Keeper_computed := F_Keeper_computed, b_Keeper_computed := B_Keeper_computed,
    m_Keeper_computed := fMeth_ok (c := "Keeper") (m := "computed") (sh_fact (f := MyH.q_17) c 17 rfl) F_Keeper_computed,
    a_compute := _, fd_compute := fd_compute, F_compute := F_compute, b_compute := B_compute,
    g_compute := fGlo_ok (x := "compute") X G (sh_fact (f := MyH.q_18) c 18 rfl),
    a_new_keeper := _, fd_new_keeper := fd_new_keeper, F_new_keeper := F_new_keeper, b_new_keeper := B_new_keeper,
    g_new_keeper := fGlo_ok (x := "new_keeper") X G (sh_fact (f := MyH.q_19) c 19 rfl),
    a_need_module := _, fd_need_module := fd_need_module, F_need_module := F_need_module, b_need_module := B_need_module,
    g_need_module := fGlo_ok (x := "need_module") X G (sh_fact (f := MyH.q_20) c 20 rfl),
    a_Server___init__ := _, fd_Server___init__ := fd_Server___init__, F_Server___init__ := F_Server___init__, b_Server___init__ := B_Server___init__,
    m_Server___init__ := fMk_ok (c := "Server") (sh_fact (f := MyH.q_21) c 21 rfl) mk_Server kc_Server,
    a_Server_modules := _, fd_Server_modules := fd_Server_modules, F_Server_modules := F_Server_modules, b_Server_modules := B_Server_modules,
    m_Server_modules := fMeth_ok (c := "Server") (m := "modules") (sh_fact (f := MyH.q_22) c 22 rfl) F_Server_modules,
    a_Server_program := _, fd_Server_program := fd_Server_program, F_Server_program := F_Server_program, b_Server_program := B_Server_program,
    m_Server_program := fMeth_ok (c := "Server") (m := "program") (sh_fact (f := MyH.q_23) c 23 rfl) F_Server_program,
    a_Server_need_file := _, fd_Server_need_file := fd_Server_need_file, F_Server_need_file := F_Server_need_file, b_Server_need_file := B_Server_need_file,
    m_Server_need_file := fMeth_ok (c := "Server") (m := "need_file") (sh_fact (f := MyH.q_24) c 24 rfl) F_Server_need_file,
    a_Server_forget_steps := _, fd_Server_forget_steps := fd_Server_forget_steps, F_Server_forget_steps := F_Server_forget_steps, b_Server_forget_steps := B_Server_forget_steps,
    m_Server_forget_steps := fMeth_ok (c := "Server") (m := "forget_steps") (sh_fact (f := MyH.q_25) c 25 rfl) F_Server_forget_steps,
    a_Server_open_file := _, fd_Server_open_file := fd_Server_open_file, F_Server_open_file := F_Server_open_file, b_Server_open_file := B_Server_open_file,
    m_Server_open_file := fMeth_ok (c := "Server") (m := "open_file") (sh_fact (f := MyH.q_26) c 26 rfl) F_Server_open_file,
    a_Server_set_text := _, fd_Server_set_text := fd_Server_set_text, F_Server_set_text := F_Server_set_text, b_Server_set_text := B_Server_set_text,
    m_Server_set_text := fMeth_ok (c := "Server") (m := "set_text") (sh_fact (f := MyH.q_27) c 27 rfl) F_Server_set_text,
    a_Server_do_step := _, fd_Server_do_step := fd_Server_do_step, F_Server_do_step := F_Server_do_step, b_Server_do_step := B_Server_do_step,
    m_Server_do_step := fMeth_ok (c := "Server") (m := "do_step") (sh_fact (f := MyH.q_28) c 28 rfl) F_Server_do_step,
    a_Server_edit := _, fd_Server_edit := fd_Server_edit, F_Server_edit := F_Server_edit, b_Server_edit := B_Server_edit,
    m_Server_edit := fMeth_ok (c := "Server") (m := "edit") (sh_fact (f := MyH.q_29) c 29 rfl) F_Server_edit,
    a_Server_undo := _, fd_Server_undo := fd_Server_undo, F_Server_undo := F_Server_undo, b_Server_undo := B_Server_undo,
    m_Server_undo := fMeth_ok (c := "Server") (m := "undo") (sh_fact (f := MyH.q_30) c 30 rfl) F_Server_undo,
    a_Server_redo := _, fd_Server_redo := fd_Server_redo, F_Server_redo := F_Server_redo, b_Server_redo := B_Server_redo,
    m_Server_redo := fMeth_ok (c := "Server") (m := "redo") (sh_fact (f := MyH.q_31) c 31 rfl) F_Server_redo,
    a__law_tape := _, fd__law_tape := fd__law_tape, F__law_tape := F__law_tape, b__law_tape := B__law_tape,
    g__law_tape := fGlo_ok (x := "_law_tape") X G (sh_fact (f := MyH.q_32) c 32 rfl),
    a__law_take := _, fd__law_take := fd__law_take, F__law_take := F__law_take, b__law_take := B__law_take,
    g__law_take := fGlo_ok (x := "_law_take") X G (sh_fact (f := MyH.q_33) c 33 rfl),
    a__law_is_integer := _, fd__law_is_integer := fd__law_is_integer, F__law_is_integer := F__law_is_integer, b__law_is_integer := B__law_is_integer,
    g__law_is_integer := fGlo_ok (x := "_law_is_integer") X G (sh_fact (f := MyH.q_34) c 34 rfl),
    a__law_same_items := _, fd__law_same_items := fd__law_same_items, F__law_same_items := F__law_same_items, b__law_same_items := B__law_same_items,
    g__law_same_items := fGlo_ok (x := "_law_same_items") X G (sh_fact (f := MyH.q_35) c 35 rfl),
    a__law_same := _, fd__law_same := fd__law_same, F__law_same := F__law_same, b__law_same := B__law_same,
    g__law_same := fGlo_ok (x := "_law_same") X G (sh_fact (f := MyH.q_36) c 36 rfl),
    a__law_snippet := _, fd__law_snippet := fd__law_snippet, F__law_snippet := F__law_snippet, b__law_snippet := B__law_snippet,
    g__law_snippet := fGlo_ok (x := "_law_snippet") X G (sh_fact (f := MyH.q_37) c 37 rfl),
    a__law_edit_of := _, fd__law_edit_of := fd__law_edit_of, F__law_edit_of := F__law_edit_of, b__law_edit_of := B__law_edit_of,
    g__law_edit_of := fGlo_ok (x := "_law_edit_of") X G (sh_fact (f := MyH.q_38) c 38 rfl),
    a__law_do := _, fd__law_do := fd__law_do, F__law_do := F__law_do, b__law_do := B__law_do,
    g__law_do := fGlo_ok (x := "_law_do") X G (sh_fact (f := MyH.q_39) c 39 rfl),
    a__law_expected := _, fd__law_expected := fd__law_expected, F__law_expected := F__law_expected, b__law_expected := B__law_expected,
    g__law_expected := fGlo_ok (x := "_law_expected") X G (sh_fact (f := MyH.q_40) c 40 rfl),
    a__law_act := _, fd__law_act := fd__law_act, F__law_act := F__law_act, b__law_act := B__law_act,
    g__law_act := fGlo_ok (x := "_law_act") X G (sh_fact (f := MyH.q_41) c 41 rfl),
    a_law := _, fd_law := fd_law, F_law := F_law, b_law := B_law,
    g_law := fGlo_ok (x := "law") X G (sh_fact (f := MyH.q_42) c 42 rfl),
    n_abs := fFree_ok (x := "abs") X G (sh_fact (f := MyH.q_43) c 43 rfl),
    n_bool := fFree_ok (x := "bool") X G (sh_fact (f := MyH.q_44) c 44 rfl),
    n_dict := fFree_ok (x := "dict") X G (sh_fact (f := MyH.q_45) c 45 rfl),
    n_int := fFree_ok (x := "int") X G (sh_fact (f := MyH.q_46) c 46 rfl),
    n_isinstance := fFree_ok (x := "isinstance") X G (sh_fact (f := MyH.q_47) c 47 rfl),
    n_len := fFree_ok (x := "len") X G (sh_fact (f := MyH.q_48) c 48 rfl),
    n_list := fFree_ok (x := "list") X G (sh_fact (f := MyH.q_49) c 49 rfl),
    n_min := fFree_ok (x := "min") X G (sh_fact (f := MyH.q_50) c 50 rfl),
    n_range := fFree_ok (x := "range") X G (sh_fact (f := MyH.q_51) c 51 rfl),
    n_sorted := fFree_ok (x := "sorted") X G (sh_fact (f := MyH.q_52) c 52 rfl),
    n_str := fFree_ok (x := "str") X G (sh_fact (f := MyH.q_53) c 53 rfl),
    n_tuple := fFree_ok (x := "tuple") X G (sh_fact (f := MyH.q_54) c 54 rfl),
    c_MOST := He.int_ok (x := "MOST") X G (sh_fact (f := MyH.q_55) c 55 rfl),
    c_CHARACTERS := He.str_ok (x := "CHARACTERS") X G (sh_fact (f := MyH.q_56) c 56 rfl),
    c_LETTERS := He.str_ok (x := "LETTERS") X G (sh_fact (f := MyH.q_57) c 57 rfl),
    c_DIGITS := He.str_ok (x := "DIGITS") X G (sh_fact (f := MyH.q_58) c 58 rfl),
    c_NAME_CHARACTERS := He.str_ok (x := "NAME_CHARACTERS") X G (sh_fact (f := MyH.q_59) c 59 rfl),
    c_SIGNS := He.str_ok (x := "SIGNS") X G (sh_fact (f := MyH.q_60) c 60 rfl),
    c_MOST_MODULES := He.int_ok (x := "MOST_MODULES") X G (sh_fact (f := MyH.q_61) c 61 rfl),
    e_ServerError := _, i_ServerError := i_ServerError, g_ServerError := PySem.W.mg_of X G i_ServerError, x_ServerError := x_ServerError, k_ServerError := k_ServerError, b_ServerError := b_ServerError, t_ServerError := t_ServerError, d_ServerError := d_ServerError,
    e_InvalidEdit := _, i_InvalidEdit := i_InvalidEdit, g_InvalidEdit := PySem.W.mg_of X G i_InvalidEdit, x_InvalidEdit := x_InvalidEdit, k_InvalidEdit := k_InvalidEdit, b_InvalidEdit := b_InvalidEdit, t_InvalidEdit := t_InvalidEdit, d_InvalidEdit := d_InvalidEdit,
    e_UnknownFile := _, i_UnknownFile := i_UnknownFile, g_UnknownFile := PySem.W.mg_of X G i_UnknownFile, x_UnknownFile := x_UnknownFile, k_UnknownFile := k_UnknownFile, b_UnknownFile := b_UnknownFile, t_UnknownFile := t_UnknownFile, d_UnknownFile := d_UnknownFile,
    e_FileExists := _, i_FileExists := i_FileExists, g_FileExists := PySem.W.mg_of X G i_FileExists, x_FileExists := x_FileExists, k_FileExists := k_FileExists, b_FileExists := b_FileExists, t_FileExists := t_FileExists, d_FileExists := d_FileExists,
    e_NothingToUndo := _, i_NothingToUndo := i_NothingToUndo, g_NothingToUndo := PySem.W.mg_of X G i_NothingToUndo, x_NothingToUndo := x_NothingToUndo, k_NothingToUndo := k_NothingToUndo, b_NothingToUndo := b_NothingToUndo, t_NothingToUndo := t_NothingToUndo, d_NothingToUndo := d_NothingToUndo,
    s_InvalidEdit_InvalidEdit := fSub_ok (sh_fact (f := MyH.q_67) c 67 rfl),
    s_UnknownFile_UnknownFile := fSub_ok (sh_fact (f := MyH.q_68) c 68 rfl),
    s_NothingToUndo_NothingToUndo := fSub_ok (sh_fact (f := MyH.q_69) c 69 rfl),
    s_NothingToUndo_ServerError := fSub_ok (sh_fact (f := MyH.q_70) c 70 rfl),
    y_NothingToUndo := fIsc_ok (sh_fact (f := MyH.q_71) c 71 rfl) ⟨b_NothingToUndo, d_NothingToUndo⟩,
    n_InvalidEdit_NothingToUndo := fSub_ok (sh_fact (f := MyH.q_72) c 72 rfl),
    n_UnknownFile_NothingToUndo := fSub_ok (sh_fact (f := MyH.q_73) c 73 rfl),
    n_UnknownFile_InvalidEdit := fSub_ok (sh_fact (f := MyH.q_74) c 74 rfl),
    a_WORDS := _, g_WORDS := (fTup_ok X G (sh_fact (f := MyH.q_75) c 75 rfl)).1, w_WORDS := (fTup_ok X G (sh_fact (f := MyH.q_75) c 75 rfl)).2 }, hb⟩
end My
open PySem PySem.W PySem.Calls PyProof.Rows
set_option maxHeartbeats 0 in
theorem PySem.Challenge.cw_samenames_k29_undo_and_redo_holds : PySem.Challenge.rw_samenames_k29_undo_and_redo.Holds := by
  refine MyH.top ?_
  refine L2.walk_ofE (l := PySem.Challenge.rw_samenames_k29_undo_and_redo) (n := 63) (k := 60) (x := "_law_script") (CX := L2.CX0) rfl (by decide) (by kernel_rfl) ⟨rfl, by decide, by decide⟩ ?F (fun _ _ _ _ z => z)
  intro w mg fa h Y G hmg0
  obtain ⟨K, KX, c⟩ := Y
  have hmg : mg ("law" : PySem.Str) = some (.ref fa) := by
    have e : (HandSHeadRun.topDef MyH.R.prog 139).name = ("law" : PySem.Str) := by kernel_rfl
    rw [← e]
    exact hmg0
  obtain ⟨T, hb⟩ := My.mkT KX G c
  have e := hmg.symm.trans T.g_law
  cases e
  exact ⟨K, T.fd_law, DL.spD K (DL.S_law K), KX, hb, fun H a ns hl _ hS => DL.law_start hl hS, fun base _ _ => My.all_ok (P := (PySem.Challenge.rw_samenames_k29_undo_and_redo).prog) T⟩
