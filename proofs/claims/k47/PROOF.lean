import PyProof.Rows.All
import Wide.All
import OpenK.AllK
import Wide.FinOn
import HandS.Base
import HandS.Call
import HandS.Codes
import HandS.Comp
import HandS.Conv
import HandS.Defaults
import HandS.Dict
import HandS.EndBits
import HandS.EndTab
import HandS.Ends
import HandS.Exc
import HandS.ExcCtx
import HandS.ExcField
import HandS.ExcInit
import HandS.ExcIs
import HandS.ExcOwn
import HandS.Head0
import HandS.Head1
import HandS.Head2
import HandS.HeadEnd
import HandS.HeadHook1
import HandS.HeadHook2
import HandS.HeadHook3
import HandS.HeadHook4
import HandS.Hot
import HandS.HotCalls
import HandS.IsInst
import HandS.Lambda
import HandS.List
import HandS.MakeKw
import HandS.MakeKwOnly
import HandS.More
import HandS.Property
import HandS.RaiseMore
import HandS.SetFor
import HandS.Words
import HandS.WordsExc
import KE.KIsAll
import KE.KNest
import KE.KNestM
import KE.KStateDown
import KE.KTryMore
import PyProof.EqAt
import PyProof.EqKinds
import PyProof.InstEq
import PyProof.ReprRoads
import PySem.Challenge.RW_pagepromise_k47_machines_made
set_option Elab.async false
set_option linter.all false
set_option maxRecDepth 100000
set_option maxHeartbeats 2000000
/-! A head's Hook that reads a chosen list of addresses, found by paths from the module's names (no closure over all that is reached). -/
namespace HL
open PySem PySem.Spec PyProof.Rows L2 He
/-! ### addresses by paths -/
abbrev G := Addr → Option Obj
def entOf (x : Str) : List DictEntry → List Addr
  | [] => []
  | e :: r => match e.key.isStr x with
    | true => (match e.val with
      | .ref a => [a]
      | _ => [])
    | false => entOf x r
/-- what the namespace dict at d has under x -/
def inNs (g : G) (d : Addr) (x : Str) : List Addr := match g d with
  | some ⟨_, _, .dict es _, _⟩ => entOf x es.toList
  | _ => []
def nsOf (g : G) (a : Addr) : List Addr := match g a with
  | some ⟨_, _, .cls cd, _⟩ => [cd.ns]
  | _ => []
def fnRefs (g : G) (a : Addr) : List Addr := match g a with
  | some ⟨_, _, .func fd, _⟩ => refV fd.code ++ refV fd.defaults ++ refV fd.kwdefaults
  | _ => []
def prRefs (g : G) (a : Addr) : List Addr := match g a with
  | some ⟨_, _, .fields vs, _⟩ => vs.toList.flatMap refV
  | _ => []
def frcA {β : Type} : List Addr → List Addr → (List Addr → β) → β
  | [], acc, k => k acc
  | a :: r, acc, k => HandSHeadRun.frNat a fun a => frcA r (a :: acc) k
theorem frcA_eq {β : Type} (k : List Addr → β) : ∀ (l acc : List Addr), frcA l acc k = k (l.reverse ++ acc)
  | [], acc => rfl
  | a :: r, acc => by
    show HandSHeadRun.frNat a (fun a => frcA r (a :: acc) k) = _
    rw [HandSHeadRun.frNat_eq, frcA_eq k r (a :: acc)]
    simp
/-- what is to be read: globals, (class, method), (class, property), other objects of the top by name -/
structure Want where
  glos : List Str
  meths : List (Str × Str)
  props : List (Str × Str)
def asL (W : Want) (g : G) : List Addr :=
  let gl := W.glos.flatMap (inNs g mainGlobals)
  let ns := gl.flatMap (nsOf g)
  let me := W.meths.flatMap fun p => ((inNs g mainGlobals p.1).flatMap (nsOf g)).flatMap fun d => inNs g d p.2
  let pr := W.props.flatMap fun p => ((inNs g mainGlobals p.1).flatMap (nsOf g)).flatMap fun d => inNs g d p.2
  let pg := pr.flatMap (prRefs g)
  let fs := gl ++ me ++ pg
  mainGlobals :: sysModules :: (gl ++ ns ++ me ++ pr ++ pg ++ fs.flatMap (fnRefs g))
/-! ### defs by address functions -/
abbrev FnL : Type := Option (Str × Str × Arguments × FuncBody × Scope × Addr × List (Str × Addr) × Addr)
def fnL (K : PySem.W.Frag) (a : Addr) : FnL := match K.lookup a with
  | some ⟨_, _, .func fd, _⟩ => some (fd.name, fd.qualname, fd.params, fd.body, fd.scope, fd.globals, fd.closure, fd.builtins)
  | _ => none
/-- one def: where it stands, its name, qualified name, statement, defaults -/
structure DefL where
  ad : PySem.W.Frag → Addr
  name : Str
  qual : Str
  st : Stmt
  dfl : List Dv := []
def DefL.val (d : DefL) : FnL := some (d.name, d.qual, defArgs d.st, .stmts (defBody d.st), defScope d.st, mainGlobals, [], builtinsNs)
def DefL.dvs (K : PySem.W.Frag) (d : DefL) : List V := d.dfl.map (Dv.v K)
def DefL.ok (K : PySem.W.Frag) (d : DefL) : Bool := PySem.W.keepIn K (.ref (d.ad K)) && (match K.lookup (d.ad K) with
  | some ⟨_, _, .func fd, _⟩ => PySem.W.codeIn K fd.code d.qual && dflB K fd.defaults (d.dvs K)
  | _ => false)
theorem DefL.funD {K : PySem.W.Frag} {d : DefL} (e : fnL K (d.ad K) = d.val) (c : d.ok K = true) : ∃ fd, FunD K d.name d.qual (defArgs d.st) (defBody d.st) (defScope d.st) (d.dvs K) [] (d.ad K) fd := by
  obtain ⟨kp, c2⟩ := ba c
  unfold fnL at e
  cases q : K.lookup (d.ad K) with
  | none =>
    rw [q] at c2
    cases c2
  | some o =>
    obtain ⟨oc, od, dt, osl⟩ := o
    rw [q] at c2 e
    cases dt with
    | func fd =>
      obtain ⟨n1, n2, n3, n4, n5, n6, n7, n8, n9, n10, n11, n12, n13, n14, n15⟩ := fd
      have e2 : (some (n1, n2, n3, n4, n5, n6, n7, n15) : FnL) = some (d.name, d.qual, defArgs d.st, .stmts (defBody d.st), defScope d.st, mainGlobals, [], builtinsNs) := e
      simp only [Option.some.injEq, Prod.mk.injEq] at e2
      obtain ⟨h1, h2, h3, h4, h5, h6, h7, h8⟩ := e2
      subst h1 h2 h3 h4 h5 h6 h7 h8
      have c3 : (PySem.W.codeIn K n13 d.qual && dflB K n8 (d.dvs K)) = true := c2
      obtain ⟨k1, k2⟩ := ba c3
      exact ⟨_, ⟨oc, od, n8, n9, n10, n11, n12, n13, n14, osl, rfl, q, k1, dflB_ok k2, .inl rfl⟩, kp⟩
    | _ => cases c2
abbrev AlL : Type := Bool × List FnL
def obsF (fa : List Fa) (fn : List DefL) (K : PySem.W.Frag) : AlL := ((fa.all fun f => f.ok K) && fn.all fun d => d.ok K, fn.map fun d => fnL K (d.ad K))
def valL (fn : List DefL) : AlL := (true, fn.map DefL.val)
def SaysF (fa : List Fa) (fn : List DefL) (K : PySem.W.Frag) : Prop := obsF fa fn K = valL fn
section
variable {fa : List Fa} {fn : List DefL} {K : PySem.W.Frag}
theorem SaysF.fact (c : SaysF fa fn K) (i : Nat) {f : Fa} (h : fa[i]? = some f := by rfl) : f.ok K = true := by
  have c1 := (ba (show ((fa.all fun f => f.ok K) && fn.all fun d => d.ok K) = true from congrArg (fun z : AlL => z.1) c)).1
  exact List.all_eq_true.mp c1 f (List.mem_of_getElem? h)
theorem SaysF.def_ (c : SaysF fa fn K) (i : Nat) {d : DefL} (h : fn[i]? = some d := by rfl) : ∃ fd, FunD K d.name d.qual (defArgs d.st) (defBody d.st) (defScope d.st) (d.dvs K) [] (d.ad K) fd := by
  have c2 := (ba (show ((fa.all fun f => f.ok K) && fn.all fun d => d.ok K) = true from congrArg (fun z : AlL => z.1) c)).2
  have e : fn.map (fun d => fnL K (d.ad K)) = fn.map DefL.val := congrArg (fun z : AlL => z.2) c
  have e2 : (fn.map fun d => fnL K (d.ad K))[i]? = (fn.map DefL.val)[i]? := by rw [e]
  rw [List.getElem?_map, List.getElem?_map, h] at e2
  exact DefL.funD (Option.some.inj e2) (List.all_eq_true.mp c2 d (List.mem_of_getElem? h))
end
/-- a global's def; a method; (properties: below) -/
def adG (x : Str) (K : PySem.W.Frag) : Addr := ga K x
def adM (x m : Str) (K : PySem.W.Frag) : Addr := ma K (ga K x) m
/-! ### the Hook -/
structure SaysL (fa : List Fa) (fn : List DefL) (tf : List Defn) (ex : List (PySem.W.Frag → Bool)) (h : Heap) (K : PySem.W.Frag) : Prop where
  d : SaysF fa fn K
  more : ∀ f ∈ ex, f K = true
  hd : ∀ p ∈ tf, PySem.W.codeHdIn K (cT K p).1 (cT K p).2 = true
  out : ∀ p ∈ tf, K.lookup (cT K p).2 = none
  empty : ∀ p ∈ tf, h.get? (cT K p).2 = some { cls := .none, data := .fields #[] }
def outB (K : PySem.W.Frag) (p : Defn) : Bool := match K.lookup (cT K p).2 with
  | none => true
  | some _ => false
def obsK (fa : List Fa) (fn : List DefL) (tf : List Defn) (ex : List (PySem.W.Frag → Bool)) (g : G) (K : PySem.W.Frag) : AlL × Bool :=
  (obsF fa fn K, (ex.all fun f => f K) && (tabsB g tf K && tf.all (outB K)))
def frgK {β : Type} (g : G) : List Addr → PySem.W.Frag → (PySem.W.Frag → β) → β
  | [], acc, k => k acc
  | a :: r, acc, k => match g a with
    | some o => frgK g r ((a, o) :: acc) k
    | none => frgK g r acc k
theorem frgK_eq {β : Type} {g : G} {k : PySem.W.Frag → β} : ∀ (l : List Addr) (acc : PySem.W.Frag), (∀ q ∈ acc, g q.1 = some q.2) → ∃ K : PySem.W.Frag, (∀ q ∈ K, g q.1 = some q.2) ∧ frgK g l acc k = k K
  | [], acc, h => ⟨acc, h, rfl⟩
  | a :: r, acc, h => by
    cases e : g a with
    | none =>
      obtain ⟨K, h1, h2⟩ := frgK_eq (k := k) r acc h
      refine ⟨K, h1, ?_⟩
      show (match g a with | some o => frgK g r ((a, o) :: acc) k | none => frgK g r acc k) = _
      rw [e]
      exact h2
    | some o =>
      obtain ⟨K, h1, h2⟩ := frgK_eq (k := k) r ((a, o) :: acc) (fun q hq => by
        rcases List.mem_cons.mp hq with z | z
        · rw [z]
          exact e
        · exact h q z)
      refine ⟨K, h1, ?_⟩
      show (match g a with | some o => frgK g r ((a, o) :: acc) k | none => frgK g r acc k) = _
      rw [e]
      exact h2
def obsL (W : Want) (fa : List Fa) (fn : List DefL) (tf : List Defn) (ex : List (PySem.W.Frag → Bool)) (g : G) : AlL × Bool :=
  frcA (asL W g) [] fun as => frgK g as [] fun K => obsK fa fn tf ex g K
theorem saysL_of {W : Want} {fa : List Fa} {fn : List DefL} {tf : List Defn} {ex : List (PySem.W.Frag → Bool)} {h : Heap} (e : obsL W fa fn tf ex h.get? = (valL fn, true)) : ∃ K : PySem.W.Frag, K.In h ∧ SaysL fa fn tf ex h K := by
  unfold obsL at e
  rw [frcA_eq] at e
  obtain ⟨K, h1, h2⟩ := frgK_eq (g := h.get?) (k := fun K => obsK fa fn tf ex h.get? K) ((asL W h.get?).reverse ++ []) [] (fun q hq => by cases hq)
  rw [h2] at e
  have e1 : obsF fa fn K = valL fn := congrArg (fun z => z.1) e
  have e2 : ((ex.all fun f => f K) && (tabsB h.get? tf K && tf.all (outB K))) = true := congrArg (fun z => z.2) e
  obtain ⟨e3, e4⟩ := ba e2
  obtain ⟨e5, e6⟩ := ba e4
  have key : ∀ p ∈ tf, PySem.W.codeHdIn K (cT K p).1 (cT K p).2 = true ∧ ∃ o, h.get? (cT K p).2 = some o ∧ emptyTab o = true := fun p hp => by
    obtain ⟨h3, h4⟩ := ba (List.all_eq_true.mp e5 p hp)
    refine ⟨h3, ?_⟩
    cases q : h.get? (cT K p).2 with
    | none =>
      rw [q] at h4
      cases h4
    | some o =>
      rw [q] at h4
      exact ⟨o, rfl, h4⟩
  refine ⟨K, fun a o q => h1 (a, o) (lookup_mem q), ⟨e1, fun f hf => List.all_eq_true.mp e3 f hf, fun p hp => (key p hp).1, fun p hp => ?_, fun p hp => ?_⟩⟩
  · have z := List.all_eq_true.mp e6 p hp
    unfold outB at z
    cases q : K.lookup (cT K p).2 with
    | none => rfl
    | some o =>
      rw [q] at z
      cases z
  · obtain ⟨_, o, q, z⟩ := key p hp
    rw [q, emptyTab_eq z]
def hookL (W : Want) (fa : List Fa) (fn : List DefL) (tf : List Defn) (ex : List (PySem.W.Frag → Bool)) : PySem.W.Hook where
  α := AlL × Bool
  obs := fun s => obsL W fa fn tf ex s.heap.get?
  val := fun _ => (valL fn, true)
  says := fun _ h => ∃ K : PySem.W.Frag, K.In h ∧ SaysL fa fn tf ex h K
  of := fun _ _ e => saysL_of e
  keeps := fun _ _ _ ⟨K, hK, c⟩ k => ⟨K, PySem.W.Frag.In.keeps hK k, ⟨c.d, c.more, c.hd, c.out, fun p hp => k _ _ (c.empty p hp)⟩⟩
theorem obsL_eq {W : Want} {fa : List Fa} {fn : List DefL} {tf : List Defn} {ex : List (PySem.W.Frag → Bool)} {g : G} {s : Shared} (h : ∀ a, g a = s.heap.get? a) : obsL W fa fn tf ex g = (hookL W fa fn tf ex).obs s := by
  have e : g = s.heap.get? := funext h
  rw [e] <;> rfl
section
variable {fa : List Fa} {fn : List DefL} {tf : List Defn} {ex : List (PySem.W.Frag → Bool)} {h : Heap} {K : PySem.W.Frag}
theorem SaysL.ex_ (c : SaysL fa fn tf ex h K) (i : Nat) {f : PySem.W.Frag → Bool} (e : ex[i]? = some f := by rfl) : f K = true := c.more f (List.mem_of_getElem? e)
end
/-! ### further facts -/
/-- an exception class of one's own (over ValueError, by others of one's own or not) that inherits ValueError's maker -/
def oexB (x : Str) (K : PySem.W.Frag) : Bool := (match K.lookup (ga K x) with
  | some ⟨.type "type", _, .cls cd, sl⟩ => (match cd.mro, sl.toList with
    | .ref C' :: bm, [_, _, _, _, some (.builtin n), _] => C' == ga K x && (n == "ValueError.__new__" && (cd.hasDict && (!cd.hasDel && PySem.HandSPX.refsVE bm)))
    | _, _ => false)
  | _ => false) && (eqO (PySem.W.findIn K (.ref (ga K x)) "__setattr__") (some (some (.builtin "object.__setattr__"))) && (decide (PySem.W.subIn K (.ref (ga K x)) (.type "BaseException") = some true) && (decide (PySem.W.typeIn K (.ref (ga K x)) = some (.type "type")) && PySem.W.keepIn K (.ref (ga K x)))))
theorem oexB_ok {x : Str} {K : PySem.W.Frag} (h : oexB x K = true) : OexC K (ga K x) := by
  obtain ⟨h1, h⟩ := ba h
  obtain ⟨h2, h⟩ := ba h
  obtain ⟨h3, h⟩ := ba h
  obtain ⟨h4, h5⟩ := ba h
  refine ⟨?_, eqO_ok h2, of_decide_eq_true h3, of_decide_eq_true h4, h5⟩
  generalize hC : ga K x = C at h1 ⊢
  split at h1
  · rename_i dd cd sl ho
    split at h1
    · rename_i C' bm k0 k1 k2 k3 n k5 hm hs
      simp only [Bool.and_eq_true, beq_iff_eq, Bool.not_eq_true'] at h1
      obtain ⟨q1, q2, q3, q4, q5⟩ := h1
      obtain ⟨nm, bs, mro, ns, qn, hd, sn, sub, ab, col, del⟩ := cd
      dsimp only at hm q3 q4
      subst hm q3 q4 q1 q2
      have hsl : sl = #[k0, k1, k2, k3, some (.builtin "ValueError.__new__"), k5] := by
        obtain ⟨l⟩ := sl
        simp only at hs
        rw [hs]
      subst hsl
      exact ⟨nm, qn, ns, bs, bm, sn, sub, ab, col, dd, k0, k1, k2, k3, k5, ho, q5⟩
    · cases h1
  · cases h1
def prA (K : PySem.W.Frag) (x f : Str) : Addr := ma K (ga K x) f
def prG (K : PySem.W.Frag) (x f : Str) : Addr := match PySem.W.recIn K (prA K x f) "property" with
  | some (.ref g :: _) => g
  | _ => 0
/-- the class x has the property f -/
def propB (x f : Str) (K : PySem.W.Frag) : Bool := eqO (PySem.W.findIn K (.ref (ga K x)) f) (some (some (.ref (prA K x f)))) && (eqO (PySem.W.specialIn K (.ref (prA K x f)) "__get__") (some (some (.builtin "property.__get__"))) &&
  (decide (PySem.W.takesIn K (.ref (prA K x f)) = some true) && (match PySem.W.recIn K (prA K x f) "property" with
    | some (.ref _ :: _) => true
    | _ => false)))
theorem propB_ok {x f : Str} {K : PySem.W.Frag} (h : propB x f K = true) : PropOf K (ga K x) f (prA K x f) (prG K x f) := by
  obtain ⟨h1, h⟩ := ba h
  obtain ⟨h2, h⟩ := ba h
  obtain ⟨h3, h4⟩ := ba h
  refine ⟨eqO_ok h1, eqO_ok h2, of_decide_eq_true h3, ?_⟩
  unfold prG
  cases q : PySem.W.recIn K (prA K x f) "property" with
  | none =>
    rw [q] at h4
    cases h4
  | some l =>
    rw [q] at h4
    cases l with
    | nil => cases h4
    | cons v r =>
      cases v with
      | ref g => exact ⟨r, rfl⟩
      | _ => cases h4
end HL
set_option Elab.async false
set_option linter.all false
set_option maxRecDepth 100000
set_option maxHeartbeats 4000000
/-! try with any clauses: a name or a tuple of names, with a name bound or none; the suites raise nothing, they may call defs that run where an exception is handled. -/
namespace LT
open PySem PySem.Spec PyProof.Rows L2 L2N
/-- names of classes -/
inductive NamesL (X : Cx) : List Expr → List Value → Prop
  | nil : NamesL X [] []
  | cons {x : Str} {c : Value} {p : Pos} {es : List Expr} {cs : List Value} (h : Names X x c) (r : NamesL X es cs) : NamesL X (.Name x p :: es) (c :: cs)
/-- what stands behind except -/
inductive TestT (X : Cx) : Expr → List Value → Prop
  | one {x : Str} {c : Value} {p : Pos} (h : Names X x c) : TestT X (.Name x p) [c]
  | two {a b : Expr} {c d : Value} {k : Nat} {p : Pos} (h : NamesL X [a, b] [c, d]) : TestT X (.Tuple [a, b] k p) [c, d]
  | three {a b e : Expr} {c d f : Value} {k : Nat} {p : Pos} (h : NamesL X [a, b, e] [c, d, f]) : TestT X (.Tuple [a, b, e] k p) [c, d, f]
  | four {a b e g : Expr} {c d f i : Value} {k : Nat} {p : Pos} (h : NamesL X [a, b, e, g] [c, d, f, i]) : TestT X (.Tuple [a, b, e, g] k p) [c, d, f, i]
section
variable {X : Cx}
theorem name_run {a : Addr} {pn pins : List (Addr × Obj)} {σ : L2.St} {H : Hp} {s : Shared} {x : Str} {c : Value} {p : Pos} {Q : Value → Shared → Prop} {E : Value → Shared → Prop} (hc : Names X x c) (S : Inv (X.suite a pn) pins σ H s) (q : Q c s) :
    wpAny (model X.prog X.w) (X.A.mark (some (.ref a))) (eval (.Name x p) X.env) Q E s := by
  obtain ⟨hg, hdbg, hm | ⟨hm, hv, hnn⟩⟩ := hc
  · exact ld_glob (X := X.suite a pn) S hg hm q hdbg
  · exact ld_blt (X := X.suite a pn) S hg hm hv q hnn hdbg
theorem test_run {a : Addr} {pn pins : List (Addr × Obj)} {σ : L2.St} {H : Hp} {s : Shared} {e : Expr} {cs : List Value} {cls : Value} {b : Bool} {oe : Obj} {Q : Bool → Shared → Prop} {E : Value → Shared → Prop} (ht : TestT X e cs) (S : Inv (X.suite a pn) pins σ H s)
    (he : s.heap.get? a = some oe) (hcl : oe.cls = cls) (hb : PySem.W.exmAny X.K cls cs = some b) (q : ∀ h', (∀ x o, s.heap.get? x = some o → h'.get? x = some o) → Q b { s with heap := h' }) :
    wpAny (model X.prog X.w) (X.A.mark (some (.ref a))) (eval e X.env) (fun v s1 => wpAny (model X.prog X.w) (X.A.mark (some (.ref a))) (excMatches (.ref a) v) Q E s1) E s := by
  have XK : X.K.In s.heap := S.kIn
  have LT : PySem.W.Looks (model X.prog X.w) s.heap (typeOf (.ref a)) cls := fun A Q E s k q => wpAny_typeOf_ref (k _ _ he) (by rw [hcl]; exact q)
  have kp : ∀ (o' : Obj) x o, s.heap.get? x = some o → (s.heap.push o').get? x = some o := fun o' _ _ z => Heap.get?_push_of_some _ z
  cases ht with
  | @one x c p hc =>
    obtain ⟨b1, d1, x1, y1, z1⟩ := PySem.W.exmAny_cons hb
    cases y1
    rw [Bool.or_false] at z1
    subst z1
    exact name_run hc S ((PySem.W.exm_one XK LT x1).here (q s.heap fun _ _ z => z))
  | two hn =>
    rcases hn with _ | ⟨h1, _ | ⟨h2, _ | _⟩⟩
    refine wpAny_Tuple ?_
    refine wpAny_items_cons (name_run h1 S ?_)
    refine wpAny_items_cons (name_run h2 S ?_)
    refine wpAny_items_nil ⟨by size_fits, ?_⟩
    exact (PySem.W.exm_tup2 (XK.keeps (kp _)) (LT.keeps (kp _)) (Heap.get?_push_size s.heap rfl) hb).here (q _ (kp _))
  | three hn =>
    rcases hn with _ | ⟨h1, _ | ⟨h2, _ | ⟨h3, _ | _⟩⟩⟩
    refine wpAny_Tuple ?_
    refine wpAny_items_cons (name_run h1 S ?_)
    refine wpAny_items_cons (name_run h2 S ?_)
    refine wpAny_items_cons (name_run h3 S ?_)
    refine wpAny_items_nil ⟨by size_fits, ?_⟩
    exact (PySem.W.exm_tup3 (XK.keeps (kp _)) (LT.keeps (kp _)) (Heap.get?_push_size s.heap rfl) hb).here (q _ (kp _))
  | four hn =>
    rcases hn with _ | ⟨h1, _ | ⟨h2, _ | ⟨h3, _ | ⟨h4, _ | _⟩⟩⟩⟩
    refine wpAny_Tuple ?_
    refine wpAny_items_cons (name_run h1 S ?_)
    refine wpAny_items_cons (name_run h2 S ?_)
    refine wpAny_items_cons (name_run h3 S ?_)
    refine wpAny_items_cons (name_run h4 S ?_)
    refine wpAny_items_nil ⟨by size_fits, ?_⟩
    exact (PySem.W.exm_tup4 (XK.keeps (kp _)) (LT.keeps (kp _)) (Heap.get?_push_size s.heap rfl) hb).here (q _ (kp _))
end
/-- a clause: its classes, the slot of its name (if it binds one), its suite -/
structure Cl where
  cs : List Value
  at_ : Option Nat
  ts : Addr → Value → Option Addr → TS
def outA (i : Option Nat) (σ : L2.St) : L2.St := match i with
  | some i => σ.set i none
  | none => σ
def inA (i : Option Nat) (a : Addr) (σ : L2.St) : L2.St := match i with
  | some i => σ.set i (some (.ref a))
  | none => σ
def endA (i : Option Nat) (D : Ends) : Ends := { nx := fun σ H => D.nx (outA i σ) H, rt := D.rt, bk := fun σ H => D.bk (outA i σ) H, ct := fun σ H => D.ct (outA i σ) H }
def wG (K : PySem.W.Frag) (Wout : WX) (D : Ends) : List Cl → WX
  | [] => Wout
  | c :: r => fun cls d σ H => ∃ b, PySem.W.exmAny K cls c.cs = some b ∧ (b = true → ∀ a, H a = none → c.ts a cls d (endA c.at_ D) (inA c.at_ a σ) H) ∧ (b = false → wG K Wout D r cls d σ H)
/-- the name of a clause, its slot -/
inductive NmOk (X : Cx) : Option Str → Option Nat → Prop
  | none : NmOk X none none
  | some {n : Str} {i : Nat} (hN : X.N.Nodup) (hi : X.N[i]? = some n) (hln : X.env.kindOf n = some .local) : NmOk X (some n) (some i)
inductive ClsOk (X : Cx) : List ExceptHandler → List Cl → Prop
  | nil : ClsOk X [] []
  | cons {te : Expr} {cs : List Value} {nm : Option Str} {i : Option Nat} {ts : Addr → Value → Option Addr → TS} {b₀ : Stmt} {suite : List Stmt} {pos' : Pos} {hds : List ExceptHandler} {l : List Cl} (ht : TestT X te cs) (hn : NmOk X nm i)
      (hsu : ∀ (a : Addr) (oe : Obj) (cls : Value) (d : Option Addr) (pn : List (Addr × Obj)), Zn cls d oe → (∃ vs, oe.data = .fields vs) → (a, oe) ∈ pn → L2H.Hot1 (X.suite a pn).A (a, oe) → PSs (X.suite a pn) (b₀ :: suite) (ts a cls d)) (r : ClsOk X hds l) :
      ClsOk X (.ExceptHandler (some te) nm (b₀ :: suite) pos' :: hds) (⟨cs, i, ts⟩ :: l)
theorem fly_kept {B : Heap} {l : List Env} {a : Addr} {Z : Obj → Prop} {h h' : Heap} (f : HandSPX.FlyingZ B l a Z h) (k : ∀ b o, h.get? b = some o → h'.get? b = some o) : HandSPX.FlyingZ B l a Z h' := by
  obtain ⟨f1, f2, f3, oe, vs, T, oT, ts, he, hz, hd, h1, hn, hne, hT, hdT, h3⟩ := f
  exact ⟨fun b o q => k b o (f1 b o q), f2, f3.of_keeps fun b o q _ => ⟨o, k b o q, rfl⟩, oe, vs, T, oT, ts, k _ _ he, hz, hd, h1, hn, hne, k _ _ hT, hdT, h3⟩
section
variable {X : Cx} {body : List Stmt} {h₀ : ExceptHandler} {hds : List ExceptHandler} {l : List Cl} {pos : Pos} {tb : WX → TS} {Wout : WX}
theorem ps_tryG (hs : X.stack = X.env :: X.outer) (hf : X.env.frame = some X.env.locals) (tk : L2N.Takes X Wout)
    (hb : ∀ (W : WX) (pn : List (Addr × Obj)) (xe : Value → Shared → Prop), L2N.Takes (X.tr pn xe) W → PassesOwn (model X.prog X.w) X.A X.env xe → PSs (X.tr pn xe) body (tb W))
    (hh : ClsOk X (h₀ :: hds) l) : PS X (.Try body (h₀ :: hds) [] [] pos) (fun D σ H => tb (wG X.K Wout D l) D σ H) := by
  refine ⟨fun pins s σ H D I h => ?_⟩
  have ok := I.ok
  have hfr : X.A.frames = some (X.env :: X.outer) := by rw [ok.frames, hs]
  refine wpAny_Try_except ?_
  refine wpAny_mono ((hb (wG X.K Wout D l) (X.pn ++ pins) (fun e s₁ => wpAny (model X.prog X.w) X.A (noteFrame e X.env) (fun _ s₂ => wpAny (model X.prog X.w) X.A (setFlight e none) (fun _ s₃ =>
    wpAny (model X.prog X.w) X.A (handleBy e X.env (h₀ :: hds)) (SP X pins D) X.xe s₃) X.xe s₂) X.xe s₁) (fun u s' xx => ?_) PassesOwn.looking).run [] s σ H D (I.toTry _) h) (fun f s1 hsp => ?_) (fun e s1 he => he)
  · obtain ⟨a, B, sI, pins', σ', H', cls, d, rfl, J', nb, up, sky, na, os, ag, w⟩ := xx
    have J : Inv X pins σ' H' sI := J'.ofTry ok
    have sky' : Sky B (X.env :: X.outer) a (Zn cls d) X.env.locals s'.heap := by rw [← hs]; exact sky
    show wpAny (model X.prog X.w) X.A (noteFrame (.ref a) X.env) _ _ _
    refine L2N.Sky.land Zn.steady hfr hf sky' fun h3 fl3 up3 => ?_
    have notFr : ∀ {h : Heap} {o : Obj} {vs : Array Value}, h.FunFrames B (X.env :: X.outer) → h.get? a = some o → o.data = .fields vs → a ∉ frs (X.env :: X.outer) := fun {h o vs} ff e dd hm => by
      obtain ⟨_, o', e', hnf⟩ := ff.mem hm
      rw [e] at e'; cases e'
      exact hnf _ dd
    have nfr : a ∉ frs (X.env :: X.outer) := by
      obtain ⟨oe3, vs3, he3, hz3, hd3⟩ := fl3.there
      exact notFr fl3.2.2.1 he3 hd3
    have nL : a ≠ X.env.locals := fun z => nfr (List.mem_filterMap.mpr ⟨X.env, List.mem_cons_self, by rw [hf, z]⟩)
    have nF : a ∉ X.fs := fun hm => by
      obtain ⟨e, he, q⟩ := List.mem_filterMap.mp hm
      exact nfr (List.mem_filterMap.mpr ⟨e, List.mem_cons_of_mem _ he, q⟩)
    have go : ∀ {hds' : List ExceptHandler} {l' : List Cl} {h3 : Heap}, ClsOk X hds' l' → HandSPX.FlyingZ B (X.env :: X.outer) a (Zn cls d) h3 → s'.heap.UpToSlots h3 → wG X.K Wout D l' cls d σ' H' →
        wpAny (model X.prog X.w) X.A (handleBy (.ref a) X.env hds') (SP X pins D) X.xe { s' with heap := h3 } := by
      intro hds' l' h3 hk
      induction hk generalizing h3 with
      | nil =>
        intro fl3 up3 w
        refine wpAny_handleBy_nil ?_
        obtain ⟨k1, k2, k3, oe, vs, T, oT, ts', he, hz, hd, h1, hr⟩ := id fl3
        unfold PySem.passOn
        refine wpAny_bind (wpAny_field he hd h1 ?_)
        rw [if_neg (show ¬ ((Value.ref T == Value.none) = true) from by simp)]
        have fin : wpAny (model X.prog X.w) X.A (setFlight (.ref a) X.env.frame) (fun _ s4 => wpAny (model X.prog X.w) X.A (throw (.ref a) : Sem Flow) (SP X pins D) X.xe s4) X.xe { s' with heap := h3 } := by
          rw [hf]
          refine HandSPX.setFlight_upZ fl3 fun h4 hh4 up4 => wpAny_throw (tk _ _ ?_)
          exact ⟨a, B, sI, pins, σ', H', cls, d, rfl, J, nb, (up.trans up3).trans up4, .inr (.inr (by rw [hs]; exact hh4)), na, os, ag, w⟩
        first
          | exact wpAny_bind (wpAny_pure (wpAny_bind fin))
          | exact wpAny_bind fin
      | @cons te cs nm i ts b₀ suite pos' hds2 l2 ht hnm hsu r ih =>
        intro fl3 up3 w
        obtain ⟨b, hb1, hyes, hno⟩ := w
        have J3 : Inv X pins σ' H' { s' with heap := h3 } := J.landed nb fl3.1 (up.trans up3) os ag
        obtain ⟨oe3, vs3, he3, hz3, hd3⟩ := fl3.there
        have S3 := J3.suite he3 hd3 na nL nF
        cases hnm with
        | none =>
          refine wpAny_handleBy_cons (codeAny_handlers_test ?_) (by intro q; cases q)
          refine test_run ht S3 he3 hz3.1 hb1 fun h3' kk => ?_
          have fl3' := fly_kept fl3 kk
          have up3' : s'.heap.UpToSlots h3' := up3.trans (Heap.UpToSlots.of_keeps kk)
          cases b with
          | true =>
            refine codeAny_handlers_suite ?_
            refine HandSPX.lands_againZ fl3' fun h4 fl4 up4 => ?_
            have J4 : Inv X pins σ' H' { s' with heap := h4 } := J.landed nb fl4.1 ((up.trans up3').trans up4) os ag
            obtain ⟨oe4, vs4, he4, hz4, hd4⟩ := fl4.there
            have S4 := J4.suite he4 hd4 na nL nF
            refine wpAny_mono ((hsu a oe4 cls d ((a, oe4) :: (X.pn ++ pins)) hz4 ⟨_, hd4⟩ List.mem_cons_self ⟨rfl, vs4, hd4, hz4.2.2 vs4 hd4⟩).run [] _ _ H' _ S4 (hyes rfl a na)) (fun f s6 hsp => ?_) (fun _ _ z => False.elim z)
            cases f with
            | next =>
              obtain ⟨σ6, H6, S6, q6⟩ := hsp
              exact ⟨_, _, S6.unsuite ok, q6⟩
            | brk =>
              obtain ⟨σ6, H6, S6, q6⟩ := hsp
              exact ⟨_, _, S6.unsuite ok, q6⟩
            | cont =>
              obtain ⟨σ6, H6, S6, q6⟩ := hsp
              exact ⟨_, _, S6.unsuite ok, q6⟩
            | ret u =>
              obtain ⟨v6, σ6, H6, S6, r6, q6⟩ := hsp
              exact ⟨_, _, _, S6.unsuite ok, r6, q6⟩
          | false =>
            show wpAny _ X.A (handleBy (.ref a) X.env hds2) _ _ _
            exact ih fl3' up3' (hno rfl)
        | @some n i hN hi hln =>
          have hloc : Loc X.env.scope n := .inl hln
          refine wpAny_handleBy_cons (codeAny_handlers_test ?_) (by intro q; cases q)
          refine test_run ht S3 he3 hz3.1 hb1 fun h3' kk => ?_
          have fl3' := fly_kept fl3 kk
          have up3' : s'.heap.UpToSlots h3' := up3.trans (Heap.UpToSlots.of_keeps kk)
          cases b with
          | true =>
            refine codeAny_handlers_suite_as ?_
            refine HandSPX.lands_againZ fl3' fun h4 fl4 up4 => ?_
            have J4 : Inv X pins σ' H' { s' with heap := h4 } := J.landed nb fl4.1 ((up.trans up3').trans up4) os ag
            obtain ⟨oe4, vs4, he4, hz4, hd4⟩ := fl4.there
            have S4 := J4.suite he4 hd4 na nL nF
            refine store_ok (X := X.suite a ((a, oe4) :: (X.pn ++ pins))) (v := .ref a) S4 hN hi hloc rfl (fun s5 S5 => ?_) (.inr hln)
            refine wpAny_mono ((hsu a oe4 cls d ((a, oe4) :: (X.pn ++ pins)) hz4 ⟨_, hd4⟩ List.mem_cons_self ⟨rfl, vs4, hd4, hz4.2.2 vs4 hd4⟩).run [] s5 _ H' _ S5 (hyes rfl a na)) (fun f s6 hsp => ?_) (fun _ _ z => False.elim z)
            have end_ : ∀ {σ6 : L2.St} {H6 : Hp} {Q : Shared → Prop}, Inv (X.suite a ((a, oe4) :: (X.pn ++ pins))) [] σ6 H6 s6 → (∀ s7, Inv X pins (σ6.set i none) H6 s7 → Q s7) →
                wpAny (model X.prog X.w) X.A (do bindName X.env n .none; unbindBehindTheSuite X.env n pos') (fun _ s7 => Q s7) X.xe s6 := fun {σ6 H6 Q} S6 hq => gone_ok (S6.unsuite ok) hN hi hln hq
            cases f with
            | next =>
              obtain ⟨σ6, H6, S6, q6⟩ := hsp
              exact end_ S6 fun s7 J7 => ⟨_, _, J7, q6⟩
            | brk =>
              obtain ⟨σ6, H6, S6, q6⟩ := hsp
              exact end_ S6 fun s7 J7 => ⟨_, _, J7, q6⟩
            | cont =>
              obtain ⟨σ6, H6, S6, q6⟩ := hsp
              exact end_ S6 fun s7 J7 => ⟨_, _, J7, q6⟩
            | ret u =>
              obtain ⟨v6, σ6, H6, S6, r6, q6⟩ := hsp
              exact end_ S6 fun s7 J7 => ⟨_, _, _, J7, r6, q6⟩
          | false =>
            show wpAny _ X.A (handleBy (.ref a) X.env hds2) _ _ _
            exact ih fl3' up3' (hno rfl)
    exact go hh fl3 up3 w
  · cases f with
    | next =>
      obtain ⟨σ', H', J', q⟩ := hsp
      exact wpAny_execs_nil ⟨σ', H', J'.ofTry ok, q⟩
    | brk =>
      obtain ⟨σ', H', J', q⟩ := hsp
      exact ⟨σ', H', J'.ofTry ok, q⟩
    | cont =>
      obtain ⟨σ', H', J', q⟩ := hsp
      exact ⟨σ', H', J'.ofTry ok, q⟩
    | ret u =>
      obtain ⟨v, σ', H', J', r, q⟩ := hsp
      exact ⟨v, σ', H', J'.ofTry ok, r, q⟩
end
end LT
set_option Elab.async false
set_option linter.all false
set_option maxRecDepth 100000
set_option maxHeartbeats 4000000
/-! own errors with their own __init__: made and raised (their context told as None), asked for their class and read where they are handled. -/
namespace LX
open PySem PySem.Spec PyProof.Rows L2
/-! ### the __init__ of an error of one field -/
def spI1 (K : PySem.W.Frag) (f : Str) : Sp := fun vs H Q _ => ∃ (a C : Addr) (v : V), vs = [.ref a, v] ∧ OexC K C ∧ PySem.W.findIn K (.ref C) f = some none ∧ H a = some (exo a C none) ∧
  ∀ dx, H dx = none → dx ≠ a → Q .non (upd (upd H dx (exd dx [(f, v)])) a (exo a C (some dx)))
/-- of two fields -/
def spI2 (K : PySem.W.Frag) (f g : Str) : Sp := fun vs H Q _ => ∃ (a C : Addr) (v u : V), vs = [.ref a, v, u] ∧ OexC K C ∧ PySem.W.findIn K (.ref C) f = some none ∧ PySem.W.findIn K (.ref C) g = some none ∧ H a = some (exo a C none) ∧
  ∀ dx, H dx = none → dx ≠ a → Q .non (upd (upd (upd H dx (exd dx [(f, v)])) a (exo a C (some dx))) dx (exd dx [(g, u), (f, v)]))
section
variable {P : Program} {w : World} {K : PySem.W.Frag} {mg : Str → Option Value} {base : Heap} {fI : Addr} {fd : FuncData} {x qual f g : Str} {params : Arguments} {body : List Stmt} {scope : Scope}
theorem fn_init1 {k : Nat} (F : FunD K x qual params body scope [] [] fI fd) (S : FnScope ["self", f] ["self", f] scope) {q1 q2 q3 q4 : Pos} (hb : body = [.Assign [.Attribute (.Name "self" q1) f q2] (.Name f q3) q4])
    (v0 : Vis scope "self") (v1 : Vis scope f) (d1 : (f == ("__debug__" : Str)) = false) (d2 : (f == ("__classdict__" : Str)) = false) (hs : ∀ X : Cx, X.env.scope = scope → swapsWith (.Name f q3) (some (.Attribute (.Name "self" q1) f q2)) q4.line X.env = pure false) :
    FnOk P w K mg base CX0 (k + 1) fI fd ["self", f] (spI1 K f) := by
  refine F.ok S (fun vs H Q E h => ?_) (fun cdv A outer s H vs Q E hr h => ?_)
  · obtain ⟨a, C, v, e, _⟩ := h
    rw [e]
    rfl
  · obtain ⟨a, C, v, e, T, hn, ea, q⟩ := h
    subst e
    subst hb
    refine ⟨_, pss_one (ps_ost (pe_var (i := 0) rfl v0) (pe_var (i := 1) rfl v1 d1 d2) (hs _ rfl)), ?_⟩
    exact ⟨v, rfl, .ref a, rfl, a, C, rfl, T, hn, .inl ⟨ea, fun dx n ne => q dx n ne⟩⟩
end
/-! ### making one, its context None -/
section
variable {X : Cx} {pins : List (Addr × Obj)} {σ : L2.St}
theorem mk_endN {H1 H2 : Hp} {Q : XK} {hp hp2 h2 : Heap} {g1 g2 : Array GenState} {d1 d2 : Drawn} {t1 t2 : Nat} {os1 os2 : OsState} {a C d : Addr} {fs : List (Str × V)} (T : Raises X (.ref C)) (I1 : L2.Inv X pins σ H1 ⟨hp, g1, d1, t1, os1⟩)
    (ha : hp.objs.size ≤ a) (k : ∀ b o, hp.get? b = some o → hp2.get? b = some o) (un : Un (frs X.stack) [] (upd H1 a (exo a C none)) H2 hp2 h2) (hok : HOk X.prog X.w H2 h2) (ho : os2 = os1) (hb : AllBare g2)
    (ea : H2 a = some (exo a C (some d))) (ed : H2 d = some (exd d fs)) (hd1 : H1 d = none) (q : Q (.ref C) (some d) (upd (del H2 a) d (.xd fs))) : L2N.MkP X pins σ Q (.ref a) ⟨h2, g2, d2, t2, os2⟩ := by
  obtain ⟨t0, G, J, kG, ge, hoe, na⟩ := mk_end0 (d2 := d2) (t2 := t2) I1 ha k un hok ho hb ea ed hd1
  refine ⟨a, _, _, ⟨G, g2, d2, t2, os2⟩, _, .ref C, some d, rfl, J, kG, ge, hoe, ⟨rfl, rfl, fun vs e => ?_⟩, rfl, rfl, na, rfl, hb, T, q⟩
  cases e
  rfl
variable {e : Expr} {es : List Expr} {ta : TA} {p pos : Pos}
theorem pmk_oexN {CX : CXT} {x : Str} {C fI : Addr} {k : Nat} {fd : FuncData} {ps : List Str} {sp : Sp} (T : OexC X.K C) (iC : PySem.W.findIn X.K (.ref C) "__init__" = some (some (.ref fI))) (tI : PySem.W.typeIn X.K (.ref fI) = some (.type "function"))
    (F1 : FnOk X.prog X.w X.K X.mg X.base CX k fI fd ps sp) (hr : Room (k + 1) X.A) (hb : Binds X.K fd ps []) (hx : Passes CX X (fun _ _ _ => False)) (hg : Gl X x) (hm : X.mg x = some (.ref C)) (ha : PA X (e :: es) ta)
    (hdb : (x == ("__debug__" : Str)) = false := by decide) (he : starEach (e :: es) X.env = (false, eval e X.env) :: starEach es X.env := by rfl) (hpl : (backTo pos (starEach es X.env)).any (·.1) = false := by rfl) :
    L2N.PMk X (.Call (.Name x p) (e :: es) [] pos) (tMkO C sp [] ta) := by
  intro pins s σ H Q I h
  obtain ⟨nm, q, N, bs, bm, sn, sub, ab, col, dd, k0, k1, k2, k3, k5, hC, hbm⟩ := T.cls
  refine wpAny_Call_Name_kw (ld_glob I hg hm ?_ hdb)
  refine PySem.W.callWith_K (h₀ := X.base) I.ok.mod.kin T.kC (thn (ha.run pos pins s σ H _ I h) fun us s1 ⟨vs, H1, I1, r1, hz, q1⟩ => ⟨I1.kIn, ?_⟩) he hpl
  show wpAny _ _ (call (.ref C) us) _ _ _
  obtain ⟨hp, g, dr, tk, os⟩ := s1
  have hsz : hp.objs.size ≤ hp.objs.size + 1 := Nat.le_succ _
  have hn : H1 (hp.objs.size + 1) = none := I1.hok.fresh hsz
  have hq := q1 (hp.objs.size + 1) hn
  have kk : ∀ b o, hp.get? b = some o → ((hp.push (PySem.W.kdv_tup us)).push (PySem.HandSPX.excO C hp.objs.size)).get? b = some o := fun b o e => Heap.get?_push_of_some _ (Heap.get?_push_of_some _ e)
  have hget : ((hp.push (PySem.W.kdv_tup us)).push (PySem.HandSPX.excO C hp.objs.size)).get? (hp.objs.size + 1) = some (PySem.HandSPX.excO C hp.objs.size) := by heap_get
  have I2 : L2.Inv X pins σ (upd H1 (hp.objs.size + 1) (exo (hp.objs.size + 1) C none)) ⟨(hp.push (PySem.W.kdv_tup us)).push (PySem.HandSPX.excO C hp.objs.size), g, dr, tk, os⟩ :=
    I1.laid (t' := tk) (a := hp.objs.size + 1) (o := exo (hp.objs.size + 1) C none) (h' := (hp.push (PySem.W.kdv_tup us)).push (PySem.HandSPX.excO C hp.objs.size)) kk hsz (exo_ok hget)
  have r2 : Vals (V.ref (hp.objs.size + 1) :: (vs ++ [])) (Value.ref (hp.objs.size + 1) :: us) := .cons rfl (by rw [List.append_nil]; exact r1)
  have hl : (Value.ref (hp.objs.size + 1) :: us).length = ps.length := by
    have e := r2.length
    rw [F1.len _ _ _ _ hq] at e
    exact e.symm
  have hus : us.length ≤ sizeLine := by
    rw [← Paired.length r1, sizeLine_eq]
    omega
  have hbind := hb ⟨(hp.push (PySem.W.kdv_tup us)).push (PySem.HandSPX.excO C hp.objs.size), g, dr, tk, os⟩ (Value.ref (hp.objs.size + 1) :: us) I2.kIn (by rw [List.append_nil]; exact hl)
  rw [List.append_nil] at hbind
  refine wpAny_call (PySem.HandSPX.call_own F.excBase_ValueError (fun Y => PySem.HandSPX.refsVE_contains Y bm hbm) (I1.kIn _ _ hC) (PySem.W.looks_findIn I1.kIn iC) (fun self => PySem.W.bind_fn I1.kIn self tI) hus
    (codeAny_mono (F1.run _ X.stack _ _ ⟨Value.ref (hp.objs.size + 1) :: us, []⟩ (Value.ref (hp.objs.size + 1) :: us) _ _ (fun _ _ _ => False) (hr.make C us []) (I2.env0.make C us []) hbind r2 hq) fun r s' hq' => ?_))
  cases r with
  | error er => exact hx pins σ _ _ er s' I2 hq'
  | ok fl =>
    cases fl with
    | ret u =>
      obtain ⟨v, H2, os2, bare2, un2, hok2, rv, ev, d, fs, ea, ed, hd1, q2⟩ := hq'
      subst ev
      obtain ⟨h2, g2, d2, t2, os'⟩ := s'
      exact ⟨rv, mk_endN (raises_own T.exC T.tyC) I1 hsz kk un2 hok2 os2 bare2 ea ed hd1 q2⟩
    | next => exact False.elim hq'
    | brk => exact False.elim hq'
    | cont => exact False.elim hq'
end
/-- an error class of one field: where it stands, its maker -/
structure Ex1 (P : Program) (w : World) (K : PySem.W.Frag) (mg : Str → Option Value) (base : Heap) (x : Str) (C : Addr) (f : Str) : Prop where
  g : mg x = some (.ref C)
  T : OexC K C
  no : PySem.W.findIn K (.ref C) f = some none
  i : ∃ fI fd, PySem.W.findIn K (.ref C) "__init__" = some (some (.ref fI)) ∧ PySem.W.typeIn K (.ref fI) = some (.type "function") ∧ FnOk P w K mg base CX0 1 fI fd ["self", f] (spI1 K f) ∧ Binds K fd ["self", f] []
theorem heap2 {H1 : Hp} {a d : Addr} {o u v z : HO} (hn : H1 a = none) (ne : d ≠ a) : upd (del (upd (upd (upd H1 a o) d u) a v) a) d z = upd H1 d z := by
  funext b
  by_cases hb : b = d
  · rw [hb, upd_same, upd_same]
  · rw [upd_ne hb, upd_ne hb]
    by_cases h2 : b = a
    · rw [h2, del_same, hn]
    · rw [del_ne h2, upd_ne h2, upd_ne hb, upd_ne h2]
/-- what the maker's reading ends in -/
theorem mk1 {K : PySem.W.Frag} {C : Addr} {f : Str} {Q : XK} {v : V} {H1 : Hp} (T : OexC K C) (no : PySem.W.findIn K (.ref C) f = some none) (q : ∀ d, H1 d = none → Q (.ref C) (some d) (upd H1 d (.xd [(f, v)]))) :
    ([v] : List V).length ≤ 1000 ∧ ∀ a, H1 a = none → spI1 K f (.ref a :: ([v] ++ [])) (upd H1 a (exo a C none))
      (fun z H2 => z = .non ∧ ∃ (d : Addr) (fs : List (Str × V)), H2 a = some (exo a C (some d)) ∧ H2 d = some (exd d fs) ∧ H1 d = none ∧ Q (.ref C) (some d) (upd (del H2 a) d (.xd fs))) (fun _ _ _ => False) := by
  refine ⟨by show 1 ≤ 1000; decide, fun a ha => ⟨a, C, v, rfl, T, no, upd_same, fun dx n ne => ?_⟩⟩
  rw [upd_ne ne] at n
  refine ⟨rfl, dx, [(f, v)], upd_same, by rw [upd_ne ne, upd_same], n, ?_⟩
  rw [heap2 ha ne]
  exact q dx n
/-- raise X(e) -/
def tR1 (K : PySem.W.Frag) (C : Addr) (f : Str) (W : WX) (te : TE) : TS := fun _ σ H => tMkO C (spI1 K f) [] (tCons te tNil) σ H fun cls d H' => W cls d σ H'
section
variable {X : Cx} {x f : Str} {C : Addr} {e : Expr} {te : TE} {p pos pos2 : Pos} {W : WX}
theorem ps_raise1 (hc : X.calm = true) (tk : L2N.Takes X W) (T : Ex1 X.prog X.w X.K X.mg X.base x C f) (hr : Room 2 X.A) (he : PE X e te) (hg : Gl X x := by rfl) (hdb : (x == ("__debug__" : Str)) = false := by decide)
    (hst : starEach (e :: []) X.env = (false, eval e X.env) :: starEach [] X.env := by rfl) (hpl : (backTo pos (starEach [] X.env)).any (·.1) = false := by rfl) :
    PS X (.Raise (some (.Call (.Name x p) [e] [] pos)) none pos2) (tR1 X.K C f W te) := by
  obtain ⟨fI, fd, h1, h2, h3, h4⟩ := T.i
  exact L2N.ps_raise hc tk (pmk_oexN T.T h1 h2 h3 hr h4 pass0 hg T.g (pa_cons he pa_nil hst) hdb hst hpl)
end
/-! ### an error that is handled: its class, its fields -/
/-- what isinstance asks of the class D -/
structure ExQ (K : PySem.W.Frag) (D : Addr) : Prop where
  hg : PySem.W.findIn K (.ref D) "__getattribute__" = some (some (.builtin "BaseException.__getattribute__"))
  hk : PySem.W.findIn K (.ref D) "__getattr__" = some none
  hs : PySem.W.subIn K (.ref D) (.type "BaseException") = some true
  hd : PySem.W.hasDictIn K D = true
  ha : PySem.W.findIn K (.ref D) "__class__" = some (some (.builtin "object.__class__"))
  hn : PySem.W.specialIn K (.builtin "object.__class__") "__get__" = some (some (.builtin "getset_descriptor.__get__"))
  ht : PySem.W.takesIn K (.builtin "object.__class__") = some true
  hm : PySem.W.mroIn K D (.type "object") = some true
def exqB (K : PySem.W.Frag) (D : Addr) : Bool := decide (PySem.W.findIn K (.ref D) "__getattribute__" = some (some (.builtin "BaseException.__getattribute__"))) && (decide (PySem.W.findIn K (.ref D) "__getattr__" = some none) &&
  (decide (PySem.W.subIn K (.ref D) (.type "BaseException") = some true) && (PySem.W.hasDictIn K D && (decide (PySem.W.findIn K (.ref D) "__class__" = some (some (.builtin "object.__class__"))) &&
  (decide (PySem.W.specialIn K (.builtin "object.__class__") "__get__" = some (some (.builtin "getset_descriptor.__get__"))) && (decide (PySem.W.takesIn K (.builtin "object.__class__") = some true) && decide (PySem.W.mroIn K D (.type "object") = some true)))))))
theorem exqB_ok {K : PySem.W.Frag} {D : Addr} (h : exqB K D = true) : ExQ K D := by
  unfold exqB at h
  simp only [Bool.and_eq_true, decide_eq_true_eq] at h
  obtain ⟨h1, h2, h3, h4, h5, h6, h7, h8⟩ := h
  exact ⟨h1, h2, h3, h4, h5, h6, h7, h8⟩
end LX
namespace PySem.W
open PySem PySem.Spec PySem.Calls PyProof.Rows LX
section
variable {prog : Program} {w : World} {A : Around} {E : Value → Shared → Prop} {s : Shared} {K : Frag} {x D : Addr} {ox od : Obj}
/-- the class of an error with its own dict -/
theorem lx_classE {Q : Option Value → Shared → Prop} (C : ExQ K D) (X : K.In s.heap) (I : InstAt s.heap x ox D (some od)) (h : Q (some (.ref D)) { s with toks := s.toks + 1 }) : wpAny (model prog w) A (getAttr? (.ref x) "__class__") Q E s := by
  have hf : findObj K D (some od) "__class__" = some (.bind (.builtin "getset_descriptor.__get__") (.builtin "object.__class__")) := findObj_data (by obtain ⟨cd, hc, _⟩ := any_some C.hd; rw [hc]; rfl) C.ha C.hn C.ht
  obtain ⟨hp, g, d, t, os⟩ := s
  have L0 := I.type (M := model prog w)
  have L1 := looks_findIn (M := model prog w) X C.hg
  have L2 := looks_findIn (M := model prog w) X C.hk
  have L3 := looks_find (M := model prog w) X I hf
  have sub : Looks (model prog w) hp (isInstance (.ref x) (.type "BaseException")) true := L0.andThen (looks_subIn X C.hs)
  have hx0 : (false && onTheHeap (Value.builtin "BaseException.__getattribute__")) = false := rfl
  have hx2 : (Value.builtin "BaseException.__getattribute__" == Value.builtin "object.__getattribute__") = false := by decide +kernel
  have hx1 : (onTheHeap (Value.ref D) && Value.builtin "BaseException.__getattribute__" == Value.builtin "object.__getattribute__") = false := by rw [hx2]; rfl
  unfold getAttr? getAttrBy? getAttrBy
  refine wpAny_bind (wpAny_mkText (wpAny_bind (wpAny_attempt (wpAny_holding (wpAny_bind (L0.at (wpAny_bind (L1.at ?_))))))))
  show wpAny _ _ (if (onTheHeap (Value.ref D) && Value.builtin "BaseException.__getattribute__" == Value.builtin "object.__getattribute__") = true then _ else _) _ _ _
  rw [hx1, if_neg Bool.false_ne_true]
  unfold getAttrByItsOwn hookBefore
  refine wpAny_bind ?_
  rw [if_pos (show onTheHeap (Value.ref D) = true from rfl)]
  refine L2.at ?_
  refine wpAny_bind (wpAny_attempt (wpAny_holding ?_))
  unfold callGetattribute
  rw [hx0, if_neg Bool.false_ne_true]
  unfold boundAndCalled
  rw [PySem.F.excAttr_ValueError.ga.bind (.ref x)]
  refine wpAny_bind (wpAny_pure ?_)
  show wpAny _ _ (call (.builtin "BaseException.__getattribute__") [.ref x, .str "__class__" t]) _ _ _
  refine wpAny_call (codeAny_call_builtin PySem.F.excAttr_ValueError.ga.plain PySem.F.entry_bexc_ga ?_)
  refine @check_slot (model prog w) _ _ ⟨hp, g, d, t + 1, os⟩ "BaseException.__getattribute__" "BaseException" "__getattribute__" (.ref x) [.str "__class__" t] [] _ (by decide +kernel) (by decide +kernel) sub (PySem.F.args_bexc_ga (.ref x) (.str "__class__" t)) ?_
  unfold Builtin.«object.__getattribute__»
  refine wpAny_bind (wpAny_of_eq (a := ((Value.ref x : Value), [Value.str "__class__" t])) (by first | rfl | (simp only [slotArgs]; rfl)) ?_)
  refine wpAny_bind (wpAny_pure (wpAny_bind (L0.at (wpAny_bind (L3.at ?_)))))
  show wpAny _ _ (holding [Value.builtin "object.__class__"] (call (.builtin "getset_descriptor.__get__") [.builtin "object.__class__", .ref x, .ref D]) >>= ret) _ _ _
  refine wpAny_bind (wpAny_holding (wpAny_call (class_get (s := ⟨hp, g, d, t + 1, os⟩) (ox := ox) (od := some od) X I C.hm ?_)))
  refine wpAny_pure ?_
  show wpAny _ _ (handedOut (.ref D)) _ _ _
  rw [handedOut_of (v := .ref D) rfl]
  first
    | exact wpAny_pure (wpAny_pure h)
    | exact wpAny_pure h
    | exact wpAny_pure (wpAny_bind (wpAny_pure (wpAny_pure h)))
theorem lx_kit (C : ExQ K D) : KitX K (.ref x) (.ref D) (fun h => ∃ od, InstAt h x ox D (some od)) where
  ty := fun _ _ _ ⟨_, I⟩ => I.type
  it := fun _ _ X _ => by
    obtain ⟨cdD, hcD, _⟩ := any_some C.hd
    unfold clsIn at hcD
    split at hcD
    · rename_i c' d' cd' sl' ho
      intro A' Q' E' s' k q
      unfold isType loadHead
      exact wpAny_bind (wpAny_loadPart (k _ _ (X _ _ ho)) (wpAny_pure q))
    · cases hcD
  ne := fun h tp dd its n sl X htp => by
    obtain ⟨cdD, hcD, _⟩ := any_some C.hd
    refine Bool.eq_false_iff.mpr fun q => ?_
    have e : D = tp := Value.ref.inj (beq_iff_eq.mp q)
    subst e
    unfold clsIn at hcD
    split at hcD
    · rename_i c' d' cd' sl' ho
      have z := (X _ _ ho).symm.trans htp
      cases z
    · cases hcD
  ca := fun X ⟨_, I⟩ k => lx_classE C X I k
end
end PySem.W
namespace LX
open PySem PySem.Spec PyProof.Rows L2
section
variable {X : Cx} {pins : List (Addr × Obj)} {σ : L2.St} {H : Hp} {s : Shared} {a D d : Addr} {oe : Obj} {fs : List (Str × V)}
/-- the error at a, as the library's rules want it -/
theorem inst_of (I : L2.Inv X pins σ H s) (hp : (a, oe) ∈ X.pn) (hz : Zc (.ref D) (some d) oe) (hf : ∃ vs, oe.data = .fields vs) (hd : H d = some (.xd fs)) : ∃ od mA, PySem.W.InstAt s.heap a oe D (some od) ∧ s.heap.Ns1 d mA ∧ s.heap.get? d = some od ∧ ∀ f, RelO (fs.lookup f) (mA f) := by
  obtain ⟨hget, _⟩ := I.pin (a, oe) (List.mem_append_left _ hp)
  obtain ⟨vs, hv⟩ := hf
  have hx : ObjOk X.prog X.w H s.heap d (.xd fs) := I.hok d _ hd
  obtain ⟨mA, hns, hr⟩ := hx
  obtain ⟨od, es, ep, ho, hr2⟩ := id hns
  exact ⟨od, mA, ⟨hget, hz.1, by unfold PySem.W.notCls; rw [hv] <;> rfl, by rw [hz.2]; exact ho⟩, hns, ho, hr⟩
/-- isinstance(e, c), e the error that is handled -/
def rIsX (K : PySem.W.Frag) (D a d : Addr) : List V → Hp → VK → Prop := fun xs H Q => ∃ (c : V) (cv : Value) (b : Bool) (fs : List (Str × V)), xs = [.ref a, c] ∧ ClsV c cv ∧ H d = some (.xd fs) ∧ PySem.W.kitOne K (.ref D) cv = some b ∧ Q (.bl b) H
theorem call_isX (C : ExQ X.K D) (hp : (a, oe) ∈ X.pn) (hz : Zc (.ref D) (some d) oe) (hf : ∃ vs, oe.data = .fields vs) : CallR X (.builtin "isinstance") (rIsX X.K D a d) := by
  intro pins s σ H xs us Q I r h
  obtain ⟨c, cv, b, fs, rfl, hcv, hd, e, q⟩ := h
  obtain ⟨u1, u2, rfl, r1, r2⟩ := vals2 r
  cases (show u1 = Value.ref a from r1)
  have ec := hcv.eq r2
  subst ec
  obtain ⟨od, mA, J, _⟩ := inst_of I hp hz hf hd
  exact PySem.W.kia_one (PySem.W.lx_kit C) I.kIn ⟨od, J⟩ e (fun z => nomatch z) fun tk => ⟨.bl b, H, I.tok tk, rfl, q⟩
/-- e.f, e the error that is handled -/
def tXg (a D d : Addr) (f : Str) (te : TE) : TE := fun σ H Q => te σ H fun x H1 => x = .ref a ∧ ∃ (fs : List (Str × V)) (v : V), H1 d = some (.xd fs) ∧ fs.lookup f = some v ∧ Q v H1
theorem pe_xg {e : Expr} {te : TE} {pos : Pos} {f : Str} (C : ExQ X.K D) (hno : PySem.W.findIn X.K (.ref D) f = some none) (hp : (a, oe) ∈ X.pn) (hz : Zc (.ref D) (some d) oe) (hf : ∃ vs, oe.data = .fields vs) (he : PE X e te)
    (hb : attributeBase e f X.env (eval e X.env) = eval e X.env := by rfl) : PE X (.Attribute e f pos) (tXg a D d f te) := by
  refine ⟨fun pins s σ H Q I h => ?_⟩
  refine attr_of hb (thn (he.run pins s σ H _ I h) fun u s1 hh => ?_)
  obtain ⟨x, H1, I1, rx, ex, fs, v, ed, l, q⟩ := hh
  subst ex
  obtain rfl : u = Value.ref a := rx
  obtain ⟨od0, mA, J, hns, ho, hr⟩ := inst_of I1 hp hz hf ed
  obtain ⟨od, ho2, hl⟩ := lookIn_ns hns
  rw [ho] at ho2
  cases ho2
  obtain ⟨u, hu, ru⟩ := RelO.some_of (v := v) (o := mA f) (by rw [← l]; exact hr f)
  exact HandSPX.exc_get I1.kIn J C.hg C.hk C.hs (PySem.W.findObj_own C.hd hno rfl (by rw [hl, hu])) (handed_of ru) ⟨v, H1, I1.tok _, ru, q⟩
end
/-! ### a def that runs where an error is handled, and may be told of it -/
structure FnE (P : Program) (w : World) (K : PySem.W.Frag) (mg : Str → Option Value) (base : Heap) (CX : CXT) (k : Nat) (f : Addr) (fd : FuncData) (ps : List Str) (sp : Addr × Obj → Sp) : Prop where
  len : ∀ p vs H Q E, sp p vs H Q E → vs.length = ps.length
  run : ∀ (A : Around) (outer : List Env) (s : Shared) (H : Hp) (args : Args) (us : List Value) (vs : List V) (Q : VK) (E : XK) (p : Addr × Obj), L2H.RoomH k A → A.guards = some [] → L2H.Hot1 A p → L2H.PinOk outer H s p → Env0 P w K mg base A outer s H →
    BindsTo s fd args (ps.zip us) → Vals vs us → sp p vs H Q E → codeAny (model P w) A (.call (.ref f) args) (CR CX outer P w H s Q E) s
section
variable {P : Program} {w : World} {K : PySem.W.Frag} {mg : Str → Option Value} {base : Heap} {x qual : Str} {params : Arguments} {body : List Stmt} {scope : Scope} {f : Addr} {fd : FuncData}
theorem okE {CX : CXT} {N ps : List Str} {k : Nat} {sp : Addr × Obj → Sp} {dvs : List V} (F : FunD K x qual params body scope dvs [] f fd) (S : FnScope N ps scope) (len : ∀ p vs H Q E, sp p vs H Q E → vs.length = ps.length)
    (hbody : ∀ (cdv : Value) (A : Around) (outer : List Env) (s : Shared) (H : Hp) (vs : List V) (Q : VK) (E : XK) (p : Addr × Obj), (A.deeper (envOfC qual scope s.heap.objs.size f cdv)).guards = some [] → L2H.Hot1 (A.deeper (envOfC qual scope s.heap.objs.size f cdv)) p → L2H.RoomH k (A.deeper (envOfC qual scope s.heap.objs.size f cdv)) → sp p vs H Q E →
      ∃ t, PSs (L2H.cxH CX P w K mg base N qual scope f cdv A outer s H E p) body t ∧ t { nx := fun _ H' => Q .non H', rt := Q } (L2.start N vs) H) : FnE P w K mg base CX (k + 1) f fd ps sp := by
  obtain ⟨oc, od, dV, kV, doc, pm, an, cdv, ct, osl, rfl, lk, hcd, _, _⟩ := F.ex
  refine ⟨len, fun A outer s H args us vs Q E p hr hgu hot hpin e0 hb r hsp => ?_⟩
  have hl := len _ _ _ _ _ hsp
  have KX : K.In s.heap := e0.mod.kin.keeps fun b o e => (e0.bs b o e).1
  have lim : s.heap.NoLimit := e0.mod.nolimit.keeps fun b o e => (e0.bs b o e).1
  have hkind : ∀ y ∈ ps.zip us, scope.names.lookup y.1 = some .local ∨ (scope.names.lookup y.1 = some .cell ∧ ((cellsFrom (s.heap.objs.size + 1) scope.names []).lookup y.1).isSome = true) := fun ⟨n, v⟩ hy => by
    rcases S.par n (List.of_mem_zip hy).1 with q | q
    · exact .inl q
    · exact .inr ⟨q, PySem.W.cellsFrom_some _ _ _ (.inl q)⟩
  refine codeAny_call_function hr.depth (KX _ _ lk) rfl S.co S.gen rfl (PySem.W.codeRec_of KX hcd) (hb _ _ _ _ ?_)
  refine wpAny_newFunctionEnv_cells S.kind hkind fun env he s1 x => ?_
  subst he
  refine ⟨lim.keeps x.toInCall.keep, codeAny_func ?_⟩
  obtain ⟨t, ht, hq⟩ := hbody cdv A outer s H vs Q E p hgu hot (hr.deeper _) hsp
  have I := L2H.inv_startH (CX := CX) (E := E) S hpin e0 hl r x
  refine wpAny_mono (ht.run [] s1 (L2.start N vs) H _ I hq) (fun fl s' hs => ?_) fun e s' hs => hs
  have fin : ∀ {σ' : L2.St} {H' : Hp} {v : V} {u : Value}, L2.Inv (L2H.cxH CX P w K mg base N qual scope f cdv A outer s H E p) [] σ' H' s' → L2.RelV v u → Q v H' → CE outer P w H s Q u s' :=
    fun {σ' H' v u} J rv q => ⟨v, H', J.os, J.bare, J.base, J.hok, rv, q⟩
  cases fl with
  | ret u =>
    obtain ⟨v, σ', H', J, rv, q⟩ := hs
    exact fin J rv q
  | next =>
    obtain ⟨σ', H', J, q⟩ := hs
    exact fin (v := V.non) (u := Value.none) J rfl q
  | brk =>
    obtain ⟨_, _, _, q⟩ := hs
    exact False.elim q
  | cont =>
    obtain ⟨_, _, _, q⟩ := hs
    exact False.elim q
end
section
variable {X : Cx} {CX : CXT} {k : Nat} {f : Addr} {fd : FuncData} {ps : List Str} {sp : Addr × Obj → Sp} {E : L2.St → XK} {x : Str} {q pos : Pos} {e : Expr} {es : List Expr} {t : TA} {p : Addr × Obj}
theorem pe_callE (F : FnE X.prog X.w X.K X.mg X.base CX k f fd ps sp) (hr : L2H.RoomH k X.A) (hgu : X.A.guards = some []) (hot : L2H.Hot1 X.A p) (hp : p ∈ X.pn) (hm : X.mg x = some (.ref f)) (hk : PySem.W.keepIn X.K (.ref f) = true) (hb : Binds X.K fd ps []) (hx : ∀ σ, PassesAt CX X σ (E σ))
    (ha : PA X (e :: es) t) (hg : Gl X x := by rfl) (hdb : (x == ("__debug__" : Str)) = false := by decide) (he : starEach (e :: es) X.env = (false, eval e X.env) :: starEach es X.env := by rfl) (hpl : (backTo pos (starEach es X.env)).any (·.1) = false := by rfl) :
    PE X (.Call (.Name x q) (e :: es) [] pos) (tCallS (sp p) E t) := by
  refine ⟨fun pins s σ H Q I h => ?_⟩
  refine wpAny_Call_Name_kw (ld_glob I hg hm ?_ hdb)
  refine PySem.W.callWith_K (h₀ := X.base) I.ok.mod.kin hk (thn (ha.run pos pins s σ H _ I h) fun us s1 ⟨vs, H1, I1, r, q⟩ => ⟨I1.kIn, ?_⟩) he hpl
  have hl : us.length = ps.length := by rw [← r.length]; exact F.len _ _ _ _ _ q
  have b := hb s1 us I1.kIn (by rw [List.append_nil]; exact hl)
  rw [List.append_nil] at b
  have P1 := I1.pin p (List.mem_append_left _ hp)
  have hpin : L2H.PinOk X.stack H1 s1 p := ⟨P1.1, P1.2.1, fun hm => (List.mem_cons.mp (I1.stkSub p.1 hm)).elim P1.2.2.1 P1.2.2.2.1, P1.2.2.2.2⟩
  refine wpAny_call (codeAny_mono (F.run X.A X.stack s1 H1 ⟨us, []⟩ us vs Q (E σ) p hr hgu hot hpin I1.env0 b r q) fun r s' hq => ?_)
  cases r with
  | error e => exact hx σ pins H1 s1 e s' I1 hq
  | ok fl =>
    cases fl with
    | ret u => exact I1.after hq
    | next => exact False.elim hq
    | brk => exact False.elim hq
    | cont => exact False.elim hq
end
theorem passE0 {X : Cx} : ∀ σ, PassesAt CX0 X σ (fun _ _ _ => False) := fun _ _ _ _ _ _ _ h => h.elim
end LX
set_option Elab.async false
set_option linter.all false
set_option maxRecDepth 100000
set_option maxHeartbeats 4000000
/-! repr of data at any depth, dicts too, where no other repr is under way (the guards are told). -/
namespace LR
open PySem PySem.Spec PyProof.Rows L2
def kD : Key → PyData
  | .inl i => .int i
  | .inr x => .str x
mutual
inductive Dr (K : PySem.W.Frag) (H : Hp) : V → PyData → Prop
  | non : Dr K H .non .none
  | bl (b : Bool) : Dr K H (.bl b) (.bool b)
  | int (i : Int) : Dr K H (.int i) (.int i)
  | str (x : Str) : Dr K H (.str x) (.str x)
  | lst {a : Addr} {xs : List V} {ds : List PyData} : SqL K H a xs → DrAll K H xs ds → Dr K H (.ref a) (.list ds)
  | tup {a : Addr} {xs : List V} {ds : List PyData} : SqT K H a xs → DrAll K H xs ds → Dr K H (.ref a) (.tuple ds)
  | dic {a : Addr} {kvs : List (Key × V)} {ds : List (PyData × PyData)} : H a = some (.dK kvs) → kvs.map (fun p => kD p.1) = ds.map (·.1) → DrAll K H (kvs.map (·.2)) (ds.map (·.2)) → Dr K H (.ref a) (.dict ds)
inductive DrAll (K : PySem.W.Frag) (H : Hp) : List V → List PyData → Prop
  | nil : DrAll K H [] []
  | cons {v : V} {vs : List V} {d : PyData} {ds : List PyData} : Dr K H v d → DrAll K H vs ds → DrAll K H (v :: vs) (d :: ds)
end
mutual
theorem Dr.of {K : PySem.W.Frag} {H : Hp} : ∀ (d : PyData) (v : V), Dp K H v d → Dr K H v d
  | .none, _, h => by cases h; exact .non
  | .bool b, _, h => by cases h; exact .bl b
  | .int i, _, h => by cases h; exact .int i
  | .str x, _, h => by cases h; exact .str x
  | .list ds, _, h => by
    cases h with
    | lst hs ha => exact .lst hs (DrAll.of ds _ ha)
  | .tuple ds, _, h => by
    cases h with
    | tup hs ha => exact .tup hs (DrAll.of ds _ ha)
  | .dict _, _, h => by cases h
theorem DrAll.of {K : PySem.W.Frag} {H : Hp} : ∀ (ds : List PyData) (vs : List V), DpAll K H vs ds → DrAll K H vs ds
  | [], _, h => by cases h; exact .nil
  | d :: ds, _, h => by
    cases h with
    | cons h1 h2 => exact .cons (Dr.of d _ h1) (DrAll.of ds _ h2)
end
mutual
theorem Dr.same {K : PySem.W.Frag} {H H' : Hp} (e : ∀ b o, H b = some o → (∀ ps, o ≠ .tbl ps) → H' b = some o) : ∀ (d : PyData) (v : V), Dr K H v d → Dr K H' v d
  | .none, _, h => by cases h; exact .non
  | .bool b, _, h => by cases h; exact .bl b
  | .int i, _, h => by cases h; exact .int i
  | .str x, _, h => by cases h; exact .str x
  | .list ds, _, h => by
    cases h with
    | lst hs ha =>
      refine .lst ?_ (DrAll.same e ds _ ha)
      rcases hs with (h | ⟨o, h⟩) | h
      · exact .inl (.inl (e _ _ h (fun _ z => by cases z)))
      · exact .inl (.inr ⟨o, e _ _ h (fun _ z => by cases z)⟩)
      · exact .inr h
  | .tuple ds, _, h => by
    cases h with
    | tup hs ha =>
      refine .tup ?_ (DrAll.same e ds _ ha)
      rcases hs with (h | ⟨o, h⟩) | h
      · exact .inl (.inl (e _ _ h (fun _ z => by cases z)))
      · exact .inl (.inr ⟨o, e _ _ h (fun _ z => by cases z)⟩)
      · exact .inr h
  | .dict ds, _, h => by
    cases h with
    | dic hd hk ha => exact .dic (e _ _ hd (fun _ z => by cases z)) hk (DrAll.sameKv e ds _ ha)
theorem DrAll.same {K : PySem.W.Frag} {H H' : Hp} (e : ∀ b o, H b = some o → (∀ ps, o ≠ .tbl ps) → H' b = some o) : ∀ (ds : List PyData) (vs : List V), DrAll K H vs ds → DrAll K H' vs ds
  | [], _, h => by cases h; exact .nil
  | d :: ds, _, h => by
    cases h with
    | cons h1 h2 => exact .cons (Dr.same e d _ h1) (DrAll.same e ds _ h2)
theorem DrAll.sameKv {K : PySem.W.Frag} {H H' : Hp} (e : ∀ b o, H b = some o → (∀ ps, o ≠ .tbl ps) → H' b = some o) : ∀ (ds : List (PyData × PyData)) (vs : List V), DrAll K H vs (ds.map (·.2)) → DrAll K H' vs (ds.map (·.2))
  | [], _, h => by cases h; exact .nil
  | (k, d) :: ds, _, h => by
    cases h with
    | cons h1 h2 => exact .cons (Dr.same e d _ h1) (DrAll.sameKv e ds _ h2)
end
/-- sys.modules stands in the written part as a dict -/
def SysM (K : PySem.W.Frag) : Prop := ∃ o, K.lookup sysModules = some o ∧ o.cls = .type "dict"
def sysB (K : PySem.W.Frag) : Bool := match K.lookup sysModules with
  | some ⟨.type c, _, _, _⟩ => decide (c = "dict")
  | _ => false
theorem sysB_ok {K : PySem.W.Frag} (h : sysB K = true) : SysM K := by
  unfold sysB at h
  split at h
  · rename_i c d dt sl q
    exact ⟨_, q, congrArg Value.type (of_decide_eq_true h)⟩
  · cases h
theorem keys_read {h : Heap} {P : Program} {w : World} : ∀ {es : List DictEntry} {kvs : List (Key × Value)}, Pairs (mixKind P w) es kvs → ReadsAll h (es.map (·.key)) (kvs.map fun p => kD p.1) [] ∧ es.map (·.val) = kvs.map (·.2)
  | _, _, .nil => ⟨.nil, rfl⟩
  | _, _, .cons (e := e) (kv := kv) (es := es) (kvs := kvs) hk hv r => by
    obtain ⟨h1, h2⟩ := keys_read r
    have hk' : keyIs kv.1 e.key = true := hk
    refine ⟨?_, by rw [List.map_cons, List.map_cons, hv, h2]⟩
    have z : Reads h e.key (kD kv.1) [] := by
      rcases keyIs_shape hk' with ⟨i, t, e1, e2⟩ | ⟨x, t, e1, e2⟩
      · rw [e1, e2]
        exact Reads.int i t
      · rw [e1, e2]
        exact Reads.str x t
    exact ReadsAll.cons (as := []) (bs := []) z h1
theorem kv_keys {kvs : List (Key × V)} {vs : List (Key × Value)} (r : KV kvs vs) : vs.map (fun p => kD p.1) = kvs.map (fun p => kD p.1) ∧ Vals (kvs.map (·.2)) (vs.map (·.2)) := by
  unfold KV at r
  induction r with
  | nil => exact ⟨rfl, .nil⟩
  | cons h r ih =>
    obtain ⟨h1, h2⟩ := h
    obtain ⟨i1, i2⟩ := ih
    refine ⟨?_, .cons h2 i2⟩
    rw [List.map_cons, List.map_cons, i1, h1]
section
variable {X : Cx} {pins : List (Addr × Obj)} {σ : L2.St} {H : Hp} {s : Shared}
mutual
theorem Dr.reads (hm : SysM X.K) (I : L2.Inv X pins σ H s) : ∀ (d : PyData) (v : V) (u : Value), Dr X.K H v d → L2.RelV v u → ∃ as, Reads s.heap u d as ∧ sysModules ∉ as
  | .none, _, _, h, r => by
    cases h
    cases r
    exact ⟨_, Reads.none, by simp⟩
  | .bool b, _, _, h, r => by
    cases h
    cases r
    exact ⟨_, Reads.bool b, by simp⟩
  | .int i, _, _, h, r => by
    cases h
    obtain ⟨t, rfl⟩ := r
    exact ⟨_, Reads.int i t, by simp⟩
  | .str x, _, _, h, r => by
    cases h
    obtain ⟨t, rfl⟩ := r
    exact ⟨_, Reads.str x t, by simp⟩
  | .list ds, _, _, h, r => by
    cases h with
    | lst hs ha =>
      cases r
      obtain ⟨its, rv, ⟨o, n, ho, hc, _, hd⟩, _⟩ := I.list hs
      obtain ⟨as, hr, hn⟩ := Dr.readsAll hm I ds _ its ha rv
      refine ⟨_, Reads.list ho hc hd hr, fun z => ?_⟩
      rcases List.mem_cons.mp z with z | z
      · obtain ⟨o2, q1, q2⟩ := hm
        have q3 := I.kIn _ _ q1
        rw [z, ho] at q3
        cases q3
        rw [hc] at q2
        injection q2 with q4
        exact absurd q4 (by decide)
      · exact hn z
  | .tuple ds, _, _, h, r => by
    cases h with
    | tup hs ha =>
      cases r
      obtain ⟨its, rv, ⟨o, ho, hc, n, hd⟩, _⟩ := I.tuple hs
      obtain ⟨as, hr, hn⟩ := Dr.readsAll hm I ds _ its ha rv
      exact ⟨_, Reads.tuple ho hc hd hr, hn⟩
  | .dict ds, _, _, h, r => by
    cases h with
    | @dic a kvs _ hd hk ha =>
      cases r
      obtain ⟨_, hs, vs, rv, o, es, ep, ho, he, hdat, _, hp, _⟩ := (show ObjOk X.prog X.w H s.heap a (.dK kvs) from I.hok a _ hd)
      obtain ⟨k1, k2⟩ := keys_read (h := s.heap) hp
      obtain ⟨r1, r2⟩ := kv_keys rv
      rw [r1, hk] at k1
      rw [← k2] at r2
      obtain ⟨bs, hr, hn⟩ := Dr.readsKv hm I ds _ _ ha r2
      refine ⟨_, Reads.dict ho he.1 hdat k1 hr, fun z => ?_⟩
      have z : sysModules ∈ a :: bs := by simpa using z
      rcases List.mem_cons.mp z with z | z
      · have q : (a == sysModules) = true := by rw [z]; exact beq_self_eq_true _
        rw [hs] at q
        cases q
      · exact hn z
theorem Dr.readsAll (hm : SysM X.K) (I : L2.Inv X pins σ H s) : ∀ (ds : List PyData) (vs : List V) (us : List Value), DrAll X.K H vs ds → Vals vs us → ∃ as, ReadsAll s.heap us ds as ∧ sysModules ∉ as
  | [], _, _, h, r => by
    cases h
    cases r
    exact ⟨_, ReadsAll.nil, by simp⟩
  | d :: ds, _, _, h, r => by
    cases h with
    | cons h1 h2 =>
      cases r with
      | cons r1 r2 =>
        obtain ⟨as, q1, n1⟩ := Dr.reads hm I d _ _ h1 r1
        obtain ⟨bs, q2, n2⟩ := Dr.readsAll hm I ds _ _ h2 r2
        exact ⟨_, ReadsAll.cons q1 q2, fun z => (List.mem_append.mp z).elim n1 n2⟩
theorem Dr.readsKv (hm : SysM X.K) (I : L2.Inv X pins σ H s) : ∀ (ds : List (PyData × PyData)) (vs : List V) (us : List Value), DrAll X.K H vs (ds.map (·.2)) → Vals vs us → ∃ as, ReadsAll s.heap us (ds.map (·.2)) as ∧ sysModules ∉ as
  | [], _, _, h, r => by
    cases h
    cases r
    exact ⟨_, ReadsAll.nil, by simp⟩
  | (k, d) :: ds, _, _, h, r => by
    cases h with
    | cons h1 h2 =>
      cases r with
      | cons r1 r2 =>
        obtain ⟨as, q1, n1⟩ := Dr.reads hm I d _ _ h1 r1
        obtain ⟨bs, q2, n2⟩ := Dr.readsKv hm I ds _ _ h2 r2
        exact ⟨_, ReadsAll.cons q1 q2, fun z => (List.mem_append.mp z).elim n1 n2⟩
end
end
/-- repr(x) -/
def rRepr (K : PySem.W.Frag) : List V → Hp → VK → Prop := fun xs H Q => ∃ (a : Addr) (d : PyData), xs = [.ref a] ∧ Dr K H (.ref a) d ∧ d.showable = true ∧ d.depth ≤ 40 ∧ d.shown.length ≤ sizeLine ∧ Q (.str d.shown) H
theorem call_repr {X : Cx} (hm : SysM X.K) (hg : X.A.guards = some []) (hu : X.A.units + 60 < cLine) : CallR X (.builtin "repr") (rRepr X.K) := by
  intro pins s σ H xs us Q I r h
  obtain ⟨a, d, rfl, hd, hs, hdep, hsz, q⟩ := h
  obtain ⟨u, rfl, ru⟩ := vals1 r
  cases (show u = Value.ref a from ru)
  obtain ⟨as, hr, hn⟩ := Dr.reads hm I d _ _ hd (rfl : L2.RelV (.ref a) (.ref a))
  exact repr_of_reads' hr hs (fun _ => hn) hg (by omega) (fun _ _ z => z) (fun h' u tk k => ⟨.str d.shown, H, I.kept (t' := tk) k, ⟨u, rfl⟩, q⟩) hsz
end LR
set_option Elab.async false
set_option linter.all false
set_option maxRecDepth 100000
set_option maxHeartbeats 4000000
/-! defs that run where no repr is under way (FnG); lambdas handed to such a def; a law's end for such a law. -/
namespace LL
open PySem PySem.Spec PyProof.Rows L2 LamX
/-! ### defs with the guards told -/
structure FnG (P : Program) (w : World) (K : PySem.W.Frag) (mg : Str → Option Value) (base : Heap) (CX : CXT) (k : Nat) (f : Addr) (fd : FuncData) (ps : List Str) (sp : Sp) : Prop where
  len : ∀ vs H Q E, sp vs H Q E → vs.length = ps.length
  run : ∀ (A : Around) (outer : List Env) (s : Shared) (H : Hp) (args : Args) (us : List Value) (vs : List V) (Q : VK) (E : XK), Room k A → A.guards = some [] → Env0 P w K mg base A outer s H → BindsTo s fd args (ps.zip us) → Vals vs us → sp vs H Q E →
    codeAny (model P w) A (.call (.ref f) args) (CR CX outer P w H s Q E) s
theorem FnG.mono {P : Program} {w : World} {K : PySem.W.Frag} {mg : Str → Option Value} {base : Heap} {CX : CXT} {j k : Nat} {f : Addr} {fd : FuncData} {ps : List Str} {sp : Sp} (F : FnG P w K mg base CX j f fd ps sp) (h : j ≤ k) :
    FnG P w K mg base CX k f fd ps sp := ⟨F.len, fun A outer s H args us vs Q E hr => F.run A outer s H args us vs Q E (hr.mono h)⟩
theorem toG {P : Program} {w : World} {K : PySem.W.Frag} {mg : Str → Option Value} {base : Heap} {CX : CXT} {k : Nat} {f : Addr} {fd : FuncData} {ps : List Str} {sp : Sp} (F : FnOk P w K mg base CX k f fd ps sp) : FnG P w K mg base CX k f fd ps sp :=
  ⟨F.len, fun A outer s H args us vs Q E hr _ => F.run A outer s H args us vs Q E hr⟩
/-- the body's run, from a call in a told state -/
theorem run_body {CX : CXT} {P : Program} {w : World} {K : PySem.W.Frag} {mg : Str → Option Value} {base : Heap} {k : Nat} {f : Addr} {fd : FuncData} {x qual : Str} {params : Arguments} {body : List Stmt} {scope : Scope} {dvs0 : List V} {N ps : List Str} (F : FunD K x qual params body scope dvs0 [] f fd) (S : FnScope N ps scope)
    {A : Around} {outer : List Env} {s : Shared} {H : Hp} {args : Args} {us : List Value} {vs : List V} {Q : VK} {E : XK} (hr : Room (k + 1) A) (e0 : Env0 P w K mg base A outer s H) (hb : BindsTo s fd args (ps.zip us)) (r : Vals vs us) (hl : vs.length = ps.length)
    (hbody : Room k (A.deeper (envOfC qual scope s.heap.objs.size f fd.code)) → ∃ t, PSs (cxOf CX P w K mg base N qual scope f fd.code A outer s H E) body t ∧ t { nx := fun _ H' => Q .non H', rt := Q } (L2.start N vs) H) :
    codeAny (model P w) A (.call (.ref f) args) (CR CX outer P w H s Q E) s := by
  obtain ⟨oc, od, dV, kV, doc, pm, an, cdv, ct, osl, rfl, lk, hcd, _, _⟩ := F.ex
  exact run_ofS lk hcd S hr e0 hb r hl hbody
section
variable {P : Program} {w : World} {K : PySem.W.Frag} {mg : Str → Option Value} {base : Heap} {x qual : Str} {params : Arguments} {body : List Stmt} {scope : Scope} {dvs0 : List V} {f : Addr} {fd : FuncData}
theorem okG {CX : CXT} {N ps : List Str} {k : Nat} {sp : Sp} (F : FunD K x qual params body scope dvs0 [] f fd) (S : FnScope N ps scope) (len : ∀ vs H Q E, sp vs H Q E → vs.length = ps.length)
    (hbody : ∀ (A : Around) (outer : List Env) (s : Shared) (H : Hp) (vs : List V) (Q : VK) (E : XK), Room k (A.deeper (envOfC qual scope s.heap.objs.size f fd.code)) → (A.deeper (envOfC qual scope s.heap.objs.size f fd.code)).guards = some [] → sp vs H Q E →
      ∃ t, PSs (cxOf CX P w K mg base N qual scope f fd.code A outer s H E) body t ∧ t { nx := fun _ H' => Q .non H', rt := Q } (L2.start N vs) H) : FnG P w K mg base CX (k + 1) f fd ps sp :=
  ⟨len, fun A outer s H args us vs Q E hr hg e0 hb r hsp => run_body F S hr e0 hb r (len _ _ _ _ hsp) fun hr' => hbody A outer s H vs Q E hr' hg hsp⟩
end
section
variable {X : Cx} {CX : CXT} {k : Nat} {f : Addr} {fd : FuncData} {ps : List Str} {sp : Sp} {E : XK} {x : Str} {p pos : Pos} {e : Expr} {es : List Expr} {t : TA} {dvs : List V} {ds : List Value}
theorem pe_callG (F : FnG X.prog X.w X.K X.mg X.base CX k f fd ps sp) (hr : Room k X.A) (hgu : X.A.guards = some []) (hm : X.mg x = some (.ref f)) (hk : PySem.W.keepIn X.K (.ref f) = true) (hb : Binds X.K fd ps []) (hx : Passes CX X E)
    (ha : PA X (e :: es) t) (hg : Gl X x := by rfl) (hdb : (x == ("__debug__" : Str)) = false := by decide) (he : starEach (e :: es) X.env = (false, eval e X.env) :: starEach es X.env := by rfl) (hpl : (backTo pos (starEach es X.env)).any (·.1) = false := by rfl) :
    PE X (.Call (.Name x p) (e :: es) [] pos) (tCall sp [] E t) := by
  refine ⟨fun pins s σ H Q I h => ?_⟩
  refine wpAny_Call_Name_kw (ld_glob I hg hm ?_ hdb)
  refine PySem.W.callWith_K (h₀ := X.base) I.ok.mod.kin hk (thn (ha.run pos pins s σ H _ I h) fun us s1 ⟨vs, H1, I1, r, q⟩ => ⟨I1.kIn, ?_⟩) he hpl
  have q : sp (vs ++ []) H1 Q E := q
  rw [List.append_nil] at q
  have hl : us.length = ps.length := by rw [← r.length]; exact F.len _ _ _ _ q
  have b := hb s1 us I1.kIn (by rw [List.append_nil]; exact hl)
  rw [List.append_nil] at b
  refine wpAny_call (codeAny_mono (F.run X.A X.stack s1 H1 ⟨us, []⟩ us vs Q E hr hgu I1.env0 b r q) fun r s' hq => ?_)
  cases r with
  | error e => exact hx pins σ H1 s1 e s' I1 hq
  | ok fl =>
    cases fl with
    | ret u => exact I1.after hq
    | next => exact False.elim hq
    | brk => exact False.elim hq
    | cont => exact False.elim hq
end
/-! ### a lambda's body, its errors' contexts told -/
def lamCxN (X : Cx) (A : Around) (outer : List Env) (s : Shared) (H : Hp) (E : XK) (scope : Scope) (f c' : Addr) : Cx :=
  (lamCx X A outer s H E scope f c').wish fun e s' => wpAny (model X.prog X.w) (A.deeper (lamEnv X scope s.heap.objs.size f c')) (leaving (lamEnv X scope s.heap.objs.size f c') e) (fun _ s'' => L2N.CX X.prog X.w outer H s E e s'') (fun e' s'' => L2N.CX X.prog X.w outer H s E e' s'') s'
section
variable {X : Cx} {pins : List (Addr × Obj)} {σ : L2.St} {H HZ : Hp} {s s1 : Shared}
/-- x(), in the def that got the lambda: Z is that def's context, entered at s -/
theorem pe_actN {CXg : CXT} {Eg : XK} {Ng : List Str} {qg : Str} {sg : Scope} {g f c' : Addr} {cdg pm ctv : Value} {params : Arguments} {body : Expr} {scope : Scope} {k i : Nat} {a : Str} {pn : List (Addr × Obj)} {xe : Value → Shared → Prop} {W : WX} {E : XK} {tb : TE} {p1 p2 : Pos}
    (I : L2.Inv X pins σ H s) (L : LamS X.env.scope scope) (hf : s.heap.get? f = some (PySem.W.kla_obj "<lambda>" (X.env.qual ++ "<lambda>") params body scope (cloFrom X.env.cells scope.names []) pm c' ctv)) (hfn : H f = none) (hfr : f ∉ frs X.stack)
    (hbind : bindArgs (PySem.W.kla_fn "<lambda>" (X.env.qual ++ "<lambda>") params body scope (cloFrom X.env.cells scope.names []) pm (.ref c') ctv) ⟨[], []⟩ = pure [])
    (tk : L2N.Takes ((cxOf CXg X.prog X.w X.K X.mg X.base Ng qg sg g cdg X.A X.stack s H Eg).tr pn xe) W) (hW : ∀ cls d σ' H', E cls d H' → W cls d σ' H') (hr : Room (k + 1) (X.A.deeper (envOfC qg sg s.heap.objs.size g cdg)))
    (hbody : ∀ (A : Around) (outer : List Env) (s : Shared) (H : Hp), Room k (A.deeper (lamEnv X scope s.heap.objs.size f c')) → PE (lamCxN X A outer s H E scope f c') body tb)
    (hN : Ng[i]? = some a) (hv : Vis sg a) (hd : (a == ("__debug__" : Str)) = false := by decide) (hcd : (a == ("__classdict__" : Str)) = false := by decide) :
    PE ((cxOf CXg X.prog X.w X.K X.mg X.base Ng qg sg g cdg X.A X.stack s H Eg).tr pn xe) (.Call (.Name a p1) [] [] p2)
      (fun σZ HZ Q => σZ[i]? = some (some (.ref f)) ∧ HZ c' = some (CodeO c' (X.env.qual ++ "<lambda>")) ∧ tb σ HZ Q) := by
  refine ⟨fun pinsZ sZ σZ HZ Q IZ h => ?_⟩
  obtain ⟨hs, hc, ht⟩ := h
  refine wpAny_Call_Name_kw (thn ((pe_var (pos := p1) (i := i) hN hv hd hcd).run pinsZ sZ σZ HZ (fun v H1 => v = .ref f ∧ H1 = HZ) IZ ⟨.ref f, hs, rfl, rfl⟩) fun u s1 ⟨v, H1, I1, r1, q1⟩ => ?_)
  obtain ⟨ev, eH⟩ := q1
  subst ev
  rw [eH] at I1
  obtain rfl : u = Value.ref f := r1
  have of1 : s1.heap.get? f = some (PySem.W.kla_obj "<lambda>" (X.env.qual ++ "<lambda>") params body scope (cloFrom X.env.cells scope.names []) pm c' ctv) := I1.base.keep f _ hf hfn hfr (fun z => nomatch (show f ∈ ([] : List Addr) from z))
  refine PySem.W.callWith_F0 ⟨_, _, _, _, of1⟩ ?_
  have un : Un (frs X.stack) [] H HZ s.heap s1.heap := I1.base
  obtain ⟨⟨oc, vs, t, hoc, hdc, hvc⟩, _, _⟩ := I1.hok c' _ hc
  have rc : codeAny (model X.prog X.w) (X.A.deeper (envOfC qg sg s.heap.objs.size g cdg)) (.call (.ref f) ⟨[], []⟩) (CR (L2N.CX X.prog X.w) (envOfC qg sg s.heap.objs.size g cdg :: X.stack) X.prog X.w HZ s1 Q E) s1 := by
    refine PySem.W.kla_callFunE hr.depth of1 rfl L.co L.gen rfl ⟨c', oc, vs, t, rfl, hoc, hdc, hvc⟩ ?_
    rw [hbind]
    refine wpAny_pure (wpAny_newFunctionEnv (fun y hy => (L.own y hy).2) (fun y hy => absurd hy (by simp)) (fun h₁ hns hsb => ⟨I1.nolimit.fresh _ hsb, ?_⟩) L.kind)
    show codeAny _ _ (.expr body (lamEnv X scope s1.heap.objs.size f c')) _ _
    have kp : ∀ b o, s1.heap.get? b = some o → h₁.get? b = some o := fun b o e => hsb.extBut b o (Nat.ne_of_lt (Heap.lt_size e)) (Heap.get?_push_of_some _ e)
    have J0 : L2.Inv (lamCx X (X.A.deeper (envOfC qg sg s.heap.objs.size g cdg)) (envOfC qg sg s.heap.objs.size g cdg :: X.stack) s1 HZ E scope f c') [] σ HZ { s1 with heap := h₁, toks := s1.toks + ([] : List (Str × Value)).length } :=
      lam_start2 I L I1.env0 hr.hd un hns kp
    have J : L2.Inv (lamCxN X (X.A.deeper (envOfC qg sg s.heap.objs.size g cdg)) (envOfC qg sg s.heap.objs.size g cdg :: X.stack) s1 HZ E scope f c') [] σ HZ { s1 with heap := h₁, toks := s1.toks + ([] : List (Str × Value)).length } := J0.wish _
    refine PySem.W.kla_codeExpr (wpAny_mono ((hbody _ _ s1 HZ (hr.deeper _)).run [] _ _ HZ Q J ht) (fun v s' hq => ?_) fun e s' hq => hq)
    obtain ⟨w', H', J', rv, q⟩ := hq
    exact ⟨w', H', J'.os, J'.bare, J'.base, J'.hok, rv, q⟩
  have hx : Passes (L2N.CX X.prog X.w) ((cxOf CXg X.prog X.w X.K X.mg X.base Ng qg sg g cdg X.A X.stack s H Eg).tr pn xe) E := L2N.passes_call tk hW
  refine wpAny_call (codeAny_mono rc fun r s' hq => ?_)
  cases r with
  | error e => exact hx pinsZ σZ HZ s1 e s' I1 hq
  | ok fl =>
    cases fl with
    | ret u => exact I1.after hq
    | next => exact False.elim hq
    | brk => exact False.elim hq
    | cont => exact False.elim hq
end
/-- what the def that got a lambda does with it: TT, of the lambda's reading -/
def Gives (X : Cx) (Ng : List Str) (x : Str) (sg : Scope) (g : Addr) (cdg : Value) (bg : List Stmt) (a : Str) (q : Str) (TT : (XK → Hp → VK → Prop) → Hp → VK → Prop) : Prop :=
  ∀ (f c' : Addr) (s : Shared) (H : Hp) (Q : VK) (tl : XK → Hp → VK → Prop),
    (∀ (W : WX) (pn : List (Addr × Obj)) (xe : Value → Shared → Prop) (E : XK) (p1 p2 : Pos), L2N.Takes ((cxOf CX0 X.prog X.w X.K X.mg X.base Ng x sg g cdg X.A X.stack s H E0).tr pn xe) W → (∀ cls d σ' H', E cls d H' → W cls d σ' H') →
      PE ((cxOf CX0 X.prog X.w X.K X.mg X.base Ng x sg g cdg X.A X.stack s H E0).tr pn xe) (.Call (.Name a p1) [] [] p2) (fun σZ HZ Q => σZ[0]? = some (some (.ref f)) ∧ HZ c' = some (CodeO c' q) ∧ tl E HZ Q)) →
    H c' = some (CodeO c' q) → TT tl H Q → Room 5 (X.A.deeper (envOfC x sg s.heap.objs.size g cdg)) →
    ∃ t, PSs (cxOf CX0 X.prog X.w X.K X.mg X.base Ng x sg g cdg X.A X.stack s H E0) bg t ∧ t { nx := fun _ H' => Q .non H', rt := Q } (L2.start Ng [.ref f]) H
section
variable {X : Cx}
/-- x(lambda: body) -/
theorem pe_lamG {T : List (Addr × Str)} {TT : (XK → Hp → VK → Prop) → Hp → VK → Prop} {x a : Str} {g c P : Addr} {pg : Arguments} {bg : List Stmt} {sg : Scope} {fd : FuncData} {Ng : List Str}
    {params : Arguments} {body : Expr} {scope : Scope} {t : XK → TE} {p lpos pos : Pos} (Fg : FunD X.K x x pg bg sg [] [] g fd) (hm : X.mg x = some (.ref g)) (hb : L2.Binds X.K fd [a] []) (Sg : FnScope Ng [a] sg) (hNg : Ng[0]? = some a) (hva : Vis sg a)
    (hG : Gives X Ng x sg g fd.code bg a (X.env.qual ++ "<lambda>") TT)
    (TB : TabB X.base X.mg c P) (hcode : X.env.code = .ref c) (hmT : (P, X.env.qual ++ "<lambda>") ∈ T) (hu : ∀ p ∈ T, p.1 = P → p.2 = X.env.qual ++ "<lambda>") (hr : Room 6 X.A) (L : LamS X.env.scope scope) (hdef : defaultsOf params X.env = ([], []))
    (hbind : ∀ (q : Str) (cl : List (Str × Addr)) (pm cv ctv : Value), bindArgs (PySem.W.kla_fn "<lambda>" q params body scope cl pm cv ctv) ⟨[], []⟩ = pure [])
    (hbody : ∀ (A : Around) (outer : List Env) (s : Shared) (H : Hp) (E : XK) (f c' : Addr), Room 4 (A.deeper (lamEnv X scope s.heap.objs.size f c')) → PE (lamCxN X A outer s H E scope f c') body (t E))
    (hg : Gl X x := by rfl) (hdb : (x == ("__debug__" : Str)) = false := by decide) (hd : (a == ("__debug__" : Str)) = false := by decide) (hcd : (a == ("__classdict__" : Str)) = false := by decide) :
    PE X (.Call (.Name x p) [.Lambda params body scope lpos] [] pos) (tLam T TT t) := by
  refine ⟨fun pins s σ H Q I h => ?_⟩
  obtain ⟨hT, h⟩ := h
  refine wpAny_Call_Name_kw (ld_glob I hg hm ?_ hdb)
  refine PySem.W.callWith_K (h₀ := X.base) I.ok.mod.kin Fg.kp ?_ (by rfl) (by rfl)
  show wpAny _ _ (spliced ((false, eval (.Lambda params body scope lpos) X.env) :: backTo pos (starEach [] X.env))) _ _ s
  refine Calls.spliced_cons (lam_make2 I TB hcode hmT hu hT hdef (L.has I.ok) fun f c' pm' ctv H1 s' I1 eN T1 hf hfn hfr hco => ?_)
  refine Calls.spliced_nil ⟨I1.kIn, ?_⟩
  have rc : codeAny (model X.prog X.w) X.A (.call (.ref g) ⟨[.ref f], []⟩) (CR CX0 X.stack X.prog X.w H1 s' Q E0) s' := by
    refine run_body (k := 5) Fg Sg (us := [.ref f]) (vs := [.ref f]) hr I1.env0 (hb s' [.ref f] I1.kIn rfl) (.cons rfl .nil) rfl fun hr' => ?_
    exact hG f c' s' H1 Q (fun E H' Q' => t E σ H' Q') (fun W pn xe E p1 p2 tk hW => pe_actN (i := 0) I1 L hf hfn hfr (hbind _ _ _ _ _) tk hW (hr'.mono (by decide)) (fun A outer s H hr2 => hbody A outer s H E f c' hr2) hNg hva hd hcd) hco (h H1 eN T1) hr'
  refine wpAny_call (codeAny_mono rc fun r s2 hq => ?_)
  cases r with
  | error e => exact (show False from hq).elim
  | ok fl =>
    cases fl with
    | ret u => exact I1.after hq
    | next => exact False.elim hq
    | brk => exact False.elim hq
    | cont => exact False.elim hq
end
/-! ### the law's end -/
theorem law_callG {P : Program} {w : World} {K : PySem.W.Frag} {mg mb : Str → Option Value} {CX : CXT} {k : Nat} {fa a : Addr} {cs : List (Addr × Addr)} {fd : FuncData} {x : Str} {sp : Sp} {s₁ : Shared} {vs : List Value} {ns : List Int}
    (KX : K.In s₁.heap) (hns : s₁.heap.Ns mainGlobals mg) (hb : s₁.heap.Ns builtinsNs mb) (hbb : ∀ x : Str, x ≠ "__name__" → mb x = bootBuiltins x) (hlim : s₁.heap.NoLimit) (hg : s₁.gens = #[])
    (hT : ∀ p ∈ cs, s₁.heap.get? p.2 = some { cls := .none, data := .fields #[] }) (nT : ∀ p ∈ cs, K.lookup p.2 = none) (C : ∀ p ∈ cs, PySem.W.CodeHd s₁.heap p.1 p.2)
    (hbm : ∃ (bm : Addr) (ob : Obj), mg "__builtins__" = some (.ref bm) ∧ bm ≠ builtinsNs ∧ s₁.heap.get? bm = some ob ∧ ob.cls = .type "module" ∧ ob.dict = some builtinsNs ∧ ob.data = .plain)
    (ha : s₁.heap.get? a = some { cls := .type "list", data := .seq vs.toArray }) (hi : IntsAre vs ns) (hl : ns.length ≤ sizeLine) (hr : Room k callerA)
    (F : ∀ base : Heap, K.In base → base.Ns mainGlobals mg → (∀ p ∈ cs, TabB base mg p.1 p.2) → FnG P w K mg base CX k fa fd [x] sp) (hbind : ∀ (s : Shared) (u : Value), BindsTo s fd ⟨[u], []⟩ [(x, u)])
    (hsp : ∀ H : Hp, (∀ p ∈ cs, H p.2 = some (.tbl #[])) → SqL K H a (ns.map V.int) → sp [.ref a] H (fun v _ => v = .bl true) fun _ _ _ => False)
    (hCX : ∀ H e s', CX [] H s₁ (fun _ _ _ => False) e s' → False) :
    codeAny (model P w) callerA (.call (.ref fa) ⟨[.ref a], []⟩) (fun r s' => r = .ok (.ret (.bool true)) ∧ OldK s₁.heap s'.heap ∧ s'.os = s₁.os ∧ AllBare s'.gens) s₁ := by
  -- a def of the plain kind that keeps the promise at callerA alone
  have key : ∀ base : Heap, K.In base → base.Ns mainGlobals mg → (∀ p ∈ cs, TabB base mg p.1 p.2) → ∀ (H : Hp) (us : List Value) (vs : List V), Env0 P w K mg base callerA [] s₁ H → BindsTo s₁ fd ⟨us, []⟩ ([x].zip us) → Vals vs us → sp vs H (fun v _ => v = .bl true) (fun _ _ _ => False) →
      codeAny (model P w) callerA (.call (.ref fa) ⟨us, []⟩) (CR CX [] P w H s₁ (fun v _ => v = .bl true) fun _ _ _ => False) s₁ := fun base b1 b2 b3 H us vs e0 bt rv hs => (F base b1 b2 b3).run callerA [] s₁ H ⟨us, []⟩ us vs _ _ hr rfl e0 bt rv hs
  have rv := vals_ints hi
  have lenV := hi.length
  have isT : ∀ b : Addr, b ∈ cs.map (·.2) → s₁.heap.get? b = some { cls := .none, data := .fields #[] } := fun b hb => by
    obtain ⟨p, hp, e⟩ := List.mem_map.mp hb
    rw [← e]
    exact hT p hp
  have aT : a ∉ cs.map (·.2) := fun z => by
    have q := isT a z
    rw [ha] at q
    have z' : Data.seq vs.toArray _ = Data.fields #[] := congrArg Obj.data (Option.some.inj q)
    cases z'
  have memT : ∀ p ∈ cs, p.2 ∈ cs.map (·.2) := fun p hp => List.mem_map.mpr ⟨p, hp, rfl⟩
  have core : ∀ H : Hp, (∀ p ∈ cs, H p.2 = some (.tbl #[])) → (∀ b, H b = none ∨ b ∈ cs.map (·.2) ∨ ∃ o xs, H b = some (.frz o (.lst xs))) → SqL K H a (ns.map V.int) → HOk P w H s₁.heap → (∀ b, H b ≠ none → b = a ∨ b ∈ cs.map (·.2)) → (H a ≠ none → K.lookup a = none) →
      codeAny (model P w) callerA (.call (.ref fa) ⟨[.ref a], []⟩) (fun r s' => r = .ok (.ret (.bool true)) ∧ OldK s₁.heap s'.heap ∧ s'.os = s₁.os ∧ AllBare s'.gens) s₁ := by
    intro H hH hO hS hok hA hK
    have base_of : ∀ {b : Addr} {o : Obj}, s₁.heap.get? b = some o → H b = none → (hidT s₁.heap H).get? b = some o := fun e n => hidT_get e n
    have noD : ∀ {b : Addr} {o : Obj}, s₁.heap.get? b = some o → (∀ vs n, o.data ≠ .seq vs n) → o.data ≠ .fields #[] → H b = none := fun {b o} e h1 h2 => by
      cases q : H b with
      | none => rfl
      | some u =>
        rcases hA b (by rw [q]; simp) with e' | e'
        · rw [e', ha] at e
          cases e
          exact (h1 _ _ rfl).elim
        · rw [isT b e'] at e
          cases e
          exact (h2 rfl).elim
    have noA : ∀ {b : Addr} {o : Obj} {es : Array DictEntry} {ep : Nat}, s₁.heap.get? b = some o → o.data = .dict es ep → H b = none := fun {b o es ep} e d => by
      refine noD e (fun vs n z => ?_) fun z => ?_
      · rw [d] at z
        cases z
      · rw [d] at z
        cases z
    have nsK : ∀ {b : Addr} {m : Str → Option Value}, s₁.heap.Ns b m → (hidT s₁.heap H).Ns b m := fun {b m} ⟨o, es, ep, e, d, r⟩ => ⟨o, es, ep, base_of e (noA e d), d, r⟩
    have hKb : K.In (hidT s₁.heap H) := fun b o e => base_of (KX b o e) (by
      cases q : H b with
      | none => rfl
      | some u =>
        rcases hA b (by rw [q]; simp) with e' | e'
        · rw [e'] at e q
          rw [hK (by rw [q]; simp)] at e
          cases e
        · obtain ⟨p, hp, ep⟩ := List.mem_map.mp e'
          rw [← ep, nT p hp] at e
          cases e)
    have hM : L2.Mod K mg (hidT s₁.heap H) := ⟨hKb, nsK hns, ⟨mb, nsK hb, hbb⟩, let ⟨mc, h1, h2⟩ := hlim; ⟨mc, nsK h1, h2⟩⟩
    have TB : ∀ p ∈ cs, TabB (hidT s₁.heap H) mg p.1 p.2 := fun p hp => by
      have hTp := hT p hp
      refine ⟨?_, ?_, fun z => ?_⟩
      · obtain ⟨o, us, file, tf, flags, tg, inF, text, tt, e1, r1, r2, r3, r4, r5, r6, r7, r8, hne⟩ := C p hp
        refine ⟨o, us, file, tf, flags, tg, inF, text, tt, base_of e1 (noD e1 (fun vs n z => ?_) fun z => ?_), r1, r2, r3, r4, r5, r6, r7, r8, hne⟩
        · rw [r2] at z
          cases z
        · rw [r2] at z
          cases z
          simp at r3
      · obtain ⟨bm, ob, b1, b2, b3, b4, b5, b6⟩ := hbm
        have nG : bm ≠ mainGlobals := fun q => by
          obtain ⟨o, es, ep, e, hd, _⟩ := hns
          rw [q, e] at b3
          cases b3
          rw [hd] at b6
          cases b6
        have nP : bm ≠ p.2 := fun q => by
          rw [q, hTp] at b3
          cases b3
          cases b6
        refine ⟨bm, ob, b1, b2, nG, nP, base_of b3 (noD b3 (fun vs n z => ?_) fun z => ?_), b4, b5, b6⟩
        · rw [b6] at z
          cases z
        · rw [b6] at z
          cases z
      · obtain ⟨o, es, ep, e, hd, _⟩ := hns
        rw [z, hTp] at e
        cases e
        cases hd
    have e0 : Env0 P w K mg (hidT s₁.heap H) callerA [] s₁ H := ⟨rfl, hM, fun b o e => of_hidT e, Nat.le_of_eq (hidT_size _ _), trivial, fun b hb => absurd (show b ∈ ([] : List Addr) from hb) (by simp), hok, .of_eq hg⟩
    refine codeAny_mono (key _ hKb (nsK hns) TB H [.ref a] [.ref a] e0 (hbind s₁ (.ref a)) (.cons rfl .nil) (hsp H hH hS)) fun r s' h => ?_
    cases r with
    | error e => exact (hCX H e s' h).elim
    | ok fl =>
      cases fl with
      | next => exact False.elim h
      | brk => exact False.elim h
      | cont => exact False.elim h
      | ret u =>
        obtain ⟨v, H', os, bare, un, hok', r', q⟩ := h
        have q' : v = .bl true := q
        subst q'
        obtain rfl : u = Value.bool true := r'
        have key : ∀ b o, b ∉ cs.map (·.2) → s₁.heap.get? b = some o → s'.heap.get? b = some o := fun b o nb e => by
          cases q : H b with
          | none => exact un.keep b o e q (by intro z; exact absurd (show b ∈ ([] : List Addr) from z) (by simp)) (by simp)
          | some u =>
            rcases hO b with z | z | ⟨ob, xs, z⟩
            · rw [q] at z; cases z
            · exact absurd z nb
            · have z2 := un.frzs b ob _ z
              obtain ⟨e1, _⟩ := hok b _ z
              obtain ⟨e2, _⟩ := hok' b _ z2
              rw [e] at e1; cases e1
              exact e2
        have grown : ∀ p ∈ cs, ∃ more : Array Value, s'.heap.get? p.2 = some { cls := .none, data := .fields more } := fun p hp => by
          obtain ⟨more, z⟩ := un.tbls p.2 #[] (hH p hp)
          exact ⟨_, hok' p.2 _ z⟩
        refine ⟨rfl, ⟨fun b o e => ?_, fun b o e => ?_⟩, os, bare⟩
        · by_cases hb : b ∈ cs.map (·.2)
          · obtain ⟨p, hp, ep⟩ := List.mem_map.mp hb
            obtain ⟨more, hm⟩ := grown p hp
            rw [← ep] at e ⊢
            rw [hT p hp] at e
            cases e
            exact .inr (.inl ⟨((C p hp).tab (hT p hp)).isCodeTable, rfl, #[], more, rfl, by rw [Array.empty_append]; exact hm⟩)
          · exact .inl (key b o hb e)
        · by_cases hb : b ∈ cs.map (·.2)
          · obtain ⟨p, hp, ep⟩ := List.mem_map.mp hb
            obtain ⟨more, hm⟩ := grown p hp
            rw [← ep]
            exact ⟨_, hm⟩
          · exact ⟨o, key b o hb e⟩
  cases hk : K.lookup a with
  | some o =>
    have e := KX a o hk
    rw [ha] at e
    cases e
    refine core (fun b => if b ∈ cs.map (·.2) then some (.tbl #[]) else none) (fun p hp => if_pos (memT p hp)) (fun b => ?_) (.inr ⟨_, vs.toArray, _, hk, rfl, rfl, rfl, by rw [List.size_toArray, lenV]; exact hl, by simpa using rv⟩) (fun b u z => ?_) (fun b z => ?_) fun z => absurd (show (if a ∈ cs.map (·.2) then some (HO.tbl #[]) else none) = none from if_neg aT) z
    · by_cases hb : b ∈ cs.map (·.2)
      · exact .inr (.inl hb)
      · exact .inl (if_neg hb)
    · by_cases hb : b ∈ cs.map (·.2)
      · have z' := (if_pos hb).symm.trans z
        cases z'
        exact isT b hb
      · have z' := (if_neg hb).symm.trans z
        cases z'
    · by_cases hb : b ∈ cs.map (·.2)
      · exact .inr hb
      · exact absurd (if_neg hb) z
  | none =>
    refine core (fun b => if b = a then some (.frz { cls := .type "list", data := .seq vs.toArray } (.lst (ns.map V.int))) else if b ∈ cs.map (·.2) then some (.tbl #[]) else none) (fun p hp => (if_neg (show ¬ p.2 = a from fun z => aT (by rw [← z]; exact memT p hp))).trans (if_pos (memT p hp))) (fun b => ?_)
      (.inl (.inr ⟨{ cls := .type "list", data := .seq vs.toArray }, if_pos rfl⟩)) (fun b u z => ?_) (fun b z => ?_) fun _ => hk
    · by_cases hb : b = a
      · exact .inr (.inr ⟨_, _, if_pos hb⟩)
      · by_cases hb2 : b ∈ cs.map (·.2)
        · exact .inr (.inl hb2)
        · exact .inl ((if_neg hb).trans (if_neg hb2))
    · by_cases hb : b = a
      · have z' := (if_pos hb).symm.trans z
        cases z'
        rw [hb]
        exact ⟨ha, by rw [List.length_map]; exact hl, vs, _, rv, ha⟩
      · have z1 := (if_neg hb).symm.trans z
        by_cases hb2 : b ∈ cs.map (·.2)
        · have z' := (if_pos hb2).symm.trans z1
          cases z'
          exact isT b hb2
        · have z' := (if_neg hb2).symm.trans z1
          cases z'
    · by_cases hb : b = a
      · exact .inl hb
      · by_cases hb2 : b ∈ cs.map (·.2)
        · exact .inr hb2
        · exact absurd ((if_neg hb).trans (if_neg hb2)) z
/-- what is known of the law's promise at the head's heap -/
def LawAtG (l : PySem.W.OpenLaw) (w : World) (K : PySem.W.Frag) (CX : CXT) (k n : Nat) (x : Str) (mg : Str → Option Value) (fa : Addr) (h : Heap) : Prop :=
  ∃ (fd : FuncData) (cs : List (Addr × Addr)) (sp : Sp), (∀ p ∈ cs, h.get? p.2 = some { cls := .none, data := .fields #[] }) ∧ (∀ p ∈ cs, K.lookup p.2 = none) ∧ (∀ p ∈ cs, PySem.W.CodeHd h p.1 p.2) ∧ (∀ (s : Shared) (u : Value), BindsTo s fd ⟨[u], []⟩ [(x, u)]) ∧
    (∀ (H : Hp) (a : Addr) (ns : List Int), ns.length ≤ n → (∀ z ∈ ns, Builtin.Int.intBits z ≤ 1048576) → (∀ p ∈ cs, H p.2 = some (.tbl #[])) → SqL K H a (ns.map V.int) → sp [.ref a] H (fun v _ => v = .bl true) fun _ _ _ => False) ∧
    ∀ base : Heap, K.In base → base.Ns mainGlobals mg → (∀ p ∈ cs, TabB base mg p.1 p.2) → FnG l.prog w K mg base CX k fa fd [x] sp
theorem walk_G {l : PySem.W.OpenLaw} {n k : Nat} {q : Program} {loose : List Str} {XP : (Str → Option Value) → Heap → Prop} {YP : World → Heap → Prop} {d : DefRec} {CX : World → CXT} {x : Str}
    (hn : l.most = some n) (hn2 : n ≤ sizeLine) (hdf : d.params.defaults = []) (hr : Room k callerA)
    (F : ∀ (w : World) (mg : Str → Option Value) (fa : Addr) (h : Heap), YP w h → h.Ns mainGlobals mg → mg d.name = some (.ref fa) → ∃ K : PySem.W.Frag, K.In h ∧ LawAtG l w K (CX w) k n x mg fa h)
    (hCX : ∀ (w : World) (H : Hp) (s : Shared) (e : Value) (s' : Shared), CX w [] H s (fun _ _ _ => False) e s' → False) :
    PySem.W.WalkO q loose XP YP l.row.toRowW d [] (fun f vs => PySem.call f vs) := by
  refine Att.attach_callB hn hdf fun w s₀ s₁ mg mb fa o pm cd doc a vs ns G Y ho hd hcd hmg hobj hints hlen hbits hg => ?_
  obtain ⟨K, KX, fd, cs, sp, hT, nT, C, hb, hsp, hF⟩ := F w mg fa _ Y G.T.g hmg
  exact law_callG KX G.T.g G.T.b G.T.builtins G.T.nolimit hg hT nT C G.T.bmain hobj hints (Nat.le_trans hlen hn2) hr hF hb (fun H hH hS => hsp H a ns hlen hbits hH hS) fun H e s' => hCX w H s₁ e s'
end LL
set_option Elab.async false
set_option linter.all false
set_option maxRecDepth 100000
set_option maxHeartbeats 4000000
/-! len(o), bool(o), x in o by an own class's methods; == and != of instances without an __eq__ of their own; a method called with keywords. -/
namespace HQ
open PySem PySem.Spec PyProof.Rows PySem.SeqAt
section
variable {prog : Program} {w : World} {A : Around} {E : Value → Shared → Prop} {Q : Value → Shared → Prop} {s : Shared} {K : PySem.W.Frag} {x y C : Addr} {ox oy : Obj} {od oe : Option Obj}
theorem oeq_same {Q : Value → Shared → Prop} (X : K.In s.heap) (I : PySem.W.InstAt s.heap x ox C od) (hm : PySem.W.mroIn K C (.type "object") = some true) (hq : Q (.bool true) s) :
    wpAny (model prog w) A (call (.builtin "object.__eq__") [.ref x, .ref x]) Q E s :=
  wpAny_call (codeAny_call_builtin F.cmp_object.eq.plain F.cmpEntry_eq (PySem.W.check_slot F.cmpKind_eq F.cmpSplit_eq (I.type.andThen (PySem.W.looks_mroIn X hm)) (F.cmpArgs_eq _ _) (objEq_entry_same hq)))
theorem oeq_other {Q : Value → Shared → Prop} (X : K.In s.heap) (I : PySem.W.InstAt s.heap x ox C od) (J : PySem.W.InstAt s.heap y oy C oe) (hxy : x ≠ y) (hm : PySem.W.mroIn K C (.type "object") = some true) (hq : Q .notImplemented s) :
    wpAny (model prog w) A (call (.builtin "object.__eq__") [.ref x, .ref y]) Q E s :=
  wpAny_call (codeAny_call_builtin F.cmp_object.eq.plain F.cmpEntry_eq (PySem.W.check_slot F.cmpKind_eq F.cmpSplit_eq (I.type.andThen (PySem.W.looks_mroIn X hm)) (F.cmpArgs_eq _ _)
    (objEq_entry_other hxy I.at_ J.at_ (by rw [I.cls]; intro e; cases e) hq)))
theorem entry_int {a : Int} {t : Tok} {Q : Fin → Shared → Prop} (hq : Q (.done (.ret .notImplemented)) s) : wpAny (model prog w) A (Builtin.«object.__eq__» ⟨[.ref x, .int a t], []⟩) Q E s := by
  unfold Builtin.«object.__eq__»
  repeat (first | with_reducible refine wpAny_of_eq (rfl : isSame (.ref x) (.int a t) = pure false) ?_ | wp_step)
  exact hq
theorem oeq_int {a : Int} {t : Tok} {Q : Value → Shared → Prop} (X : K.In s.heap) (I : PySem.W.InstAt s.heap x ox C od) (hm : PySem.W.mroIn K C (.type "object") = some true) (hq : Q .notImplemented s) :
    wpAny (model prog w) A (call (.builtin "object.__eq__") [.ref x, .int a t]) Q E s :=
  wpAny_call (codeAny_call_builtin F.cmp_object.eq.plain F.cmpEntry_eq (PySem.W.check_slot F.cmpKind_eq F.cmpSplit_eq (I.type.andThen (PySem.W.looks_mroIn X hm)) (F.cmpArgs_eq _ _) (entry_int hq)))
theorem ieq_ref {a : Int} {t : Tok} {D dx : Addr} (ho : s.heap.get? x = some (PySem.W.instObj D dx)) {Q : Fin → Shared → Prop} (hq : Q (.done (.ret .notImplemented)) s) : wpAny (model prog w) A (Builtin.«int.__eq__» ⟨[.int a t, .ref x], []⟩) Q E s := by
  obtain ⟨hp, g, d, tk, os⟩ := s
  wp_walk
  exact hq
theorem ieq_call {a : Int} {t : Tok} {D dx : Addr} (ho : s.heap.get? x = some (PySem.W.instObj D dx)) {Q : Value → Shared → Prop} (hq : Q .notImplemented s) : wpAny (model prog w) A (call (.builtin "int.__eq__") [.int a t, .ref x]) Q E s :=
  wpAny_call (codeAny_call_builtin F.slot_int_eq.plain F.entry_int_eq (F.slot_int_eq.check _ _ _ _ _ _ _ _ (typeIs_int s a t) (F.args_int_eq_2 _ _) (ieq_ref ho hq)))
theorem oeq_cmp (hu : A.units < cLine) (X : K.In s.heap) (I : PySem.W.InstAt s.heap x ox C od) (J : PySem.W.InstAt s.heap y oy C oe) (hm : PySem.W.mroIn K C (.type "object") = some true) (hs : PySem.W.findIn K (.ref C) "__eq__" = some (some (.builtin "object.__eq__")))
    {Q : Value → Shared → Prop} (h : Q (.bool (decide (x = y))) s) : wpAny (model prog w) A (richCompare .Eq (.ref x) (.ref y)) Q E s := by
  simp only [richCompare, cmpInfo_Eq, oneThing_ref]
  refine wpAny_holding (wpAny_bind (wpAny_cRoomFor hu ?_))
  refine wpAny_bind (I.type.here ?_)
  refine wpAny_bind (J.type.here ?_)
  rw [if_neg (by simp)]
  refine wpAny_bind (wpAny_pure ?_)
  simp only [Bool.false_eq_true, if_false, Bool.not_false, if_true]
  by_cases hxy : x = y
  · subst hxy
    have one : wpAny (model prog w) A (tryCompare (.ref x) "__eq__" (.ref x)) (fun r s' => r = some (.bool true) ∧ s' = s) E s := by
      unfold tryCompare
      exact wpAny_bind (HN.ifBound_objEq X I hs (oeq_same X I hm (wpAny_pure ⟨rfl, rfl⟩)))
    refine wpAny_bind (m := tryCompare (.ref x) _ (.ref x)) (wpAny_mono one (fun r s1 z => ?_) fun _ _ e => e)
    obtain ⟨z1, z2⟩ := z
    subst z1
    subst z2
    rw [decide_eq_true rfl] at h
    exact wpAny_pure h
  · have one : wpAny (model prog w) A (tryCompare (.ref x) "__eq__" (.ref y)) (fun r s' => r = none ∧ s' = s) E s := by
      unfold tryCompare
      exact wpAny_bind (HN.ifBound_objEq X I hs (oeq_other X I J hxy hm (wpAny_pure ⟨rfl, rfl⟩)))
    have two : wpAny (model prog w) A (tryCompare (.ref y) "__eq__" (.ref x)) (fun r s' => r = none ∧ s' = s) E s := by
      unfold tryCompare
      exact wpAny_bind (HN.ifBound_objEq X J hs (oeq_other X J I (Ne.symm hxy) hm (wpAny_pure ⟨rfl, rfl⟩)))
    refine wpAny_bind (m := tryCompare (.ref x) _ (.ref y)) (wpAny_mono one (fun r s1 z => ?_) fun _ _ e => e)
    obtain ⟨z1, z2⟩ := z
    subst z1
    subst z2
    refine wpAny_bind (m := tryCompare (.ref y) _ (.ref x)) (wpAny_mono two (fun r s2 z => ?_) fun _ _ e => e)
    obtain ⟨z1, z2⟩ := z
    subst z1
    subst z2
    rw [decide_eq_false hxy] at h
    exact wpAny_bind (wpAny_rule (wpAny_bind (wpAny_isSame_ref_other hxy I.at_ J.at_ (by rw [I.cls]; intro e; cases e) (wpAny_pure h))))
theorem sub_int : PySem.W.subIn K (.type "int") (.ref C) = some false := by
  have e : fastBuiltinMro "int" = some [.type "int", .type "object"] := by decide +kernel
  show (fastBuiltinMro "int").map (·.contains (.ref C)) = some false
  rw [e]
  first
    | rfl
    | simp
theorem oeq_cmpI {a : Int} {t : Tok} {D dx : Addr} (ho : s.heap.get? x = some (PySem.W.instObj D dx)) (hu : A.units < cLine) (X : K.In s.heap) (I : PySem.W.InstAt s.heap x ox C od) (hm : PySem.W.mroIn K C (.type "object") = some true) (hs : PySem.W.findIn K (.ref C) "__eq__" = some (some (.builtin "object.__eq__")))
    {Q : Value → Shared → Prop} (h : Q (.bool false) s) : wpAny (model prog w) A (richCompare .Eq (.ref x) (.int a t)) Q E s := by
  have one : wpAny (model prog w) A (tryCompare (.ref x) "__eq__" (.int a t)) (fun r s' => r = none ∧ s' = s) E s := by
    unfold tryCompare
    exact wpAny_bind (HN.ifBound_objEq X I hs (oeq_int X I hm (wpAny_pure ⟨rfl, rfl⟩)))
  have two : wpAny (model prog w) A (tryCompare (.int a t) "__eq__" (.ref x)) (fun r s' => r = none ∧ s' = s) E s :=
    wpAny_tryCompare_declines (typeIs_int s a t) F.slot_int_eq (ieq_call ho ⟨rfl, rfl, rfl⟩)
  have onet : oneThing? CmpOp.Eq (Value.ref x) (.int a t) = none := rfl
  simp only [richCompare, cmpInfo_Eq, onet]
  refine wpAny_holding (wpAny_bind (wpAny_cRoomFor hu ?_))
  refine wpAny_bind (I.type.here ?_)
  refine wpAny_bind (wpAny_typeOf (typeIs_int s a t) ?_)
  split
  · refine wpAny_bind ((PySem.W.looks_subIn X sub_int).here ?_)
    simp only [Bool.false_eq_true, if_false, Bool.not_false, if_true]
    refine wpAny_bind (m := tryCompare (.ref x) _ (.int a t)) (wpAny_mono one (fun r s1 z => ?_) fun _ _ e => e)
    obtain ⟨z1, z2⟩ := z
    subst z1
    subst z2
    refine wpAny_bind (m := tryCompare (.int a t) _ (.ref x)) (wpAny_mono two (fun r s2 z => ?_) fun _ _ e => e)
    obtain ⟨z1, z2⟩ := z
    subst z1
    subst z2
    exact wpAny_bind (wpAny_rule (wpAny_bind (wpAny_of_eq (rfl : isSame (.ref x) (.int a t) = pure false) (wpAny_pure h))))
  · rename_i q
    exact absurd (by simp) q
/-- bool(x): its truth is asked one place deeper -/
theorem bool_of (h : wpAny (model prog w) A.in1.in1 (truthy (.ref x)) (fun b s' => Q (.bool b) s') E s) : wpAny (model prog w) A (call (.type "bool") [.ref x]) Q E s := by
  obtain ⟨c, tl, hmro⟩ := F.called_bool.mro
  have hmade := F.called_bool.made
  have hsub := F.called_bool.sub
  refine wpAny_call (codeAny_of_tree ?_)
  show wpAny _ _ (callAny (.type "bool") _) _ _ _
  refine wpAny_pure ⟨Code.quiet_builtin _ (by decide +kernel), codeAny_builtin F.entry_type_call ?_⟩
  rw [Around.under_plain (weight_type_call_type "bool" [.ref x] []) (units_type_call_type "bool" [.ref x] [])]
  have h1 := F.called_bool.notType
  have h2 := F.called_bool.canCreate
  repeat (any_goals (first | assumption | wp_step))
  have hb : wpAny (model prog w) A.in1.in1 (Builtin.«bool.__new__» ⟨[.type "bool", .ref x], []⟩) (fun fin s' => match fin with | .done f => wants (fun v s₁ => s₁.TypeIs v "bool" ∧ Q v s₁) E (.ok f) s' | .again c' => c'.quiet = true ∧ codeAny (model prog w) A.in1 c' (wants (fun v s₁ => s₁.TypeIs v "bool" ∧ Q v s₁) E) s') (fun e s' => wants (fun v s₁ => s₁.TypeIs v "bool" ∧ Q v s₁) E (.error e) s') s := by
    unfold Builtin.«bool.__new__»
    have f1 := F.conv_sub_bool
    repeat (any_goals (first | assumption | with_reducible refine wpAny_mono h (fun b s' q => ?_) (fun _ _ e => e) | wp_step))
    all_goals first | exact ⟨rfl, q⟩ | skip
  refine codeAny_mono (codeAny_call_builtin F.called_bool.plain F.entry_bool_new (wpAny_of_eq (F.newCall_bool_1 _) hb) : codeAny (model prog w) A.in1 _ (wants (fun v s₁ => s₁.TypeIs v "bool" ∧ Q v s₁) E) s) fun r s₁ hr => ?_
  cases r with
  | error e => exact hr
  | ok fl =>
    cases fl with
    | ret obj =>
      obtain ⟨hT, q⟩ := hr
      have hli := F.called_bool.init.lookup
      have hbi := F.called_bool.init.bind obj
      repeat (any_goals (first | assumption | wp_step))
      refine codeAny_mono (codeAny_call_builtin F.called_bool.init.plain F.entry_object_init (F.called_bool.init.check _ _ _ _ _ _ _ _ hT (F.args_object_init_2 obj _) (object_init_meets F.called_bool.init.lookup F.called_bool.made F.newNe_bool prog w A.in1 (wants (fun v s₂ => v = .none ∧ Q obj s₂) E) s₁ ⟨hT, rfl, q⟩))) fun r₂ s₂ hr₂ => ?_
      cases r₂ with
      | error e => exact hr₂
      | ok fl₂ =>
        cases fl₂ with
        | ret r =>
          obtain ⟨rfl, hq⟩ := hr₂
          repeat (any_goals (first | assumption | wp_step))
        | _ => exact hr₂.elim
    | _ => exact hr.elim
/-- x != x -/
theorem one_ne {args : List Value} {Q : Option Value → Shared → Prop} (X : K.In s.heap) (I : PySem.W.InstAt s.heap x ox C od) (hs : PySem.W.findIn K (.ref C) "__ne__" = some (some (.builtin "object.__ne__")))
    (h : wpAny (model prog w) A (call (.builtin "object.__ne__") (.ref x :: args)) (fun v => Q (some v)) E s) : wpAny (model prog w) A (callSpecialIfBound? (.ref x) "__ne__" args) Q E s := by
  simp only [callSpecialIfBound?, bindSpecialIfBound?]
  refine wpAny_holding (wpAny_bind (wpAny_bind (wpAny_bind (I.type.here ((PySem.W.looks_findIn X hs).here ?_)))))
  refine wpAny_bind (wpAny_askSetting (wpAny_ite ?_))
  have fin : wpAny (model prog w) A (call (.builtin "object.__ne__") ([.ref x] ++ args) >>= fun v => pure (some v)) Q E s := wpAny_bind (wpAny_mono h (fun v s' h' => wpAny_pure h') fun _ _ h' => h')
  split
  · exact wpAny_bind (wpAny_of_eq (F.cmp_object.ne.bind _) (wpAny_pure (by exact fin)))
  · exact wpAny_tryCatch (wpAny_bind (wpAny_of_eq (F.cmp_object.ne.bind _) (wpAny_pure (by exact fin))))
theorem one_same (X : K.In s.heap) (I : PySem.W.InstAt s.heap x ox C od) (hm : PySem.W.mroIn K C (.type "object") = some true) (he : PySem.W.findIn K (.ref C) "__eq__" = some (some (.builtin "object.__eq__"))) (hu : A.units + 1 < cLine)
    {Q : Value → Shared → Prop} (hq : Q (.bool false) s) : wpAny (model prog w) A (call (.builtin "object.__ne__") [.ref x, .ref x]) Q E s := by
  refine wpAny_call (codeAny_call_builtin F.cmp_object.ne.plain F.cmpEntry_ne (PySem.W.check_slot F.cmpKind_ne F.cmpSplit_ne (I.type.andThen (PySem.W.looks_mroIn X hm)) (F.cmpArgs_ne _ _) ?_))
  have hu1 : A.in1.units < cLine := hu
  have key : ∀ {Q' : Option Value → Shared → Prop} {E' : Value → Shared → Prop}, Q' (some (.bool true)) s → wpAny (model prog w) A.in1 (callSpecialIfBound? (.ref x) "__eq__" [.ref x]) Q' E' s := fun q => HN.ifBound_objEq X I he (oeq_same X I hm q)
  unfold Builtin.«object.__ne__»
  repeat (first | with_reducible refine wpAny_cRoomFor hu1 ?_ | with_reducible refine key ?_ | wp_step)
  exact hq
theorem ne_same (hu : A.units + 1 < cLine) (X : K.In s.heap) (I : PySem.W.InstAt s.heap x ox C od) (hm : PySem.W.mroIn K C (.type "object") = some true) (he : PySem.W.findIn K (.ref C) "__eq__" = some (some (.builtin "object.__eq__"))) (hn : PySem.W.findIn K (.ref C) "__ne__" = some (some (.builtin "object.__ne__")))
    {Q : Value → Shared → Prop} (h : Q (.bool false) s) : wpAny (model prog w) A (richCompare .NotEq (.ref x) (.ref x)) Q E s := by
  simp only [richCompare, cmpInfo_NotEq, oneThing_ref]
  refine wpAny_holding (wpAny_bind (wpAny_cRoomFor (by omega) ?_))
  refine wpAny_bind (I.type.here ?_)
  refine wpAny_bind (I.type.here ?_)
  rw [if_neg (by simp)]
  refine wpAny_bind (wpAny_pure ?_)
  simp only [Bool.false_eq_true, if_false, Bool.not_false, if_true]
  have one : wpAny (model prog w) A (tryCompare (.ref x) "__ne__" (.ref x)) (fun r s' => r = some (.bool false) ∧ s' = s) E s := by
    unfold tryCompare
    exact wpAny_bind (one_ne X I hn (one_same X I hm he hu (wpAny_pure ⟨rfl, rfl⟩)))
  refine wpAny_bind (m := tryCompare (.ref x) _ (.ref x)) (wpAny_mono one (fun r s1 z => ?_) fun _ _ e => e)
  obtain ⟨z1, z2⟩ := z
  subst z1
  subst z2
  exact wpAny_pure h
end
end HQ
namespace LS
open PySem PySem.Spec PyProof.Rows L2
/-- a class without == of its own -/
structure IdC (K : PySem.W.Frag) (C : Addr) : Prop where
  m : PySem.W.mroIn K C (.type "object") = some true
  e : PySem.W.findIn K (.ref C) "__eq__" = some (some (.builtin "object.__eq__"))
  n : PySem.W.findIn K (.ref C) "__ne__" = some (some (.builtin "object.__ne__"))
def idB (K : PySem.W.Frag) (C : Addr) : Bool := decide (PySem.W.mroIn K C (.type "object") = some true) && (decide (PySem.W.findIn K (.ref C) "__eq__" = some (some (.builtin "object.__eq__"))) && decide (PySem.W.findIn K (.ref C) "__ne__" = some (some (.builtin "object.__ne__"))))
theorem idB_ok {K : PySem.W.Frag} {C : Addr} (h : idB K C = true) : IdC K C := by
  unfold idB at h
  simp only [Bool.and_eq_true, decide_eq_true_eq] at h
  exact ⟨h.1, h.2.1, h.2.2⟩
section
variable {X : Cx}
/-- == of an instance: with one of its class, with an int -/
def rEqI (K : PySem.W.Frag) : R2 := fun x y H Q => ∃ (a C dx : Addr) (fs : List (Str × V)), x = .ref a ∧ H a = some (.ins C dx fs) ∧ IdC K C ∧ ((∃ (b dy : Addr) (gs : List (Str × V)), y = .ref b ∧ H b = some (.ins C dy gs) ∧ Q (.bl (decide (a = b))) H) ∨ (∃ i, y = .int i ∧ Q (.bl false) H))
theorem op_eqI (hu : X.A.units < cLine) : OpR X (compareOp .Eq) (rEqI X.K) := by
  intro pins s σ H x y v u Q I rx ry h
  obtain ⟨a, C, dx, fs, rfl, ea, T, h⟩ := h
  cases (show v = Value.ref a from rx)
  obtain ⟨mA, O, _⟩ := ins_get I.hok ea
  obtain ⟨od, J, _⟩ := O.look
  rcases h with ⟨b, dy, gs, rfl, eb, q⟩ | ⟨i, rfl, q⟩
  · cases (show u = Value.ref b from ry)
    obtain ⟨mB, O2, _⟩ := ins_get I.hok eb
    obtain ⟨oe, J2, _⟩ := O2.look
    exact HQ.oeq_cmp hu I.kIn J J2 T.m T.e ⟨.bl _, H, I, rfl, q⟩
  · obtain ⟨t, rfl⟩ := (show ∃ t, u = Value.int i t from ry)
    exact HQ.oeq_cmpI O.obj hu I.kIn J T.m T.e ⟨.bl _, H, I, rfl, q⟩
/-- o != o -/
def rNeI (K : PySem.W.Frag) : R2 := fun x y H Q => ∃ (a C dx : Addr) (fs : List (Str × V)), x = .ref a ∧ y = .ref a ∧ H a = some (.ins C dx fs) ∧ IdC K C ∧ Q (.bl false) H
theorem op_neI (hu : X.A.units + 1 < cLine) : OpR X (compareOp .NotEq) (rNeI X.K) := by
  intro pins s σ H x y v u Q I rx ry h
  obtain ⟨a, C, dx, fs, rfl, rfl, ea, T, q⟩ := h
  cases (show v = Value.ref a from rx)
  cases (show u = Value.ref a from ry)
  obtain ⟨mA, O, _⟩ := ins_get I.hok ea
  obtain ⟨od, J, _⟩ := O.look
  exact HQ.ne_same hu I.kIn J T.m T.e T.n ⟨.bl _, H, I, rfl, q⟩
end
/-! ### a method called by a special name, one C frame deeper or not -/
section
variable {X : Cx} {k : Nat} {f C : Addr} {fd : FuncData} {ps : List Str} {sp : Sp} {pins : List (Addr × Obj)} {σ : L2.St} {H : Hp} {s : Shared} {Q : VK} {us : List Value} {vs : List V}
theorem run_in1 (F : FnOk X.prog X.w X.K X.mg X.base CX0 k f fd ps sp) (hr : Room (k + 1) X.A) (hb : Binds X.K fd ps []) (I : L2.Inv X pins σ H s) (r : Vals vs us) (h : sp vs H Q E0) {E : Value → Shared → Prop} :
    wpAny (model X.prog X.w) X.A.in1 (call (.ref f) us) (EP X pins σ Q) E s := by
  have hl : us.length = ps.length := by rw [← r.length]; exact F.len _ _ _ _ h
  have b := hb s us I.kIn (by rw [List.append_nil]; exact hl)
  rw [List.append_nil] at b
  refine wpAny_call (codeAny_mono (F.run X.A.in1 X.stack s H ⟨us, []⟩ us vs Q E0 hr.in1 I.env0.in1 b r h) fun r s' hq => ?_)
  cases r with
  | error er => exact hq.elim
  | ok fl =>
    cases fl with
    | ret u => exact I.after hq
    | next => exact False.elim hq
    | brk => exact False.elim hq
    | cont => exact False.elim hq
theorem run_in0 (F : FnOk X.prog X.w X.K X.mg X.base CX0 k f fd ps sp) (hr : Room k X.A) (hb : Binds X.K fd ps []) (I : L2.Inv X pins σ H s) (r : Vals vs us) (h : sp vs H Q E0) {E : Value → Shared → Prop} :
    wpAny (model X.prog X.w) X.A (call (.ref f) us) (EP X pins σ Q) E s := by
  have hl : us.length = ps.length := by rw [← r.length]; exact F.len _ _ _ _ h
  have b := hb s us I.kIn (by rw [List.append_nil]; exact hl)
  rw [List.append_nil] at b
  refine wpAny_call (codeAny_mono (F.run X.A X.stack s H ⟨us, []⟩ us vs Q E0 hr I.env0 b r h) fun r s' hq => ?_)
  cases r with
  | error er => exact hq.elim
  | ok fl =>
    cases fl with
    | ret u => exact I.after hq
    | next => exact False.elim hq
    | brk => exact False.elim hq
    | cont => exact False.elim hq
end
/-- the class has the method -/
structure Sm (P : Program) (w : World) (K : PySem.W.Frag) (mg : Str → Option Value) (base : Heap) (k : Nat) (C : Addr) (m : Str) (ps : List Str) (sp : Sp) : Prop where
  c : Cls K C
  i : ∃ f fd, PySem.W.findIn K (.ref C) m = some (some (.ref f)) ∧ PySem.W.isFn K (.ref f) = true ∧ FnOk P w K mg base CX0 k f fd ps sp ∧ Binds K fd ps []
section
variable {X : Cx} {k : Nat} {C f : Addr} {fd : FuncData} {ps : List Str} {sp : Sp} {pins : List (Addr × Obj)} {σ : L2.St} {H : Hp} {s : Shared} {Q : VK} {us : List Value} {vs : List V}
/-- len(o) -/
def rLenO (C : Addr) (sp : Sp) : List V → Hp → VK → Prop := fun xs H Q => ∃ (a dx : Addr) (fs : List (Str × V)), xs = [.ref a] ∧ H a = some (.ins C dx fs) ∧ sp [.ref a] H (fun v H' => ∃ n, v = .int n ∧ 0 ≤ n ∧ n < 2 ^ 63 ∧ Q (.int n) H') E0
theorem call_lenO (T : Sm X.prog X.w X.K X.mg X.base k C "__len__" ps sp) (hr : Room (k + 1) X.A) : CallR X (.builtin "len") (rLenO C sp) := by
  intro pins s σ H xs us Q I r h
  obtain ⟨a, dx, fs, rfl, ea, h⟩ := h
  obtain ⟨u, rfl, ru⟩ := vals1 r
  cases (show u = Value.ref a from ru)
  obtain ⟨f, fd, h1, h2, h3, h4⟩ := T.i
  obtain ⟨mA, O, _⟩ := ins_get I.hok ea
  obtain ⟨od, J, _⟩ := O.look
  obtain ⟨m, F⟩ := I.fr
  refine PySem.W.len_K F I.ok.mod.kin J h1 h2 (wpAny_mono (run_in1 h3 hr h4 I r h) (fun v s' hv => ?_) fun _ _ z => z)
  obtain ⟨v', H', I', rv, n, rfl, n0, n1, q⟩ := hv
  obtain ⟨t, rfl⟩ := (show ∃ t, v = Value.int n t from rv)
  exact ⟨⟨n0, n1⟩, ⟨.int n, H', I'.tok _, ⟨_, rfl⟩, q⟩⟩
/-- bool(o) -/
def rBoolO (C : Addr) (sp : Sp) : List V → Hp → VK → Prop := fun xs H Q => ∃ (a dx : Addr) (fs : List (Str × V)), xs = [.ref a] ∧ H a = some (.ins C dx fs) ∧ sp [.ref a] H (fun v H' => ∃ b, v = .bl b ∧ Q (.bl b) H') E0
theorem run_in2 (F : FnOk X.prog X.w X.K X.mg X.base CX0 k f fd ps sp) (hr : Room (k + 2) X.A) (hb : Binds X.K fd ps []) (I : L2.Inv X pins σ H s) (r : Vals vs us) (h : sp vs H Q E0) {E : Value → Shared → Prop} :
    wpAny (model X.prog X.w) X.A.in1.in1 (call (.ref f) us) (EP X pins σ Q) E s := by
  have hl : us.length = ps.length := by rw [← r.length]; exact F.len _ _ _ _ h
  have b := hb s us I.kIn (by rw [List.append_nil]; exact hl)
  rw [List.append_nil] at b
  refine wpAny_call (codeAny_mono (F.run X.A.in1.in1 X.stack s H ⟨us, []⟩ us vs Q E0 hr.in1.in1 I.env0.in1.in1 b r h) fun r s' hq => ?_)
  cases r with
  | error er => exact hq.elim
  | ok fl =>
    cases fl with
    | ret u => exact I.after hq
    | next => exact False.elim hq
    | brk => exact False.elim hq
    | cont => exact False.elim hq
theorem call_boolO (T : Sm X.prog X.w X.K X.mg X.base k C "__bool__" ps sp) (hr : Room (k + 2) X.A) : CallR X (.type "bool") (rBoolO C sp) := by
  intro pins s σ H xs us Q I r h
  obtain ⟨a, dx, fs, rfl, ea, h⟩ := h
  obtain ⟨u, rfl, ru⟩ := vals1 r
  cases (show u = Value.ref a from ru)
  obtain ⟨f, fd, h1, h2, h3, h4⟩ := T.i
  obtain ⟨mA, O, _⟩ := ins_get I.hok ea
  obtain ⟨od, J, _⟩ := O.look
  obtain ⟨m, F⟩ := I.fr
  refine HQ.bool_of (PySem.W.truthy_K F I.ok.mod.kin J h1 h2 (wpAny_mono (run_in2 h3 hr h4 I r h) (fun v s' hv => ?_) fun _ _ z => z))
  obtain ⟨v', H', I', rv, b, rfl, q⟩ := hv
  cases (show v = Value.bool b from rv)
  exact ⟨.bl b, H', I', rfl, q⟩
/-- x in o -/
def rInO (C : Addr) (sp : Sp) : R2 := fun x y H Q => ∃ (a dx : Addr) (fs : List (Str × V)), y = .ref a ∧ H a = some (.ins C dx fs) ∧ sp [.ref a, x] H (fun v H' => ∃ b, v = .bl b ∧ Q (.bl b) H') E0
theorem op_inO (T : Sm X.prog X.w X.K X.mg X.base k C "__contains__" ps sp) (hr : Room k X.A) : OpR X (compareOp .In) (rInO C sp) := by
  intro pins s σ H x y v u Q I rx ry h
  obtain ⟨a, dx, fs, rfl, ea, h⟩ := h
  cases (show u = Value.ref a from ry)
  obtain ⟨f, fd, h1, h2, h3, h4⟩ := T.i
  obtain ⟨mA, O, _⟩ := ins_get I.hok ea
  obtain ⟨od, J, _⟩ := O.look
  obtain ⟨m, F⟩ := I.fr
  refine PySem.W.in_K F I.ok.mod.kin J h1 h2 (wpAny_mono (run_in0 h3 hr h4 I (.cons (show L2.RelV (.ref a) (.ref a) from rfl) (.cons rx .nil)) h) (fun v s' hv => ?_) fun _ _ z => z)
  obtain ⟨v', H', I', rv, b, rfl, q⟩ := hv
  cases (show v = Value.bool b from rv)
  exact wpAny_truthy_bool ⟨.bl b, H', I', rfl, q⟩
def rNotInO (C : Addr) (sp : Sp) : R2 := fun x y H Q => ∃ (a dx : Addr) (fs : List (Str × V)), y = .ref a ∧ H a = some (.ins C dx fs) ∧ sp [.ref a, x] H (fun v H' => ∃ b, v = .bl b ∧ Q (.bl (!b)) H') E0
theorem op_notInO (T : Sm X.prog X.w X.K X.mg X.base k C "__contains__" ps sp) (hr : Room k X.A) : OpR X (compareOp .NotIn) (rNotInO C sp) := by
  intro pins s σ H x y v u Q I rx ry h
  obtain ⟨a, dx, fs, rfl, ea, h⟩ := h
  cases (show u = Value.ref a from ry)
  obtain ⟨f, fd, h1, h2, h3, h4⟩ := T.i
  obtain ⟨mA, O, _⟩ := ins_get I.hok ea
  obtain ⟨od, J, _⟩ := O.look
  obtain ⟨m, F⟩ := I.fr
  refine PySem.W.notIn_K F I.ok.mod.kin J h1 h2 (wpAny_mono (run_in0 h3 hr h4 I (.cons (show L2.RelV (.ref a) (.ref a) from rfl) (.cons rx .nil)) h) (fun v s' hv => ?_) fun _ _ z => z)
  obtain ⟨v', H', I', rv, b, rfl, q⟩ := hv
  cases (show v = Value.bool b from rv)
  exact wpAny_truthy_bool ⟨.bl (!b), H', I', rfl, q⟩
end
/-! ### a method called with keywords alone -/
def tMethK (C : Addr) (m : Str) (n : Nat) (sp : Sp) (gV : List V → List V → List V) (E : XK) (ta : TE) (tk : TA) : TE := fun σ H Q => ta σ H fun x H1 => ∃ a dx fs, x = .ref a ∧ H1 a = some (.ins C dx fs) ∧ fs.lookup m = none ∧ tk σ H1 fun zs H2 => zs.length = n ∧ sp (gV [x] zs) H2 Q E
section
variable {X : Cx} {CX : CXT} {k : Nat} {f C : Addr} {fd : FuncData} {ps ks : List Str} {sp : Sp} {E : XK} {m : Str} {pos apos : Pos} {o : Expr} {kws : List Keyword} {ta : TE} {tk : TA} {g : List Value → List Value → List Value} {gV : List V → List V → List V}
theorem pe_methK0 {pl : Sem Bool} (he : PE X o ta) (c : Cls X.K C) (hm : Meth X.K C m f) (F : FnOk X.prog X.w X.K X.mg X.base CX k f fd ps sp) (hr : Room k X.A) (hb : KBn X.K fd ps 1 ks g gV) (hx : Passes CX X E) (hkw : PK X kws tk)
    (hall : (backToKw pos (keywordEach kws X.env)).all (·.1.isSome) = true := by rfl) (hks : (backToKw pos (keywordEach kws X.env)).filterMap (·.1) = ks := by rfl) (hpl : ((backTo pos (starEach [] X.env)).any (·.1) || (backToKw pos (keywordEach kws X.env)).any (·.1.isNone)) = false := by rfl)
    (ht : eval (.Call (.Attribute o m apos) [] kws pos) X.env = (do
      let ov ← eval o X.env
      standAt apos.atName
      let (f, first) ← holding [ov] (getMethod ov m pl)
      callWith pos f first (backTo pos (starEach [] X.env)) (backToKw pos (keywordEach kws X.env))) := by rfl) :
    PE X (.Call (.Attribute o m apos) [] kws pos) (tMethK C m ks.length sp gV E ta tk) := by
  refine ⟨fun pins s σ H Q I h => ?_⟩
  refine PySem.W.methodCall_KW (pl := pl) (thn (he.run pins s σ H _ I h) fun u s1 ⟨x, H1, I1, rx, a, dx, fs, ex, ea, l, q⟩ => ?_) ht
  subst ex
  obtain rfl : u = Value.ref a := rx
  refine getmeth_ok I1 ea c hm l ?_
  refine PySem.W.callWith_KW0 (first := [.ref a]) (h₀ := X.base) I.ok.mod.kin hm.kp hall ?_ hpl
  refine thn (hkw.run pos pins s1 σ H1 _ I1 q) fun ws s2 ⟨zs, H2, I2, rz, l2, q2⟩ => ⟨I2.kIn, ?_⟩
  rw [hks]
  exact run_fnN (us := [.ref a]) (vs := [.ref a]) F hr hb hx I2 (.cons rfl .nil) rz rfl l2 q2
end
end LS
set_option Elab.async false
set_option linter.all false
set_option maxRecDepth 100000
set_option maxHeartbeats 4000000
/-! Heaps that grow; statements read one by one, each with a fresh heap behind it. -/
namespace LQ
open PySem PySem.Spec PyProof.Rows L2
/-- all objects stay -/
def Sam (H H' : Hp) : Prop := ∀ b o, H b = some o → H' b = some o
/-- objects but that at a stay -/
def SamX (a : Addr) (H H' : Hp) : Prop := ∀ b o, b ≠ a → H b = some o → H' b = some o
section
variable {H H' H'' : Hp} {a b p : Addr} {o u : HO}
theorem Sam.x (h : Sam H H') : SamX a H H' := fun b o _ e => h b o e
theorem Sam.rf : Sam H H := fun _ _ e => e
theorem Sam.tr (h : Sam H H') (k : Sam H' H'') : Sam H H'' := fun b o e => k b o (h b o e)
theorem Sam.new (h : H p = none) : Sam H (upd H p o) := fun b u e => by rw [upd_ne (fun z => by rw [z, h] at e; cases e)]; exact e
theorem Sam.new2 (h : H p = none) : Sam H (upd (upd H p o) p u) := fun b v e => by
  have n : b ≠ p := fun z => by rw [z, h] at e; cases e
  rw [upd_ne n, upd_ne n]
  exact e
theorem Sam.nw (s : Sam H H') (n : H' p = none) : Sam H (upd H' p o) := s.tr (.new n)
theorem SamX.tr (h : SamX a H H') (k : SamX a H' H'') : SamX a H H'' := fun b o n e => k b o n (h b o n e)
/-- objects but that at p and the tables stay -/
def ExtP (p : Addr) (H H' : Hp) : Prop := ∀ b o, b ≠ p → H b = some o → (∀ ps, o ≠ .tbl ps) → H' b = some o
theorem ExtP.rf : ExtP p H H := fun _ _ _ e _ => e
theorem ExtP.tr (h : ExtP p H H') (k : ExtP p H' H'') : ExtP p H H'' := fun b o n e z => k b o n (h b o n e z) z
theorem Sam.ep (h : Sam H H') : ExtP p H H' := fun b o _ e _ => h b o e
theorem SamX.ep (h : SamX p H H') : ExtP p H H' := fun b o n e _ => h b o n e
theorem ExtP.en (h : LamX.ExtN H H') : ExtP p H H' := fun b o _ e z => h b o e z
theorem keep (e : H b = some o) (n : H p = none) : upd H p u b = some o := Sam.new n b o e
theorem SqL.same {K : PySem.W.Frag} {xs : List V} (h : Sam H H') (s : SqL K H a xs) : SqL K H' a xs := by
  rcases s with (e | ⟨o, e⟩) | e
  · exact .inl (.inl (h _ _ e))
  · exact .inl (.inr ⟨o, h _ _ e⟩)
  · exact .inr e
end
theorem ite_t {c : Bool} {A B : Prop} (h : c = true) (x : A) : if c = true then A else B := by
  rw [if_pos h]
  exact x
theorem ite_f {c : Bool} {A B : Prop} (h : c = false) (x : B) : if c = true then A else B := by
  rw [h, if_neg Bool.false_ne_true]
  exact x
/-! ### statements; σ' tells the names' values behind it (a list written out: the sets do not pile up) -/
section
variable {ta : TA} {te : TE} {vs xs : List V} {i j : Nat} {u : TS} {D : Ends} {σ : L2.St} {H : Hp} {l : Addr}
/-- x = [..] -/
theorem sq_lst (σ' : V → L2.St) (hs : ∀ v, σ.set i (some v) = σ' v) (ht : ∀ Q : List V → Hp → Prop, Q vs H → ta σ H Q) (hl : vs.length ≤ 1000) (k : ∀ H' x, Sam H H' → H' x = some (.lst vs) → u D (σ' (.ref x)) H') : tSeq (tAsg (tLst ta) (gName i)) u D σ H :=
  ht _ ⟨Nat.le_trans hl (by rw [sizeLine_eq]; decide), fun p hp => by
    show u D (σ.set i (some (.ref p))) _
    rw [hs]
    exact k _ p (Sam.new hp) upd_same⟩
/-- x = y + [..] -/
theorem sq_cat (σ' : V → L2.St) (hs : ∀ v, σ.set j (some v) = σ' v) (hv : σ[i]? = some (some (.ref l))) (e : H l = some (.lst xs)) (ht : ∀ Q : List V → Hp → Prop, Q vs H → ta σ H Q) (hl : xs.length + vs.length ≤ 1000)
    (k : ∀ H' x, Sam H H' → H' x = some (.lst (xs ++ vs)) → u D (σ' (.ref x)) H') : tSeq (tAsg (tOp rCat (tVar i) (tLst ta)) (gName j)) u D σ H := by
  have hz : xs.length + vs.length ≤ sizeLine := Nat.le_trans hl (by rw [sizeLine_eq]; decide)
  refine ⟨.ref l, hv, ht _ ⟨Nat.le_trans (Nat.le_add_left _ _) hz, fun p hp => ⟨l, p, xs, vs, rfl, rfl, keep e hp, upd_same, hz, fun q hq => ?_⟩⟩⟩
  show u D (σ.set j (some (.ref q))) _
  rw [hs]
  exact k _ q ((Sam.new hp).nw hq) upd_same
/-- x = e -/
theorem sq_set (σ' : V → L2.St) (hs : ∀ v, σ.set i (some v) = σ' v) (h : te σ H fun v H' => u D (σ' v) H') : tSeq (tAsg te (gName i)) u D σ H := by
  have e : (fun (v : V) H' => u D (σ' v) H') = fun v H' => u D (σ.set i (some v)) H' := by
    funext v H'
    rw [hs]
  rw [e] at h
  exact h
/-- the names' values, written out -/
theorem sq_st {t : TS} (σ' : L2.St) (e : σ = σ') (h : t D σ' H) : t D σ H := by
  rw [e]
  exact h
end
/-! ### list.count of flat things -/
def rCntF (K : PySem.W.Frag) : V → List V → Hp → VK → Prop := fun x xs H Q => ∃ (a : Addr) (ys : List V) (y : V), x = .ref a ∧ xs = [y] ∧ SqL K H a ys ∧ flatV y = true ∧ ys.all flatV = true ∧ Q (.int (ys.countP fun z => eqV z y : Nat)) H
theorem countP_eqU {y : V} : ∀ {ys : List V} {us : List Value}, Vals ys us → ys.all flatV = true → us.countP (eqU y) = ys.countP fun z => eqV z y
  | _, _, .nil, _ => rfl
  | x :: ys, u :: us, .cons r t, f => by
    rw [List.all_cons, Bool.and_eq_true] at f
    rw [List.countP_cons, List.countP_cons, countP_eqU t f.2, eqU_of r f.1]
theorem mt_countF {X : Cx} : MtR X "list.count" (rCntF X.K) := by
  intro pins s σ H x xs v us Q I rx rxs h
  obtain ⟨p, ys, y, rfl, rfl, hs, fy, fys, q⟩ := h
  cases rx
  obtain ⟨u, rfl, ru⟩ := rxs.one
  obtain ⟨its, rv, ⟨⟨cls, dd, data, sl⟩, n, ho, hc, hdn, hd⟩, hlen⟩ := I.list hs
  simp only at hc hd
  subst hc hd
  refine call_meets PySem.F.slot_list_count ⟨_, ho, rfl⟩ PySem.F.entry_list_count (PySem.F.args_list_count_2 _ _)
    (SeqAt.list_countAt p its.toArray n dd sl u (eqU y)) ⟨ho, fun z hz => mem_eqAt ru fy rv fys z (by simpa using hz), ?_⟩
  have ec : its.toArray.toList.countP (eqU y) = ys.countP fun z => eqV z y := countP_eqU rv fys
  refine ⟨.int (ys.countP (fun z => eqV z y) : Nat), H, I.tok _, ⟨s.toks, ?_⟩, q⟩
  show Value.int ((its.toArray.toList.countP (eqU y) : Nat) : Int) s.toks = _
  rw [ec]
theorem passB {CX : CXT} {P : Program} {w : World} {K : PySem.W.Frag} {mg : Str → Option Value} {base : Heap} {N : List Str} {qual : Str} {scope : Scope} {f : Addr} {cd : Value} {A : Around} {outer : List Env} {s : Shared} {H : Hp} {E : XK} :
    PassesOwn (model P w) (cxOf CX P w K mg base N qual scope f cd A outer s H E).A (cxOf CX P w K mg base N qual scope f cd A outer s H E).env (cxOf CX P w K mg base N qual scope f cd A outer s H E).xe := passes_of rfl
end LQ
set_option Elab.async false
set_option linter.all false
set_option maxRecDepth 100000
set_option maxHeartbeats 4000000
/-! defs, methods, properties, makers by name: what is known of each in one fact, a call by that fact. -/
namespace LD
open PySem PySem.Spec PyProof.Rows L2
section
variable (P : Program) (w : World) (K : PySem.W.Frag) (mg : Str → Option Value) (base : Heap) (CX : CXT) (k : Nat)
structure Dn (x : Str) (ps : List Str) (sp : Sp) : Prop where
  i : ∃ f fd, mg x = some (.ref f) ∧ PySem.W.keepIn K (.ref f) = true ∧ FnOk P w K mg base CX k f fd ps sp ∧ Binds K fd ps []
structure Gn (x : Str) (ps : List Str) (sp : Sp) : Prop where
  i : ∃ f fd, mg x = some (.ref f) ∧ PySem.W.keepIn K (.ref f) = true ∧ LL.FnG P w K mg base CX k f fd ps sp ∧ Binds K fd ps []
structure En (x : Str) (ps : List Str) (sp : Addr × Obj → Sp) : Prop where
  i : ∃ f fd, mg x = some (.ref f) ∧ PySem.W.keepIn K (.ref f) = true ∧ LX.FnE P w K mg base CX k f fd ps sp ∧ Binds K fd ps []
structure Mn (C : Addr) (m : Str) (ps : List Str) (sp : Sp) : Prop where
  c : Cls K C
  i : ∃ f fd, Meth K C m f ∧ FnOk P w K mg base CX k f fd ps sp ∧ Binds K fd ps []
/-- with keywords alone, behind self -/
structure MnK (C : Addr) (m : Str) (ps ks : List Str) (gV : List V → List V → List V) (sp : Sp) : Prop where
  c : Cls K C
  i : ∃ f fd g, Meth K C m f ∧ FnOk P w K mg base CX k f fd ps sp ∧ KBn K fd ps 1 ks g gV
structure Pn (C : Addr) (f : Str) (ps : List Str) (sp : Sp) : Prop where
  c : Cls K C
  i : ∃ p g fd, PropOf K C f p g ∧ FnOk P w K mg base CX k g fd ps sp ∧ Binds K fd ps []
structure Kn (x : Str) (C : Addr) (ps : List Str) (dvs : List V) (sp : Sp) : Prop where
  i : ∃ f fd ds, mg x = some (.ref C) ∧ Mk K C f ∧ FnOk P w K mg base CX k f fd ps sp ∧ Binds K fd ps ds ∧ Vals dvs ds
structure KnK (x : Str) (C : Addr) (n : Nat) (ps ks : List Str) (gV : List V → List V → List V) (sp : Sp) : Prop where
  i : ∃ f fd g, mg x = some (.ref C) ∧ Mk K C f ∧ FnOk P w K mg base CX k f fd ps sp ∧ KBn K fd ps (n + 1) ks g gV
end
section
variable {X : Cx} {CX : CXT} {k n : Nat} {C : Addr} {x m f : Str} {ps ks : List Str} {dvs : List V} {sp : Sp} {E : XK} {p pos apos : Pos} {o e : Expr} {es : List Expr} {kws : List Keyword} {ta te : TE} {t tk : TA} {gV : List V → List V → List V}
theorem pe_callD (D : Dn X.prog X.w X.K X.mg X.base CX k x ps sp) (hr : Room k X.A) (hx : Passes CX X E) (ha : PA X (e :: es) t) (hg : Gl X x := by rfl) (hdb : (x == ("__debug__" : Str)) = false := by decide)
    (he : starEach (e :: es) X.env = (false, eval e X.env) :: starEach es X.env := by rfl) (hpl : (backTo pos (starEach es X.env)).any (·.1) = false := by rfl) : PE X (.Call (.Name x p) (e :: es) [] pos) (tCall sp [] E t) := by
  obtain ⟨f, fd, h1, h2, h3, h4⟩ := D.i
  exact pe_call h3 hr hg h1 h2 h4 .nil hx ha hdb he hpl
theorem pe_callD0 (D : Dn X.prog X.w X.K X.mg X.base CX k x ps sp) (hr : Room k X.A) (hx : Passes CX X E) (hg : Gl X x := by rfl) (hdb : (x == ("__debug__" : Str)) = false := by decide) : PE X (.Call (.Name x p) [] [] pos) (tCall sp [] E tNil) := by
  obtain ⟨f, fd, h1, h2, h3, h4⟩ := D.i
  exact pe_call0 h3 hr hg h1 h2 h4 .nil hx hdb
theorem pe_callGD (D : Gn X.prog X.w X.K X.mg X.base CX k x ps sp) (hr : Room k X.A) (hgu : X.A.guards = some []) (hx : Passes CX X E) (ha : PA X (e :: es) t) (hg : Gl X x := by rfl) (hdb : (x == ("__debug__" : Str)) = false := by decide)
    (he : starEach (e :: es) X.env = (false, eval e X.env) :: starEach es X.env := by rfl) (hpl : (backTo pos (starEach es X.env)).any (·.1) = false := by rfl) : PE X (.Call (.Name x p) (e :: es) [] pos) (tCall sp [] E t) := by
  obtain ⟨f, fd, h1, h2, h3, h4⟩ := D.i
  exact LL.pe_callG h3 hr hgu h1 h2 h4 hx ha hg hdb he hpl
theorem pe_callED {spE : Addr × Obj → Sp} {EE : L2.St → XK} {q : Addr × Obj} (D : En X.prog X.w X.K X.mg X.base CX k x ps spE) (hr : L2H.RoomH k X.A) (hgu : X.A.guards = some []) (hot : L2H.Hot1 X.A q) (hq : q ∈ X.pn) (hx : ∀ σ, PassesAt CX X σ (EE σ)) (ha : PA X (e :: es) t) (hg : Gl X x := by rfl) (hdb : (x == ("__debug__" : Str)) = false := by decide)
    (he : starEach (e :: es) X.env = (false, eval e X.env) :: starEach es X.env := by rfl) (hpl : (backTo pos (starEach es X.env)).any (·.1) = false := by rfl) : PE X (.Call (.Name x p) (e :: es) [] pos) (tCallS (spE q) EE t) := by
  obtain ⟨f, fd, h1, h2, h3, h4⟩ := D.i
  exact LX.pe_callE h3 hr hgu hot hq h1 h2 h4 hx ha hg hdb he hpl
theorem pe_methD {pl : Sem Bool} (he : PE X o ta) (D : Mn X.prog X.w X.K X.mg X.base CX k C m ps sp) (hr : Room k X.A) (hx : Passes CX X E) (ha : PA X (e :: es) t)
    (hst : starEach (e :: es) X.env = (false, eval e X.env) :: starEach es X.env := by rfl) (hpl : (backTo pos (starEach es X.env)).any (·.1) = false := by rfl)
    (ht : eval (.Call (.Attribute o m apos) (e :: es) [] pos) X.env = (do
      let ov ← eval o X.env
      standAt apos.atName
      let (f, first) ← holding [ov] (getMethod ov m pl)
      callWith pos f first (backTo pos (starEach (e :: es) X.env)) (backToKw pos (keywordEach [] X.env))) := by rfl) :
    PE X (.Call (.Attribute o m apos) (e :: es) [] pos) (tMeth C m sp [] E ta t) := by
  obtain ⟨f, fd, h1, h2, h3⟩ := D.i
  exact pe_meth he D.c h1 h2 hr h3 .nil hx ha hst hpl ht
theorem pe_methD0 {pl : Sem Bool} (he : PE X o ta) (D : Mn X.prog X.w X.K X.mg X.base CX k C m ps sp) (hr : Room k X.A) (hx : Passes CX X E)
    (ht : eval (.Call (.Attribute o m apos) [] [] pos) X.env = (do
      let ov ← eval o X.env
      standAt apos.atName
      let (f, first) ← holding [ov] (getMethod ov m pl)
      callWith pos f first (backTo pos (starEach [] X.env)) (backToKw pos (keywordEach [] X.env))) := by rfl) :
    PE X (.Call (.Attribute o m apos) [] [] pos) (tMeth C m sp [] E ta tNil) := by
  obtain ⟨f, fd, h1, h2, h3⟩ := D.i
  exact pe_meth0 he D.c h1 h2 hr h3 .nil hx ht
theorem pe_methKD {pl : Sem Bool} (he : PE X o ta) (D : MnK X.prog X.w X.K X.mg X.base CX k C m ps ks gV sp) (hr : Room k X.A) (hx : Passes CX X E) (hkw : PK X kws tk)
    (hall : (backToKw pos (keywordEach kws X.env)).all (·.1.isSome) = true := by rfl) (hks : (backToKw pos (keywordEach kws X.env)).filterMap (·.1) = ks := by rfl) (hpl : ((backTo pos (starEach [] X.env)).any (·.1) || (backToKw pos (keywordEach kws X.env)).any (·.1.isNone)) = false := by rfl)
    (ht : eval (.Call (.Attribute o m apos) [] kws pos) X.env = (do
      let ov ← eval o X.env
      standAt apos.atName
      let (f, first) ← holding [ov] (getMethod ov m pl)
      callWith pos f first (backTo pos (starEach [] X.env)) (backToKw pos (keywordEach kws X.env))) := by rfl) :
    PE X (.Call (.Attribute o m apos) [] kws pos) (LS.tMethK C m ks.length sp gV E ta tk) := by
  obtain ⟨f, fd, g, h1, h2, h3⟩ := D.i
  exact LS.pe_methK0 he D.c h1 h2 hr h3 hx hkw hall hks hpl ht
theorem pe_propD (he : PE X e ta) (D : Pn X.prog X.w X.K X.mg X.base CX k C f ps sp) (hr : Room (k + 1) X.A) (hx : Passes CX X.nox E) (hab : attributeBase e f X.env (eval e X.env) = eval e X.env := by rfl) : PE X (.Attribute e f pos) (tProp C sp [] E ta) := by
  obtain ⟨p, g, fd, h1, h2, h3⟩ := D.i
  exact pe_prop he D.c h1 h2 hr h3 .nil hx hab
theorem pe_makeD (D : Kn X.prog X.w X.K X.mg X.base CX k x C ps dvs sp) (hr : Room (k + 1) X.A) (hx : Passes CX X E) (ha : PA X (e :: es) t) (hg : Gl X x := by rfl) (hdb : (x == ("__debug__" : Str)) = false := by decide)
    (he : starEach (e :: es) X.env = (false, eval e X.env) :: starEach es X.env := by rfl) (hpl : (backTo pos (starEach es X.env)).any (·.1) = false := by rfl) : PE X (.Call (.Name x p) (e :: es) [] pos) (tMake C sp dvs E t) := by
  obtain ⟨f, fd, ds, h1, h2, h3, h4, h5⟩ := D.i
  exact pe_make h2 h3 hr hg h1 h4 h5 hx ha hdb he hpl
theorem pe_makeD0 (D : Kn X.prog X.w X.K X.mg X.base CX k x C ps dvs sp) (hr : Room (k + 1) X.A) (hx : Passes CX X E) (hg : Gl X x := by rfl) (hdb : (x == ("__debug__" : Str)) = false := by decide) : PE X (.Call (.Name x p) [] [] pos) (tMake C sp dvs E tNil) := by
  obtain ⟨f, fd, ds, h1, h2, h3, h4, h5⟩ := D.i
  exact pe_make0 h2 h3 hr hg h1 h4 h5 hx hdb
theorem pe_makeKD0 (D : KnK X.prog X.w X.K X.mg X.base CX k x C 0 ps ks gV sp) (hr : Room (k + 1) X.A) (hx : Passes CX X E) (hkw : PK X kws tk) (hg : Gl X x := by rfl)
    (hall : (backToKw pos (keywordEach kws X.env)).all (·.1.isSome) = true := by rfl) (hks : (backToKw pos (keywordEach kws X.env)).filterMap (·.1) = ks := by rfl) (hdb : (x == ("__debug__" : Str)) = false := by decide)
    (hpl : ((backTo pos (starEach [] X.env)).any (·.1) || (backToKw pos (keywordEach kws X.env)).any (·.1.isNone)) = false := by rfl) :
    PE X (.Call (.Name x p) [] kws pos) (tMakeK C 0 ks.length sp gV E tNil tk) := by
  obtain ⟨f, fd, g, h1, h2, h3, h4⟩ := D.i
  exact pe_makeK0 h2 h3 hr hg h1 h4 hx hkw hall hks hdb hpl
theorem pe_makeKD (D : KnK X.prog X.w X.K X.mg X.base CX k x C n ps ks gV sp) (hr : Room (k + 1) X.A) (hx : Passes CX X E) (ha : PA X (e :: es) t) (hkw : PK X kws tk) (hg : Gl X x := by rfl)
    (hall : (backToKw pos (keywordEach kws X.env)).all (·.1.isSome) = true := by rfl) (hks : (backToKw pos (keywordEach kws X.env)).filterMap (·.1) = ks := by rfl) (hdb : (x == ("__debug__" : Str)) = false := by decide)
    (he : starEach (e :: es) X.env = (false, eval e X.env) :: starEach es X.env := by rfl) (hpl : ((backTo pos (starEach (e :: es) X.env)).any (·.1) || (backToKw pos (keywordEach kws X.env)).any (·.1.isNone)) = false := by rfl) :
    PE X (.Call (.Name x p) (e :: es) kws pos) (tMakeK C n ks.length sp gV E t tk) := by
  obtain ⟨f, fd, g, h1, h2, h3, h4⟩ := D.i
  exact pe_makeK h2 h3 hr hg h1 h4 hx ha hkw hall hks hdb he hpl
/-- a raising callee that does not raise here -/
theorem takesN0 {X : Cx} : L2N.Takes X (fun _ _ _ _ => False) := fun _ _ x => by
  obtain ⟨_, _, _, _, _, _, _, _, _, _, _, _, _, _, _, _, z⟩ := x
  exact z.elim
theorem passN0 {X : Cx} : Passes (L2N.CX X.prog X.w) X E0 := L2N.passes_call takesN0 fun _ _ _ _ h => h
theorem passN {X : Cx} {E : XK} (tk : L2N.Takes X (fun c d _ H => E c d H)) : Passes (L2N.CX X.prog X.w) X E := L2N.passes_call tk fun _ _ _ _ h => h
/-- what leaves a lambda's body -/
theorem takesL {X : Cx} {A : Around} {outer : List Env} {s : Shared} {H : Hp} {E : XK} {scope : Scope} {f c' : Addr} : L2N.Takes (LL.lamCxN X A outer s H E scope f c') (fun c d _ H => E c d H) := L2N.takes_of rfl rfl rfl rfl
/-- what leaves a def's body -/
theorem takesB {P : Program} {w : World} {K : PySem.W.Frag} {mg : Str → Option Value} {base : Heap} {N : List Str} {qual : Str} {scope : Scope} {f : Addr} {cd : Value} {A : Around} {outer : List Env} {s : Shared} {H : Hp} {E : XK} :
    L2N.Takes (cxOf (L2N.CX P w) P w K mg base N qual scope f cd A outer s H E) (fun c d _ H => E c d H) := L2N.takes_of rfl rfl rfl rfl
end
/-! ### a def's facts, from its walk -/
section
variable {P : Program} {w : World} {K : PySem.W.Frag} {mg : Str → Option Value} {base : Heap} {x qual : Str} {params : Arguments} {body : List Stmt} {scope : Scope} {f : Addr} {fd : FuncData} {N ps : List Str} {k : Nat} {sp : Sp}
theorem okN {CX : CXT} (F : FunD K x qual params body scope [] [] f fd) (S : FnScope N ps scope) (len : ∀ vs H Q E, sp vs H Q E → vs.length = ps.length)
    (hbody : ∀ (A : Around) (outer : List Env) (s : Shared) (H : Hp) (vs : List V) (Q : VK) (E : XK), Room k (A.deeper (envOfC qual scope s.heap.objs.size f fd.code)) → sp vs H Q E →
      ∃ t, PSs (cxOf CX P w K mg base N qual scope f fd.code A outer s H E) body t ∧ t { nx := fun _ H' => Q .non H', rt := Q } (L2.start N vs) H) : FnOk P w K mg base CX (k + 1) f fd ps sp :=
  ⟨len, fun A outer s H args us vs Q E hr e0 hb r hsp => LL.run_body F S hr e0 hb r (len _ _ _ _ hsp) fun hr' => hbody A outer s H vs Q E hr' hsp⟩
theorem okND {CX : CXT} {dvs0 : List V} (F : FunD K x qual params body scope dvs0 [] f fd) (S : FnScope N ps scope) (len : ∀ vs H Q E, sp vs H Q E → vs.length = ps.length)
    (hbody : ∀ (A : Around) (outer : List Env) (s : Shared) (H : Hp) (vs : List V) (Q : VK) (E : XK), Room k (A.deeper (envOfC qual scope s.heap.objs.size f fd.code)) → sp vs H Q E →
      ∃ t, PSs (cxOf CX P w K mg base N qual scope f fd.code A outer s H E) body t ∧ t { nx := fun _ H' => Q .non H', rt := Q } (L2.start N vs) H) : FnOk P w K mg base CX (k + 1) f fd ps sp :=
  ⟨len, fun A outer s H args us vs Q E hr e0 hb r hsp => LL.run_body F S hr e0 hb r (len _ _ _ _ hsp) fun hr' => hbody A outer s H vs Q E hr' hsp⟩
end
end LD
set_option Elab.async false
set_option linter.all false
set_option maxRecDepth 100000
set_option maxHeartbeats 4000000
/-! Readings step by step: one lemma a construct, the goal stays a construct applied to names' values (written out), a heap and a wish. -/
namespace RD
open PySem PySem.Spec PyProof.Rows L2 LQ
section
variable {t u : TS} {D : Ends} {σ : L2.St} {H : Hp} {Q : VK} {te ta tb tc : TE} {tt t1 t2 : TT} {tr tk : TA} {g : TG} {r : R2} {K : PySem.W.Frag} {C : Addr} {m f : Str} {sp : Sp} {dvs vs zs : List V} {E : XK} {v x y : V}
theorem seq (h : t { D with nx := u D } σ H) : tSeq t u D σ H := h
theorem asg (h : te σ H fun x H1 => g x σ H1 D.nx) : tAsg te g D σ H := h
theorem ret (h : te σ H D.rt) : tRet te D σ H := h
theorem retN (h : D.rt .non H) : tRetN D σ H := h
theorem next (h : D.nx σ H) : tNext D σ H := h
theorem drop (h : te σ H fun _ H1 => D.nx σ H1) : tDrop te D σ H := h
theorem ifS (h : tt σ H fun b H1 => if b = true then t D σ H1 else u D σ H1) : tIfS tt t u D σ H := h
theorem con {Q : VK} (h : Q v H) : tC v σ H Q := h
theorem nil {Q : List V → Hp → Prop} (h : Q [] H) : tNil σ H Q := h
theorem cons {Q : List V → Hp → Prop} (h : te σ H fun x H1 => tr σ H1 fun xs H2 => Q (x :: xs) H2) : tCons te tr σ H Q := h
theorem op (h : ta σ H fun x H1 => tb σ H1 fun y H2 => r x y H2 Q) : tOp r ta tb σ H Q := h
theorem un {r : V → Hp → VK → Prop} (h : ta σ H fun x H1 => r x H1 Q) : tUn r ta σ H Q := h
theorem i0 {g : Int → Int → V} {i j : Int} (h : Q (g i j) H) : rI0 g (.int i) (.int j) H Q := ⟨i, j, rfl, rfl, h⟩
theorem iC {C : Int → Int → Prop} {g : Int → Int → V} {i j : Int} (c : C i j) (h : Q (g i j) H) : rI C g (.int i) (.int j) H Q := ⟨i, j, rfl, rfl, c, h⟩
theorem iU {g : Int → V} {i : Int} (h : Q (g i) H) : rU g (.int i) H Q := ⟨i, rfl, h⟩
theorem eq_ (s : scal x y = true) (h : Q (.bl (decide (x = y))) H) : rEq x y H Q := ⟨s, h⟩
theorem ne_ (s : scal x y = true) (h : Q (.bl (!decide (x = y))) H) : rNe x y H Q := ⟨s, h⟩
theorem isN (h : Q (.bl (decide (x = .non))) H) : (V.non = V.non) ∧ Q (.bl (decide (x = .non))) H := ⟨rfl, h⟩
/-- a truth -/
def TestE (x : V) (H : Hp) (Q : Bool → Hp → Prop) : Prop := ∃ k, x = .bl k ∧ Q k H
theorem testE {b : Bool} {Q : Bool → Hp → Prop} (h : Q b H) : TestE (.bl b) H Q := ⟨b, rfl, h⟩
theorem test {Q : Bool → Hp → Prop} (h : te σ H fun x H' => TestE x H' Q) : tTest te σ H Q := h
theorem tb_ {Q : Bool → Hp → Prop} (h : te σ H fun x H' => TestE x H' Q) : tB te σ H Q := h
theorem not_ {Q : Bool → Hp → Prop} (h : tt σ H fun c H1 => Q (!c) H1) : tNot tt σ H Q := h
theorem and_ {Q : Bool → Hp → Prop} (h : t1 σ H fun c H1 => if c = true then t2 σ H1 Q else Q false H1) : tAnd t1 t2 σ H Q := h
theorem or_ {Q : Bool → Hp → Prop} (h : t1 σ H fun c H1 => if c = true then Q true H1 else t2 σ H1 Q) : tOr t1 t2 σ H Q := h
theorem if_ (h : tt σ H fun c H1 => if c = true then ta σ H1 Q else tb σ H1 Q) : tIf tt ta tb σ H Q := h
def AndE (tb : TE) (σ : L2.St) (x : V) (H : Hp) (Q : VK) : Prop := ∃ c, x = .bl c ∧ if c = true then tb σ H Q else Q (.bl false) H
def OrE (tb : TE) (σ : L2.St) (x : V) (H : Hp) (Q : VK) : Prop := ∃ c, x = .bl c ∧ if c = true then Q (.bl true) H else tb σ H Q
def NotE (x : V) (H : Hp) (Q : VK) : Prop := ∃ c, x = .bl c ∧ Q (.bl (!c)) H
theorem andV (h : ta σ H fun x H1 => AndE tb σ x H1 Q) : tAndV ta tb σ H Q := h
theorem orV (h : ta σ H fun x H1 => OrE tb σ x H1 Q) : tOrV ta tb σ H Q := h
theorem notV (h : ta σ H fun x H1 => NotE x H1 Q) : tNotV ta σ H Q := h
theorem andE {b : Bool} (h : if b = true then tb σ H Q else Q (.bl false) H) : AndE tb σ (.bl b) H Q := ⟨b, rfl, h⟩
theorem orE {b : Bool} (h : if b = true then Q (.bl true) H else tb σ H Q) : OrE tb σ (.bl b) H Q := ⟨b, rfl, h⟩
theorem notE {b : Bool} (h : Q (.bl (!b)) H) : NotE (.bl b) H Q := ⟨b, rfl, h⟩
/-- a new list, tuple -/
def LstE (xs : List V) (H : Hp) (Q : VK) : Prop := xs.length ≤ sizeLine ∧ ∀ p, H p = none → Q (.ref p) (upd H p (.lst xs))
def TupE (xs : List V) (H : Hp) (Q : VK) : Prop := xs.length ≤ sizeLine ∧ ∀ p, H p = none → Q (.ref p) (upd H p (.tup xs))
theorem lst (h : tr σ H fun xs H1 => LstE xs H1 Q) : tLst tr σ H Q := h
theorem tup (h : tr σ H fun xs H1 => TupE xs H1 Q) : tTup tr σ H Q := h
theorem lstE {xs : List V} (hl : xs.length ≤ 1000) (h : ∀ H' p, Sam H H' → H p = none → H' p = some (.lst xs) → Q (.ref p) H') : LstE xs H Q := ⟨Nat.le_trans hl (by rw [sizeLine_eq]; decide), fun p hp => h _ p (Sam.new hp) hp upd_same⟩
theorem tupE {xs : List V} (hl : xs.length ≤ 1000) (h : ∀ H' p, Sam H H' → H p = none → H' p = some (.tup xs) → Q (.ref p) H') : TupE xs H Q := ⟨Nat.le_trans hl (by rw [sizeLine_eq]; decide), fun p hp => h _ p (Sam.new hp) hp upd_same⟩
theorem cat {a b : Addr} {xs ys : List V} (ea : H a = some (.lst xs)) (eb : H b = some (.lst ys)) (hl : xs.length + ys.length ≤ 1000) (h : ∀ H' p, Sam H H' → H p = none → H' p = some (.lst (xs ++ ys)) → Q (.ref p) H') : rCat (.ref a) (.ref b) H Q :=
  ⟨a, b, xs, ys, rfl, rfl, ea, eb, Nat.le_trans hl (by rw [sizeLine_eq]; decide), fun p hp => h _ p (Sam.new hp) hp upd_same⟩
theorem rep {a : Addr} {k : Nat} {xs : List V} (ea : H a = some (.lst xs)) (hk : k ≤ 1000) (hl : xs.length * k ≤ 1000) (h : ∀ H' p, Sam H H' → H p = none → H' p = some (.lst (List.replicate k xs).flatten) → Q (.ref p) H') : rRep (.ref a) (.int (k : Int)) H Q :=
  ⟨a, k, xs, rfl, rfl, ea, by omega, by omega, Nat.le_trans (by rw [Int.toNat_natCast]; exact hl) (by rw [sizeLine_eq]; decide), fun p hp => h _ p (Sam.new hp) hp (by rw [upd_same, Int.toNat_natCast])⟩
theorem app {a : Addr} {xs : List V} (ea : H a = some (.lst xs)) (hl : xs.length < 1000) (h : Q .non (upd H a (.lst (xs ++ [y])))) : rAppend (.ref a) [y] H Q := ⟨a, xs, y, rfl, rfl, ea, Nat.lt_of_lt_of_le hl (by rw [sizeLine_eq]; decide), h⟩
theorem ixL {a : Addr} {xs : List V} {j : Nat} (ea : SqL K H a xs) (hj : xs[j]? = some v) (h : Q v H) : rIxL K (.ref a) (.int (j : Int)) H Q := ⟨a, xs, j, v, rfl, rfl, ea, atI_nat hj, h⟩
theorem eqD {d e : PyData} (h1 : Dp K H x d) (h2 : Dp K H y e) (s1 : SeqAt.shaped d = true) (s2 : SeqAt.shaped e = true) (h : Q (.bl (PyData.eqv d e)) H) : rEqD K x y H Q := ⟨d, e, h1, h2, s1, s2, h⟩
theorem neD {d e : PyData} (h1 : Dp K H x d) (h2 : Dp K H y e) (s1 : SeqAt.shaped d = true) (s2 : SeqAt.shaped e = true) (h : Q (.bl (!PyData.eqv d e)) H) : rNeD K x y H Q := ⟨d, e, h1, h2, s1, s2, h⟩
/-- calls -/
theorem cb {r : List V → Hp → VK → Prop} (h : tr σ H fun vs H1 => r vs H1 Q) : tCB r tr σ H Q := h
theorem call (h : tr σ H fun vs H1 => sp (vs ++ dvs) H1 Q E) : tCall sp dvs E tr σ H Q := h
theorem callS {EE : L2.St → XK} (h : tr σ H fun vs H1 => sp vs H1 Q (EE σ)) : tCallS sp EE tr σ H Q := h
def MakeE (C : Addr) (sp : Sp) (dvs : List V) (E : XK) (vs : List V) (H1 : Hp) (Q : VK) : Prop := ∀ x dx, H1 x = none → H1 dx = none → dx ≠ x → sp (.ref x :: (vs ++ dvs)) (upd (upd H1 dx (.own x)) x (.ins C dx [])) (fun v H2 => v = .non ∧ Q (.ref x) H2) E
theorem make (h : tr σ H fun vs H1 => MakeE C sp dvs E vs H1 Q) : tMake C sp dvs E tr σ H Q := h
def MakeKE (C : Addr) (n m : Nat) (sp : Sp) (gV : List V → List V → List V) (E : XK) (vs zs : List V) (H2 : Hp) (Q : VK) : Prop := vs.length = n ∧ zs.length = m ∧ ∀ x dx, H2 x = none → H2 dx = none → dx ≠ x → sp (gV (.ref x :: vs) zs) (upd (upd H2 dx (.own x)) x (.ins C dx [])) (fun v H3 => v = .non ∧ Q (.ref x) H3) E
theorem makeK {n m : Nat} {gV : List V → List V → List V} (h : tr σ H fun vs H1 => tk σ H1 fun zs H2 => MakeKE C n m sp gV E vs zs H2 Q) : tMakeK C n m sp gV E tr tk σ H Q := h
def MethE (C : Addr) (m : Str) (sp : Sp) (dvs : List V) (E : XK) (tr : TA) (σ : L2.St) (x : V) (H : Hp) (Q : VK) : Prop := ∃ a dx fs, x = .ref a ∧ H a = some (.ins C dx fs) ∧ fs.lookup m = none ∧ tr σ H fun vs H2 => sp (x :: (vs ++ dvs)) H2 Q E
theorem meth (h : ta σ H fun x H1 => MethE C m sp dvs E tr σ x H1 Q) : tMeth C m sp dvs E ta tr σ H Q := h
theorem methE {a dx : Addr} {fs : List (Str × V)} (e : H a = some (.ins C dx fs)) (l : fs.lookup m = none) (h : tr σ H fun vs H2 => sp (.ref a :: (vs ++ dvs)) H2 Q E) : MethE C m sp dvs E tr σ (.ref a) H Q := ⟨a, dx, fs, rfl, e, l, h⟩
def MethKE (C : Addr) (m : Str) (n : Nat) (sp : Sp) (gV : List V → List V → List V) (E : XK) (tk : TA) (σ : L2.St) (x : V) (H : Hp) (Q : VK) : Prop := ∃ a dx fs, x = .ref a ∧ H a = some (.ins C dx fs) ∧ fs.lookup m = none ∧ tk σ H fun zs H2 => zs.length = n ∧ sp (gV [x] zs) H2 Q E
theorem methK {n : Nat} {gV : List V → List V → List V} (h : ta σ H fun x H1 => MethKE C m n sp gV E tk σ x H1 Q) : LS.tMethK C m n sp gV E ta tk σ H Q := h
theorem methKE {a dx : Addr} {fs : List (Str × V)} {n : Nat} {gV : List V → List V → List V} (e : H a = some (.ins C dx fs)) (l : fs.lookup m = none) (h : tk σ H fun zs H2 => zs.length = n ∧ sp (gV [.ref a] zs) H2 Q E) : MethKE C m n sp gV E tk σ (.ref a) H Q := ⟨a, dx, fs, rfl, e, l, h⟩
def PropE (C : Addr) (sp : Sp) (dvs : List V) (E : XK) (x : V) (H : Hp) (Q : VK) : Prop := ∃ a dx fs, x = .ref a ∧ H a = some (.ins C dx fs) ∧ sp (.ref a :: dvs) H Q E
theorem prop (h : ta σ H fun x H1 => PropE C sp dvs E x H1 Q) : tProp C sp dvs E ta σ H Q := h
theorem propE {a dx : Addr} {fs : List (Str × V)} (e : H a = some (.ins C dx fs)) (h : sp (.ref a :: dvs) H Q E) : PropE C sp dvs E (.ref a) H Q := ⟨a, dx, fs, rfl, e, h⟩
def FldE (K : PySem.W.Frag) (f : Str) (x : V) (H : Hp) (Q : VK) : Prop := ∃ a C dx fs v, x = .ref a ∧ H a = some (.ins C dx fs) ∧ Cls K C ∧ NoAttr K C f ∧ fs.lookup f = some v ∧ Q v H
theorem fld (h : ta σ H fun x H1 => FldE K f x H1 Q) : tFld K ta f σ H Q := h
theorem fldE {a dx : Addr} {fs : List (Str × V)} (e : H a = some (.ins C dx fs)) (c : Cls K C) (n : NoAttr K C f) (l : fs.lookup f = some v) (h : Q v H) : FldE K f (.ref a) H Q := ⟨a, C, dx, fs, v, rfl, e, c, n, l, h⟩
/-- methods of lists -/
def BmE (K : PySem.W.Frag) (T : String) (r : V → List V → Hp → VK → Prop) (tr : TA) (σ : L2.St) (x : V) (H : Hp) (Q : VK) : Prop := tyV K T x H ∧ tr σ H fun xs H2 => r x xs H2 Q
theorem bm {T : String} {r : V → List V → Hp → VK → Prop} (h : ta σ H fun x H1 => BmE K T r tr σ x H1 Q) : tBM K T r ta tr σ H Q := h
theorem bmE {a : Addr} {xs : List V} {r : V → List V → Hp → VK → Prop} (e : SqL K H a xs) (h : tr σ H fun xs H2 => r (.ref a) xs H2 Q) : BmE K "list" r tr σ (.ref a) H Q := ⟨.inl ⟨rfl, _, e⟩, h⟩
/-- [e for x in xs], each e is True -/
theorem lcT {a : Addr} {xs : List V} {i j : Nat} {σ : L2.St} (σ' : V → L2.St) (hs : ∀ v, (wipe σ [i]).set i (some v) = σ' v) (hw : ∀ v, wipe (σ' v) [i] = wipe σ [i]) (hv : σ[j]? = some (some (.ref a))) (ea : SqL K H a xs) (hl : xs.length ≤ 1000)
    (ht : ∀ x, x ∈ xs → ∀ H' (Q' : VK), Sam H H' → (∀ H'', Sam H' H'' → Q' (.bl true) H'') → te (σ' x) H' Q') (k : ∀ H' D, Sam H H' → H' D = some (.lst (xs.map fun _ => V.bl true)) → Q (.ref D) H') :
    tLc (iList K (tVar j)) (gName i) tYes te [i] σ H Q := by
  refine ⟨.ref a, hv, a, rfl, ⟨xs, ea⟩, fun D hD => lc_list (xs := xs) (fun n H' => Sam H H' ∧ H' D = some (.lst ((xs.take n).map fun _ => V.bl true))) ⟨Sam.new hD, upd_same⟩ (fun n H' _ z => SqL.same z.1 ea) (fun n x H' hx z => ?_) (fun H' z => ?_)⟩
  · show wipe ((wipe σ [i]).set i (some x)) [i] = wipe σ [i] ∧ te ((wipe σ [i]).set i (some x)) H' _
    rw [hs]
    refine ⟨hw x, ht x (List.mem_of_getElem? hx) H' _ z.1 fun H2 s2 => ?_⟩
    have hn : n < xs.length := (List.getElem?_eq_some_iff.mp hx).1
    refine ⟨_, s2 _ _ z.2, ?_, fun b o e => ?_, ?_⟩
    · rw [List.length_map, List.length_take, sizeLine_eq]
      omega
    · rw [upd_ne (fun y => by rw [y, hD] at e; cases e)]
      exact s2 _ _ (z.1 _ _ e)
    · rw [upd_same, List.take_add_one, hx, List.map_append]
      rfl
  · have e := z.2
    rw [List.take_length] at e
    exact k H' D z.1 e
/-- for x in xs -/
def ForE (K : PySem.W.Frag) (g : TG) (tb : TS) (D : Ends) (σ : L2.St) (x : V) (H1 : Hp) : Prop := ∃ a, x = .ref a ∧ (∃ xs, SqL K H1 a xs) ∧ ∃ W : Nat → Nat → L2.St → Hp → Prop, (∃ m, W 0 m σ H1) ∧ ∀ i m σ H, W i m σ H →
      ((Itl K a).stop i H ∧ D.nx σ H) ∨ ((Itl K a).go i H ∧ ∃ N : L2.St → Hp → Prop, (∀ σ' H', N σ' H' → ∃ m', m' < m ∧ W (i + 1) m' σ' H') ∧ ∀ x H', (Itl K a).yld i H x H' → g x σ H' fun σ2 H2 => tb { D with nx := N, ct := N, bk := D.nx } σ2 H2)
theorem forL {tb : TS} (h : te σ H fun x H1 => ForE K g tb D σ x H1) : tFor (iList K te) g tb D σ H := h
theorem forE {tb : TS} {a : Addr} {xs : List V} (ea : SqL K H a xs) (Pv : Nat → L2.St → Hp → Prop) (h0 : Pv 0 σ H) (hl : ∀ i σ H, i ≤ xs.length → Pv i σ H → SqL K H a xs)
    (hs : ∀ i x σ H, xs[i]? = some x → Pv i σ H → g x σ H fun σ2 H2 => tb { D with nx := Pv (i + 1), ct := Pv (i + 1), bk := D.nx } σ2 H2) (hd : ∀ σ H, Pv xs.length σ H → D.nx σ H) : ForE K g tb D σ (.ref a) H := ⟨a, rfl, ⟨xs, ea⟩, for_list Pv h0 hl hs hd⟩
/-- two names at once -/
def ParE (i j : Nat) (D : Ends) (σ : L2.St) (vs : List V) (H : Hp) : Prop := ∃ v w, vs = [v, w] ∧ D.nx ((σ.set i (some v)).set j (some w)) H
theorem par {i j : Nat} (h : tr σ H fun vs H1 => ParE i j D σ vs H1) : tPar i j tr D σ H := h
theorem parE {i j : Nat} (σ' : L2.St) (e : (σ.set i (some x)).set j (some y) = σ') (h : D.nx σ' H) : ParE i j D σ [x, y] H := ⟨x, y, rfl, by rw [e]; exact h⟩
end
section
variable {Q : VK} {P : L2.St → Hp → Prop} {H : Hp} {v : V} {s : L2.St}
variable {a0 a1 a2 a3 a4 a5 a6 a7 a8 a9 a10 a11 a12 a13 : Option V}
theorem v0 (h : Q v H) : tVar 0 (some v :: s) H Q := ⟨v, rfl, h⟩
theorem g0 (h : P (some v :: s) H) : gName 0 v (a0 :: s) H P := h
theorem v1 (h : Q v H) : tVar 1 (a0 :: some v :: s) H Q := ⟨v, rfl, h⟩
theorem g1 (h : P (a0 :: some v :: s) H) : gName 1 v (a0 :: a1 :: s) H P := h
theorem v2 (h : Q v H) : tVar 2 (a0 :: a1 :: some v :: s) H Q := ⟨v, rfl, h⟩
theorem g2 (h : P (a0 :: a1 :: some v :: s) H) : gName 2 v (a0 :: a1 :: a2 :: s) H P := h
theorem v3 (h : Q v H) : tVar 3 (a0 :: a1 :: a2 :: some v :: s) H Q := ⟨v, rfl, h⟩
theorem g3 (h : P (a0 :: a1 :: a2 :: some v :: s) H) : gName 3 v (a0 :: a1 :: a2 :: a3 :: s) H P := h
theorem v4 (h : Q v H) : tVar 4 (a0 :: a1 :: a2 :: a3 :: some v :: s) H Q := ⟨v, rfl, h⟩
theorem g4 (h : P (a0 :: a1 :: a2 :: a3 :: some v :: s) H) : gName 4 v (a0 :: a1 :: a2 :: a3 :: a4 :: s) H P := h
theorem v5 (h : Q v H) : tVar 5 (a0 :: a1 :: a2 :: a3 :: a4 :: some v :: s) H Q := ⟨v, rfl, h⟩
theorem g5 (h : P (a0 :: a1 :: a2 :: a3 :: a4 :: some v :: s) H) : gName 5 v (a0 :: a1 :: a2 :: a3 :: a4 :: a5 :: s) H P := h
theorem v6 (h : Q v H) : tVar 6 (a0 :: a1 :: a2 :: a3 :: a4 :: a5 :: some v :: s) H Q := ⟨v, rfl, h⟩
theorem g6 (h : P (a0 :: a1 :: a2 :: a3 :: a4 :: a5 :: some v :: s) H) : gName 6 v (a0 :: a1 :: a2 :: a3 :: a4 :: a5 :: a6 :: s) H P := h
theorem v7 (h : Q v H) : tVar 7 (a0 :: a1 :: a2 :: a3 :: a4 :: a5 :: a6 :: some v :: s) H Q := ⟨v, rfl, h⟩
theorem g7 (h : P (a0 :: a1 :: a2 :: a3 :: a4 :: a5 :: a6 :: some v :: s) H) : gName 7 v (a0 :: a1 :: a2 :: a3 :: a4 :: a5 :: a6 :: a7 :: s) H P := h
theorem v8 (h : Q v H) : tVar 8 (a0 :: a1 :: a2 :: a3 :: a4 :: a5 :: a6 :: a7 :: some v :: s) H Q := ⟨v, rfl, h⟩
theorem g8 (h : P (a0 :: a1 :: a2 :: a3 :: a4 :: a5 :: a6 :: a7 :: some v :: s) H) : gName 8 v (a0 :: a1 :: a2 :: a3 :: a4 :: a5 :: a6 :: a7 :: a8 :: s) H P := h
theorem v9 (h : Q v H) : tVar 9 (a0 :: a1 :: a2 :: a3 :: a4 :: a5 :: a6 :: a7 :: a8 :: some v :: s) H Q := ⟨v, rfl, h⟩
theorem g9 (h : P (a0 :: a1 :: a2 :: a3 :: a4 :: a5 :: a6 :: a7 :: a8 :: some v :: s) H) : gName 9 v (a0 :: a1 :: a2 :: a3 :: a4 :: a5 :: a6 :: a7 :: a8 :: a9 :: s) H P := h
theorem v10 (h : Q v H) : tVar 10 (a0 :: a1 :: a2 :: a3 :: a4 :: a5 :: a6 :: a7 :: a8 :: a9 :: some v :: s) H Q := ⟨v, rfl, h⟩
theorem g10 (h : P (a0 :: a1 :: a2 :: a3 :: a4 :: a5 :: a6 :: a7 :: a8 :: a9 :: some v :: s) H) : gName 10 v (a0 :: a1 :: a2 :: a3 :: a4 :: a5 :: a6 :: a7 :: a8 :: a9 :: a10 :: s) H P := h
theorem v11 (h : Q v H) : tVar 11 (a0 :: a1 :: a2 :: a3 :: a4 :: a5 :: a6 :: a7 :: a8 :: a9 :: a10 :: some v :: s) H Q := ⟨v, rfl, h⟩
theorem g11 (h : P (a0 :: a1 :: a2 :: a3 :: a4 :: a5 :: a6 :: a7 :: a8 :: a9 :: a10 :: some v :: s) H) : gName 11 v (a0 :: a1 :: a2 :: a3 :: a4 :: a5 :: a6 :: a7 :: a8 :: a9 :: a10 :: a11 :: s) H P := h
theorem v12 (h : Q v H) : tVar 12 (a0 :: a1 :: a2 :: a3 :: a4 :: a5 :: a6 :: a7 :: a8 :: a9 :: a10 :: a11 :: some v :: s) H Q := ⟨v, rfl, h⟩
theorem g12 (h : P (a0 :: a1 :: a2 :: a3 :: a4 :: a5 :: a6 :: a7 :: a8 :: a9 :: a10 :: a11 :: some v :: s) H) : gName 12 v (a0 :: a1 :: a2 :: a3 :: a4 :: a5 :: a6 :: a7 :: a8 :: a9 :: a10 :: a11 :: a12 :: s) H P := h
theorem v13 (h : Q v H) : tVar 13 (a0 :: a1 :: a2 :: a3 :: a4 :: a5 :: a6 :: a7 :: a8 :: a9 :: a10 :: a11 :: a12 :: some v :: s) H Q := ⟨v, rfl, h⟩
theorem g13 (h : P (a0 :: a1 :: a2 :: a3 :: a4 :: a5 :: a6 :: a7 :: a8 :: a9 :: a10 :: a11 :: a12 :: some v :: s) H) : gName 13 v (a0 :: a1 :: a2 :: a3 :: a4 :: a5 :: a6 :: a7 :: a8 :: a9 :: a10 :: a11 :: a12 :: a13 :: s) H P := h
end
end RD
set_option Elab.async false
set_option linter.all false
set_option maxRecDepth 100000
set_option maxHeartbeats 4000000
namespace My
open PySem PySem.Spec PyProof.Rows L2 He HL
def top (i : Nat) : Stmt := PySem.Challenge.pw_pagepromise_k47_machines_made.main.body.getD i (.Pass ⟨0, 0, 0, 0⟩)
abbrev s_is_integer : Stmt := top 29
abbrev s_is_number : Stmt := top 30
abbrev s_law_cell : Stmt := top 67
abbrev s_law_purse : Stmt := top 68
abbrev s_law_pick : Stmt := top 69
abbrev s_law_class : Stmt := top 70
abbrev s_law_field : Stmt := top 71
abbrev s_law_told : Stmt := top 72
abbrev s_law_number : Stmt := top 73
abbrev s_law_thing : Stmt := top 74
abbrev s_law_fresh : Stmt := top 75
abbrev s_law_made_right : Stmt := top 76
abbrev s_law_refused_right : Stmt := top 77
abbrev s_law_limits_right : Stmt := top 78
abbrev s_law_right : Stmt := top 79
abbrev s_law : Stmt := top 80
abbrev s_World_UinitU : Stmt := inClass (top 63) 0
abbrev s_World_knows : Stmt := inClass (top 63) 3
abbrev s_World_living : Stmt := inClass (top 63) 4
abbrev s_Machine_UinitU : Stmt := inClass (top 65) 0
abbrev s_Machine_set_limit : Stmt := inClass (top 65) 7
abbrev s_Machine_UcontainsU : Stmt := inClass (top 65) 14
abbrev s_Machine_UlenU : Stmt := inClass (top 65) 15
abbrev s_Machine_UboolU : Stmt := inClass (top 65) 16
abbrev s_InvalidNumber_UinitU : Stmt := inClass (top 3) 0
abbrev s_Machine_frames : Stmt := inClass (top 65) 1
abbrev s_Machine_limit : Stmt := inClass (top 65) 2
abbrev s_Machine_used : Stmt := inClass (top 65) 4
abbrev s_Machine_charges : Stmt := inClass (top 65) 5
abbrev s_Machine_processes : Stmt := inClass (top 65) 6
def fn : List DefL := [⟨adG "is_integer", "is_integer", "is_integer", s_is_integer, []⟩,
  ⟨adG "is_number", "is_number", "is_number", s_is_number, []⟩,
  ⟨adG "_law_cell", "_law_cell", "_law_cell", s_law_cell, []⟩,
  ⟨adG "_law_purse", "_law_purse", "_law_purse", s_law_purse, []⟩,
  ⟨adG "_law_pick", "_law_pick", "_law_pick", s_law_pick, []⟩,
  ⟨adG "_law_class", "_law_class", "_law_class", s_law_class, []⟩,
  ⟨adG "_law_field", "_law_field", "_law_field", s_law_field, []⟩,
  ⟨adG "_law_told", "_law_told", "_law_told", s_law_told, []⟩,
  ⟨adG "_law_number", "_law_number", "_law_number", s_law_number, []⟩,
  ⟨adG "_law_thing", "_law_thing", "_law_thing", s_law_thing, []⟩,
  ⟨adG "_law_fresh", "_law_fresh", "_law_fresh", s_law_fresh, []⟩,
  ⟨adG "_law_made_right", "_law_made_right", "_law_made_right", s_law_made_right, []⟩,
  ⟨adG "_law_refused_right", "_law_refused_right", "_law_refused_right", s_law_refused_right, []⟩,
  ⟨adG "_law_limits_right", "_law_limits_right", "_law_limits_right", s_law_limits_right, []⟩,
  ⟨adG "_law_right", "_law_right", "_law_right", s_law_right, []⟩,
  ⟨adG "law", "law", "law", s_law, []⟩,
  ⟨adM "World" "__init__", "__init__", "World.__init__", s_World_UinitU, []⟩,
  ⟨adM "World" "knows", "knows", "World.knows", s_World_knows, []⟩,
  ⟨adM "World" "living", "living", "World.living", s_World_living, []⟩,
  ⟨adM "Machine" "__init__", "__init__", "Machine.__init__", s_Machine_UinitU, [.non]⟩,
  ⟨adM "Machine" "set_limit", "set_limit", "Machine.set_limit", s_Machine_set_limit, []⟩,
  ⟨adM "Machine" "__contains__", "__contains__", "Machine.__contains__", s_Machine_UcontainsU, []⟩,
  ⟨adM "Machine" "__len__", "__len__", "Machine.__len__", s_Machine_UlenU, []⟩,
  ⟨adM "Machine" "__bool__", "__bool__", "Machine.__bool__", s_Machine_UboolU, []⟩,
  ⟨adM "InvalidNumber" "__init__", "__init__", "InvalidNumber.__init__", s_InvalidNumber_UinitU, []⟩,
  ⟨fun K => prG K "Machine" "frames", "frames", "Machine.frames", s_Machine_frames, []⟩,
  ⟨fun K => prG K "Machine" "limit", "limit", "Machine.limit", s_Machine_limit, []⟩,
  ⟨fun K => prG K "Machine" "used", "used", "Machine.used", s_Machine_used, []⟩,
  ⟨fun K => prG K "Machine" "charges", "charges", "Machine.charges", s_Machine_charges, []⟩,
  ⟨fun K => prG K "Machine" "processes", "processes", "Machine.processes", s_Machine_processes, []⟩]
def fa : List Fa := [.glo "is_integer", .glo "is_number", .glo "_law_cell", .glo "_law_purse", .glo "_law_pick", .glo "_law_class", .glo "_law_field", .glo "_law_told", .glo "_law_number", .glo "_law_thing", .glo "_law_fresh", .glo "_law_made_right", .glo "_law_refused_right", .glo "_law_limits_right", .glo "_law_right", .glo "law", .glo "InvalidNumber", .glo "InvalidText", .glo "InvalidName", .glo "InvalidRule", .glo "InvalidClaim", .glo "InvalidIndex", .glo "InvalidOutcome", .glo "NotAProgram", .glo "InvalidAreas", .glo "InvalidRows", .glo "WrongLine", .glo "InvalidRun", .glo "Unsound", .glo "UnknownName", .glo "UnknownProcess", .glo "InUse", .glo "NothingToUndo", .glo "MustWait", .glo "TooMany", .glo "TooLong", .glo "Breaks", .glo "OverLimit", .glo "Broken", .glo "WrongValue", .glo "WrongState", .glo "NoAnswer", .glo "World", .glo "Machine", .free "isinstance", .free "int", .free "bool", .free "len", .free "repr", .free "abs", .free "divmod", .free "all", .free "range", .free "max", .free "min", .free "sorted", .free "tuple", .free "list", .free "ValueError", .free "LookupError", .free "ArithmeticError", .cls "World", .cls "Machine", .mkr "World", .mkr "Machine", .noat "World" "members", .noat "World" "begun", .noat "World" "made", .noat "World" "sharers", .noat "World" "in_use", .noat "World" "charged", .noat "Machine" "room", .noat "Machine" "bound", .noat "Machine" "world", .meth "World" "knows", .meth "World" "living", .meth "Machine" "set_limit", .meth "Machine" "__contains__", .meth "Machine" "__len__", .meth "Machine" "__bool__", .meth "InvalidNumber" "__init__", .noat "InvalidNumber" "given"]
def ex : List (PySem.W.Frag → Bool) := [oexB "InvalidNumber",
  propB "Machine" "frames",
  propB "Machine" "limit",
  propB "Machine" "used",
  propB "Machine" "charges",
  propB "Machine" "processes",
  fun K => decide (PySem.W.kitOne K (.ref (ga K "InvalidNumber")) (.ref (ga K "InvalidNumber")) = some true),
  fun K => decide (PySem.W.kitOne K (.ref (ga K "InvalidNumber")) (.ref (ga K "InvalidText")) = some false),
  fun K => decide (PySem.W.kitOne K (.ref (ga K "InvalidNumber")) (.ref (ga K "InvalidName")) = some false),
  fun K => decide (PySem.W.kitOne K (.ref (ga K "InvalidNumber")) (.ref (ga K "InvalidRule")) = some false),
  fun K => decide (PySem.W.kitOne K (.ref (ga K "InvalidNumber")) (.ref (ga K "InvalidClaim")) = some false),
  fun K => decide (PySem.W.kitOne K (.ref (ga K "InvalidNumber")) (.ref (ga K "InvalidIndex")) = some false),
  fun K => decide (PySem.W.kitOne K (.ref (ga K "InvalidNumber")) (.ref (ga K "InvalidOutcome")) = some false),
  fun K => decide (PySem.W.kitOne K (.ref (ga K "InvalidNumber")) (.ref (ga K "NotAProgram")) = some false),
  fun K => decide (PySem.W.kitOne K (.ref (ga K "InvalidNumber")) (.ref (ga K "InvalidAreas")) = some false),
  fun K => decide (PySem.W.kitOne K (.ref (ga K "InvalidNumber")) (.ref (ga K "InvalidRows")) = some false),
  fun K => decide (PySem.W.kitOne K (.ref (ga K "InvalidNumber")) (.ref (ga K "WrongLine")) = some false),
  fun K => decide (PySem.W.kitOne K (.ref (ga K "InvalidNumber")) (.ref (ga K "InvalidRun")) = some false),
  fun K => decide (PySem.W.kitOne K (.ref (ga K "InvalidNumber")) (.ref (ga K "Unsound")) = some false),
  fun K => decide (PySem.W.kitOne K (.ref (ga K "InvalidNumber")) (.ref (ga K "UnknownName")) = some false),
  fun K => decide (PySem.W.kitOne K (.ref (ga K "InvalidNumber")) (.ref (ga K "UnknownProcess")) = some false),
  fun K => decide (PySem.W.kitOne K (.ref (ga K "InvalidNumber")) (.ref (ga K "InUse")) = some false),
  fun K => decide (PySem.W.kitOne K (.ref (ga K "InvalidNumber")) (.ref (ga K "NothingToUndo")) = some false),
  fun K => decide (PySem.W.kitOne K (.ref (ga K "InvalidNumber")) (.ref (ga K "MustWait")) = some false),
  fun K => decide (PySem.W.kitOne K (.ref (ga K "InvalidNumber")) (.ref (ga K "TooMany")) = some false),
  fun K => decide (PySem.W.kitOne K (.ref (ga K "InvalidNumber")) (.ref (ga K "TooLong")) = some false),
  fun K => decide (PySem.W.kitOne K (.ref (ga K "InvalidNumber")) (.ref (ga K "Breaks")) = some false),
  fun K => decide (PySem.W.kitOne K (.ref (ga K "InvalidNumber")) (.ref (ga K "OverLimit")) = some false),
  fun K => decide (PySem.W.kitOne K (.ref (ga K "InvalidNumber")) (.ref (ga K "Broken")) = some false),
  fun K => decide (PySem.W.kitOne K (.ref (ga K "InvalidNumber")) (.ref (ga K "WrongValue")) = some true),
  fun K => decide (PySem.W.kitOne K (.ref (ga K "InvalidNumber")) (.ref (ga K "WrongState")) = some false),
  fun K => decide (PySem.W.kitOne K (.ref (ga K "InvalidNumber")) (.ref (ga K "NoAnswer")) = some false),
  fun K => decide (PySem.W.kitOne K (.ref (ga K "InvalidNumber")) (.type "ValueError") = some true),
  fun K => decide (PySem.W.kitOne K (.ref (ga K "InvalidNumber")) (.type "LookupError") = some false),
  fun K => decide (PySem.W.kitOne K (.ref (ga K "InvalidNumber")) (.type "ArithmeticError") = some false),
  fun K => decide (PySem.W.exmOne K (.ref (ga K "InvalidNumber")) (.ref (ga K "WrongValue")) = some true),
  fun K => decide (PySem.W.exmOne K (.ref (ga K "InvalidNumber")) (.ref (ga K "WrongState")) = some false),
  fun K => decide (PySem.W.exmOne K (.ref (ga K "InvalidNumber")) (.ref (ga K "NoAnswer")) = some false),
  fun K => LR.sysB K,
  fun K => LX.exqB K (ga K "InvalidNumber"),
  fun K => LS.idB K (ga K "Machine"),
  fun K => decide (PySem.W.typeIn K (.ref (ma K (ga K "InvalidNumber") "__init__")) = some (.type "function")),
  fun K => eqO (PySem.W.findIn K (.ref (ga K "Machine")) "__len__") (some (some (.ref (ma K (ga K "Machine") "__len__")))),
  fun K => eqO (PySem.W.findIn K (.ref (ga K "Machine")) "__bool__") (some (some (.ref (ma K (ga K "Machine") "__bool__")))),
  fun K => eqO (PySem.W.findIn K (.ref (ga K "Machine")) "__contains__") (some (some (.ref (ma K (ga K "Machine") "__contains__")))),
  fun K => decide ((He.cT K ("_law_refused_right", none)).2 ≠ (He.cT K ("_law_limits_right", none)).2)]
def tf : List Defn := [("_law_refused_right", none), ("_law_limits_right", none)]
def want : Want := ⟨(["is_integer", "is_number", "_law_cell", "_law_purse", "_law_pick", "_law_class", "_law_field", "_law_told", "_law_number", "_law_thing", "_law_fresh", "_law_made_right", "_law_refused_right", "_law_limits_right", "_law_right", "law", "InvalidNumber", "InvalidText", "InvalidName", "InvalidRule", "InvalidClaim", "InvalidIndex", "InvalidOutcome", "NotAProgram", "InvalidAreas", "InvalidRows", "WrongLine", "InvalidRun", "Unsound", "UnknownName"] : List Str) ++ (["UnknownProcess", "InUse", "NothingToUndo", "MustWait", "TooMany", "TooLong", "Breaks", "OverLimit", "Broken", "WrongValue", "WrongState", "NoAnswer", "World", "Machine"] : List Str),
  [("World", "__init__"), ("World", "knows"), ("World", "living"), ("Machine", "__init__"), ("Machine", "set_limit"), ("Machine", "__contains__"), ("Machine", "__len__"), ("Machine", "__bool__"), ("InvalidNumber", "__init__")],
  [("Machine", "frames"), ("Machine", "limit"), ("Machine", "used"), ("Machine", "charges"), ("Machine", "processes")]⟩
abbrev R : PySem.W.OpenRow := PySem.W.OpenLaw.row PySem.Challenge.rw_pagepromise_k47_machines_made
abbrev hk : PySem.W.Hook := hookL want fa fn tf ex
def ob (s : PySem.W.SharedT) : AlL × Bool := obsL want fa fn tf ex (HandSHeadRun.getT s)
theorem ob_eq (s : PySem.W.SharedT) : ob s = hk.obs s.abs := obsL_eq (HandSHeadRun.getT_eq s)
def names : List PySem.Str := (["_wall", "WrongValue", "InvalidNumber", "InvalidText", "InvalidName", "InvalidRule", "InvalidClaim", "InvalidIndex", "InvalidOutcome", "NotAProgram", "InvalidAreas", "InvalidRows", "WrongLine", "InvalidRun", "Unsound", "WrongState", "UnknownName", "UnknownProcess", "InUse", "NothingToUndo", "MustWait", "NoAnswer", "TooMany", "TooLong", "Breaks", "OverLimit", "Broken", "is_integer", "is_number", "MOST_AREAS"] : List PySem.Str) ++ (["MOST_PAGES", "MOST_ROWS", "MOST_WAYS", "is_index", "are_ways", "is_row", "row_text", "index_in", "row_in", "with_area", "without_area", "states_behind", "states_of", "LETTERS", "SIGNS", "LONGEST", "is_name", "is_area", "check_areas", "check_rows", "area_in", "parts_in", "Program", "check_program", "is_pair", "check_rule", "Member", "World", "Machine", "_law_cell"] : List PySem.Str) ++ (["_law_purse", "_law_pick", "_law_class", "_law_field", "_law_told", "_law_number", "_law_thing", "_law_fresh", "_law_made_right", "_law_refused_right", "_law_limits_right", "_law_right"] : List PySem.Str)
structure Tx (K : PySem.W.Frag) (mg : PySem.Str → Option Value) (base : Heap) : Prop where
  X : K.In base
  G : base.Ns mainGlobals mg
  c : SaysF fa fn K
  e : ∀ f ∈ ex, f K = true
theorem Tx.x {K : PySem.W.Frag} {mg : PySem.Str → Option Value} {base : Heap} (T : Tx K mg base) (i : Nat) {f : PySem.W.Frag → Bool} (e : ex[i]? = some f := by rfl) : f K = true := T.e f (List.mem_of_getElem? e)
section
variable {K : PySem.W.Frag} {mg : PySem.Str → Option Value} {base : Heap} (T : Tx K mg base)
include T
theorem Tx.g_is_integer : mg "is_integer" = some (.ref (ga K "is_integer")) := He.glo_ok T.X T.G (T.c.fact 0 (f := .glo "is_integer") rfl)
theorem Tx.g_is_number : mg "is_number" = some (.ref (ga K "is_number")) := He.glo_ok T.X T.G (T.c.fact 1 (f := .glo "is_number") rfl)
theorem Tx.g_law_cell : mg "_law_cell" = some (.ref (ga K "_law_cell")) := He.glo_ok T.X T.G (T.c.fact 2 (f := .glo "_law_cell") rfl)
theorem Tx.g_law_purse : mg "_law_purse" = some (.ref (ga K "_law_purse")) := He.glo_ok T.X T.G (T.c.fact 3 (f := .glo "_law_purse") rfl)
theorem Tx.g_law_pick : mg "_law_pick" = some (.ref (ga K "_law_pick")) := He.glo_ok T.X T.G (T.c.fact 4 (f := .glo "_law_pick") rfl)
theorem Tx.g_law_class : mg "_law_class" = some (.ref (ga K "_law_class")) := He.glo_ok T.X T.G (T.c.fact 5 (f := .glo "_law_class") rfl)
theorem Tx.g_law_field : mg "_law_field" = some (.ref (ga K "_law_field")) := He.glo_ok T.X T.G (T.c.fact 6 (f := .glo "_law_field") rfl)
theorem Tx.g_law_told : mg "_law_told" = some (.ref (ga K "_law_told")) := He.glo_ok T.X T.G (T.c.fact 7 (f := .glo "_law_told") rfl)
theorem Tx.g_law_number : mg "_law_number" = some (.ref (ga K "_law_number")) := He.glo_ok T.X T.G (T.c.fact 8 (f := .glo "_law_number") rfl)
theorem Tx.g_law_thing : mg "_law_thing" = some (.ref (ga K "_law_thing")) := He.glo_ok T.X T.G (T.c.fact 9 (f := .glo "_law_thing") rfl)
theorem Tx.g_law_fresh : mg "_law_fresh" = some (.ref (ga K "_law_fresh")) := He.glo_ok T.X T.G (T.c.fact 10 (f := .glo "_law_fresh") rfl)
theorem Tx.g_law_made_right : mg "_law_made_right" = some (.ref (ga K "_law_made_right")) := He.glo_ok T.X T.G (T.c.fact 11 (f := .glo "_law_made_right") rfl)
theorem Tx.g_law_refused_right : mg "_law_refused_right" = some (.ref (ga K "_law_refused_right")) := He.glo_ok T.X T.G (T.c.fact 12 (f := .glo "_law_refused_right") rfl)
theorem Tx.g_law_limits_right : mg "_law_limits_right" = some (.ref (ga K "_law_limits_right")) := He.glo_ok T.X T.G (T.c.fact 13 (f := .glo "_law_limits_right") rfl)
theorem Tx.g_law_right : mg "_law_right" = some (.ref (ga K "_law_right")) := He.glo_ok T.X T.G (T.c.fact 14 (f := .glo "_law_right") rfl)
theorem Tx.g_law : mg "law" = some (.ref (ga K "law")) := He.glo_ok T.X T.G (T.c.fact 15 (f := .glo "law") rfl)
theorem Tx.g_InvalidNumber : mg "InvalidNumber" = some (.ref (ga K "InvalidNumber")) := He.glo_ok T.X T.G (T.c.fact 16 (f := .glo "InvalidNumber") rfl)
theorem Tx.g_InvalidText : mg "InvalidText" = some (.ref (ga K "InvalidText")) := He.glo_ok T.X T.G (T.c.fact 17 (f := .glo "InvalidText") rfl)
theorem Tx.g_InvalidName : mg "InvalidName" = some (.ref (ga K "InvalidName")) := He.glo_ok T.X T.G (T.c.fact 18 (f := .glo "InvalidName") rfl)
theorem Tx.g_InvalidRule : mg "InvalidRule" = some (.ref (ga K "InvalidRule")) := He.glo_ok T.X T.G (T.c.fact 19 (f := .glo "InvalidRule") rfl)
theorem Tx.g_InvalidClaim : mg "InvalidClaim" = some (.ref (ga K "InvalidClaim")) := He.glo_ok T.X T.G (T.c.fact 20 (f := .glo "InvalidClaim") rfl)
theorem Tx.g_InvalidIndex : mg "InvalidIndex" = some (.ref (ga K "InvalidIndex")) := He.glo_ok T.X T.G (T.c.fact 21 (f := .glo "InvalidIndex") rfl)
theorem Tx.g_InvalidOutcome : mg "InvalidOutcome" = some (.ref (ga K "InvalidOutcome")) := He.glo_ok T.X T.G (T.c.fact 22 (f := .glo "InvalidOutcome") rfl)
theorem Tx.g_NotAProgram : mg "NotAProgram" = some (.ref (ga K "NotAProgram")) := He.glo_ok T.X T.G (T.c.fact 23 (f := .glo "NotAProgram") rfl)
theorem Tx.g_InvalidAreas : mg "InvalidAreas" = some (.ref (ga K "InvalidAreas")) := He.glo_ok T.X T.G (T.c.fact 24 (f := .glo "InvalidAreas") rfl)
theorem Tx.g_InvalidRows : mg "InvalidRows" = some (.ref (ga K "InvalidRows")) := He.glo_ok T.X T.G (T.c.fact 25 (f := .glo "InvalidRows") rfl)
theorem Tx.g_WrongLine : mg "WrongLine" = some (.ref (ga K "WrongLine")) := He.glo_ok T.X T.G (T.c.fact 26 (f := .glo "WrongLine") rfl)
theorem Tx.g_InvalidRun : mg "InvalidRun" = some (.ref (ga K "InvalidRun")) := He.glo_ok T.X T.G (T.c.fact 27 (f := .glo "InvalidRun") rfl)
theorem Tx.g_Unsound : mg "Unsound" = some (.ref (ga K "Unsound")) := He.glo_ok T.X T.G (T.c.fact 28 (f := .glo "Unsound") rfl)
theorem Tx.g_UnknownName : mg "UnknownName" = some (.ref (ga K "UnknownName")) := He.glo_ok T.X T.G (T.c.fact 29 (f := .glo "UnknownName") rfl)
theorem Tx.g_UnknownProcess : mg "UnknownProcess" = some (.ref (ga K "UnknownProcess")) := He.glo_ok T.X T.G (T.c.fact 30 (f := .glo "UnknownProcess") rfl)
theorem Tx.g_InUse : mg "InUse" = some (.ref (ga K "InUse")) := He.glo_ok T.X T.G (T.c.fact 31 (f := .glo "InUse") rfl)
theorem Tx.g_NothingToUndo : mg "NothingToUndo" = some (.ref (ga K "NothingToUndo")) := He.glo_ok T.X T.G (T.c.fact 32 (f := .glo "NothingToUndo") rfl)
theorem Tx.g_MustWait : mg "MustWait" = some (.ref (ga K "MustWait")) := He.glo_ok T.X T.G (T.c.fact 33 (f := .glo "MustWait") rfl)
theorem Tx.g_TooMany : mg "TooMany" = some (.ref (ga K "TooMany")) := He.glo_ok T.X T.G (T.c.fact 34 (f := .glo "TooMany") rfl)
theorem Tx.g_TooLong : mg "TooLong" = some (.ref (ga K "TooLong")) := He.glo_ok T.X T.G (T.c.fact 35 (f := .glo "TooLong") rfl)
theorem Tx.g_Breaks : mg "Breaks" = some (.ref (ga K "Breaks")) := He.glo_ok T.X T.G (T.c.fact 36 (f := .glo "Breaks") rfl)
theorem Tx.g_OverLimit : mg "OverLimit" = some (.ref (ga K "OverLimit")) := He.glo_ok T.X T.G (T.c.fact 37 (f := .glo "OverLimit") rfl)
theorem Tx.g_Broken : mg "Broken" = some (.ref (ga K "Broken")) := He.glo_ok T.X T.G (T.c.fact 38 (f := .glo "Broken") rfl)
theorem Tx.g_WrongValue : mg "WrongValue" = some (.ref (ga K "WrongValue")) := He.glo_ok T.X T.G (T.c.fact 39 (f := .glo "WrongValue") rfl)
theorem Tx.g_WrongState : mg "WrongState" = some (.ref (ga K "WrongState")) := He.glo_ok T.X T.G (T.c.fact 40 (f := .glo "WrongState") rfl)
theorem Tx.g_NoAnswer : mg "NoAnswer" = some (.ref (ga K "NoAnswer")) := He.glo_ok T.X T.G (T.c.fact 41 (f := .glo "NoAnswer") rfl)
theorem Tx.g_World : mg "World" = some (.ref (ga K "World")) := He.glo_ok T.X T.G (T.c.fact 42 (f := .glo "World") rfl)
theorem Tx.g_Machine : mg "Machine" = some (.ref (ga K "Machine")) := He.glo_ok T.X T.G (T.c.fact 43 (f := .glo "Machine") rfl)
theorem Tx.n_isinstance : mg "isinstance" = none := He.free_ok T.X T.G (T.c.fact 44 (f := .free "isinstance") rfl)
theorem Tx.n_int : mg "int" = none := He.free_ok T.X T.G (T.c.fact 45 (f := .free "int") rfl)
theorem Tx.n_bool : mg "bool" = none := He.free_ok T.X T.G (T.c.fact 46 (f := .free "bool") rfl)
theorem Tx.n_len : mg "len" = none := He.free_ok T.X T.G (T.c.fact 47 (f := .free "len") rfl)
theorem Tx.n_repr : mg "repr" = none := He.free_ok T.X T.G (T.c.fact 48 (f := .free "repr") rfl)
theorem Tx.n_abs : mg "abs" = none := He.free_ok T.X T.G (T.c.fact 49 (f := .free "abs") rfl)
theorem Tx.n_divmod : mg "divmod" = none := He.free_ok T.X T.G (T.c.fact 50 (f := .free "divmod") rfl)
theorem Tx.n_all : mg "all" = none := He.free_ok T.X T.G (T.c.fact 51 (f := .free "all") rfl)
theorem Tx.n_range : mg "range" = none := He.free_ok T.X T.G (T.c.fact 52 (f := .free "range") rfl)
theorem Tx.n_max : mg "max" = none := He.free_ok T.X T.G (T.c.fact 53 (f := .free "max") rfl)
theorem Tx.n_min : mg "min" = none := He.free_ok T.X T.G (T.c.fact 54 (f := .free "min") rfl)
theorem Tx.n_sorted : mg "sorted" = none := He.free_ok T.X T.G (T.c.fact 55 (f := .free "sorted") rfl)
theorem Tx.n_tuple : mg "tuple" = none := He.free_ok T.X T.G (T.c.fact 56 (f := .free "tuple") rfl)
theorem Tx.n_list : mg "list" = none := He.free_ok T.X T.G (T.c.fact 57 (f := .free "list") rfl)
theorem Tx.n_ValueError : mg "ValueError" = none := He.free_ok T.X T.G (T.c.fact 58 (f := .free "ValueError") rfl)
theorem Tx.n_LookupError : mg "LookupError" = none := He.free_ok T.X T.G (T.c.fact 59 (f := .free "LookupError") rfl)
theorem Tx.n_ArithmeticError : mg "ArithmeticError" = none := He.free_ok T.X T.G (T.c.fact 60 (f := .free "ArithmeticError") rfl)
theorem Tx.cl_World : Cls K (ga K "World") := He.cls_ok (T.c.fact 61 (f := .cls "World") rfl)
theorem Tx.cl_Machine : Cls K (ga K "Machine") := He.cls_ok (T.c.fact 62 (f := .cls "Machine") rfl)
theorem Tx.mk_World : Mk K (ga K "World") (ma K (ga K "World") "__init__") := He.mkr_ok (T.c.fact 63 (f := .mkr "World") rfl)
theorem Tx.mk_Machine : Mk K (ga K "Machine") (ma K (ga K "Machine") "__init__") := He.mkr_ok (T.c.fact 64 (f := .mkr "Machine") rfl)
theorem Tx.no_World_members : NoAttr K (ga K "World") "members" := He.noat_ok (T.c.fact 65 (f := .noat "World" "members") rfl)
theorem Tx.no_World_begun : NoAttr K (ga K "World") "begun" := He.noat_ok (T.c.fact 66 (f := .noat "World" "begun") rfl)
theorem Tx.no_World_made : NoAttr K (ga K "World") "made" := He.noat_ok (T.c.fact 67 (f := .noat "World" "made") rfl)
theorem Tx.no_World_sharers : NoAttr K (ga K "World") "sharers" := He.noat_ok (T.c.fact 68 (f := .noat "World" "sharers") rfl)
theorem Tx.no_World_in_use : NoAttr K (ga K "World") "in_use" := He.noat_ok (T.c.fact 69 (f := .noat "World" "in_use") rfl)
theorem Tx.no_World_charged : NoAttr K (ga K "World") "charged" := He.noat_ok (T.c.fact 70 (f := .noat "World" "charged") rfl)
theorem Tx.no_Machine_room : NoAttr K (ga K "Machine") "room" := He.noat_ok (T.c.fact 71 (f := .noat "Machine" "room") rfl)
theorem Tx.no_Machine_bound : NoAttr K (ga K "Machine") "bound" := He.noat_ok (T.c.fact 72 (f := .noat "Machine" "bound") rfl)
theorem Tx.no_Machine_world : NoAttr K (ga K "Machine") "world" := He.noat_ok (T.c.fact 73 (f := .noat "Machine" "world") rfl)
theorem Tx.me_World_knows : Meth K (ga K "World") "knows" (ma K (ga K "World") "knows") := He.meth_ok (T.c.fact 74 (f := .meth "World" "knows") rfl)
theorem Tx.me_World_living : Meth K (ga K "World") "living" (ma K (ga K "World") "living") := He.meth_ok (T.c.fact 75 (f := .meth "World" "living") rfl)
theorem Tx.me_Machine_set_limit : Meth K (ga K "Machine") "set_limit" (ma K (ga K "Machine") "set_limit") := He.meth_ok (T.c.fact 76 (f := .meth "Machine" "set_limit") rfl)
theorem Tx.me_Machine_UcontainsU : Meth K (ga K "Machine") "__contains__" (ma K (ga K "Machine") "__contains__") := He.meth_ok (T.c.fact 77 (f := .meth "Machine" "__contains__") rfl)
theorem Tx.me_Machine_UlenU : Meth K (ga K "Machine") "__len__" (ma K (ga K "Machine") "__len__") := He.meth_ok (T.c.fact 78 (f := .meth "Machine" "__len__") rfl)
theorem Tx.me_Machine_UboolU : Meth K (ga K "Machine") "__bool__" (ma K (ga K "Machine") "__bool__") := He.meth_ok (T.c.fact 79 (f := .meth "Machine" "__bool__") rfl)
theorem Tx.me_InvalidNumber_UinitU : Meth K (ga K "InvalidNumber") "__init__" (ma K (ga K "InvalidNumber") "__init__") := He.meth_ok (T.c.fact 80 (f := .meth "InvalidNumber" "__init__") rfl)
theorem Tx.no_InvalidNumber_given : NoAttr K (ga K "InvalidNumber") "given" := He.noat_ok (T.c.fact 81 (f := .noat "InvalidNumber" "given") rfl)
theorem Tx.e_oex : (oexB "InvalidNumber" : PySem.W.Frag → Bool) K = true := T.x 0
theorem Tx.e_prop_frames : (propB "Machine" "frames" : PySem.W.Frag → Bool) K = true := T.x 1
theorem Tx.e_prop_limit : (propB "Machine" "limit" : PySem.W.Frag → Bool) K = true := T.x 2
theorem Tx.e_prop_used : (propB "Machine" "used" : PySem.W.Frag → Bool) K = true := T.x 3
theorem Tx.e_prop_charges : (propB "Machine" "charges" : PySem.W.Frag → Bool) K = true := T.x 4
theorem Tx.e_prop_processes : (propB "Machine" "processes" : PySem.W.Frag → Bool) K = true := T.x 5
theorem Tx.e_kit_InvalidNumber : (fun K => decide (PySem.W.kitOne K (.ref (ga K "InvalidNumber")) (.ref (ga K "InvalidNumber")) = some true) : PySem.W.Frag → Bool) K = true := T.x 6
theorem Tx.e_kit_InvalidText : (fun K => decide (PySem.W.kitOne K (.ref (ga K "InvalidNumber")) (.ref (ga K "InvalidText")) = some false) : PySem.W.Frag → Bool) K = true := T.x 7
theorem Tx.e_kit_InvalidName : (fun K => decide (PySem.W.kitOne K (.ref (ga K "InvalidNumber")) (.ref (ga K "InvalidName")) = some false) : PySem.W.Frag → Bool) K = true := T.x 8
theorem Tx.e_kit_InvalidRule : (fun K => decide (PySem.W.kitOne K (.ref (ga K "InvalidNumber")) (.ref (ga K "InvalidRule")) = some false) : PySem.W.Frag → Bool) K = true := T.x 9
theorem Tx.e_kit_InvalidClaim : (fun K => decide (PySem.W.kitOne K (.ref (ga K "InvalidNumber")) (.ref (ga K "InvalidClaim")) = some false) : PySem.W.Frag → Bool) K = true := T.x 10
theorem Tx.e_kit_InvalidIndex : (fun K => decide (PySem.W.kitOne K (.ref (ga K "InvalidNumber")) (.ref (ga K "InvalidIndex")) = some false) : PySem.W.Frag → Bool) K = true := T.x 11
theorem Tx.e_kit_InvalidOutcome : (fun K => decide (PySem.W.kitOne K (.ref (ga K "InvalidNumber")) (.ref (ga K "InvalidOutcome")) = some false) : PySem.W.Frag → Bool) K = true := T.x 12
theorem Tx.e_kit_NotAProgram : (fun K => decide (PySem.W.kitOne K (.ref (ga K "InvalidNumber")) (.ref (ga K "NotAProgram")) = some false) : PySem.W.Frag → Bool) K = true := T.x 13
theorem Tx.e_kit_InvalidAreas : (fun K => decide (PySem.W.kitOne K (.ref (ga K "InvalidNumber")) (.ref (ga K "InvalidAreas")) = some false) : PySem.W.Frag → Bool) K = true := T.x 14
theorem Tx.e_kit_InvalidRows : (fun K => decide (PySem.W.kitOne K (.ref (ga K "InvalidNumber")) (.ref (ga K "InvalidRows")) = some false) : PySem.W.Frag → Bool) K = true := T.x 15
theorem Tx.e_kit_WrongLine : (fun K => decide (PySem.W.kitOne K (.ref (ga K "InvalidNumber")) (.ref (ga K "WrongLine")) = some false) : PySem.W.Frag → Bool) K = true := T.x 16
theorem Tx.e_kit_InvalidRun : (fun K => decide (PySem.W.kitOne K (.ref (ga K "InvalidNumber")) (.ref (ga K "InvalidRun")) = some false) : PySem.W.Frag → Bool) K = true := T.x 17
theorem Tx.e_kit_Unsound : (fun K => decide (PySem.W.kitOne K (.ref (ga K "InvalidNumber")) (.ref (ga K "Unsound")) = some false) : PySem.W.Frag → Bool) K = true := T.x 18
theorem Tx.e_kit_UnknownName : (fun K => decide (PySem.W.kitOne K (.ref (ga K "InvalidNumber")) (.ref (ga K "UnknownName")) = some false) : PySem.W.Frag → Bool) K = true := T.x 19
theorem Tx.e_kit_UnknownProcess : (fun K => decide (PySem.W.kitOne K (.ref (ga K "InvalidNumber")) (.ref (ga K "UnknownProcess")) = some false) : PySem.W.Frag → Bool) K = true := T.x 20
theorem Tx.e_kit_InUse : (fun K => decide (PySem.W.kitOne K (.ref (ga K "InvalidNumber")) (.ref (ga K "InUse")) = some false) : PySem.W.Frag → Bool) K = true := T.x 21
theorem Tx.e_kit_NothingToUndo : (fun K => decide (PySem.W.kitOne K (.ref (ga K "InvalidNumber")) (.ref (ga K "NothingToUndo")) = some false) : PySem.W.Frag → Bool) K = true := T.x 22
theorem Tx.e_kit_MustWait : (fun K => decide (PySem.W.kitOne K (.ref (ga K "InvalidNumber")) (.ref (ga K "MustWait")) = some false) : PySem.W.Frag → Bool) K = true := T.x 23
theorem Tx.e_kit_TooMany : (fun K => decide (PySem.W.kitOne K (.ref (ga K "InvalidNumber")) (.ref (ga K "TooMany")) = some false) : PySem.W.Frag → Bool) K = true := T.x 24
theorem Tx.e_kit_TooLong : (fun K => decide (PySem.W.kitOne K (.ref (ga K "InvalidNumber")) (.ref (ga K "TooLong")) = some false) : PySem.W.Frag → Bool) K = true := T.x 25
theorem Tx.e_kit_Breaks : (fun K => decide (PySem.W.kitOne K (.ref (ga K "InvalidNumber")) (.ref (ga K "Breaks")) = some false) : PySem.W.Frag → Bool) K = true := T.x 26
theorem Tx.e_kit_OverLimit : (fun K => decide (PySem.W.kitOne K (.ref (ga K "InvalidNumber")) (.ref (ga K "OverLimit")) = some false) : PySem.W.Frag → Bool) K = true := T.x 27
theorem Tx.e_kit_Broken : (fun K => decide (PySem.W.kitOne K (.ref (ga K "InvalidNumber")) (.ref (ga K "Broken")) = some false) : PySem.W.Frag → Bool) K = true := T.x 28
theorem Tx.e_kit_WrongValue : (fun K => decide (PySem.W.kitOne K (.ref (ga K "InvalidNumber")) (.ref (ga K "WrongValue")) = some true) : PySem.W.Frag → Bool) K = true := T.x 29
theorem Tx.e_kit_WrongState : (fun K => decide (PySem.W.kitOne K (.ref (ga K "InvalidNumber")) (.ref (ga K "WrongState")) = some false) : PySem.W.Frag → Bool) K = true := T.x 30
theorem Tx.e_kit_NoAnswer : (fun K => decide (PySem.W.kitOne K (.ref (ga K "InvalidNumber")) (.ref (ga K "NoAnswer")) = some false) : PySem.W.Frag → Bool) K = true := T.x 31
theorem Tx.e_kit_ValueError : (fun K => decide (PySem.W.kitOne K (.ref (ga K "InvalidNumber")) (.type "ValueError") = some true) : PySem.W.Frag → Bool) K = true := T.x 32
theorem Tx.e_kit_LookupError : (fun K => decide (PySem.W.kitOne K (.ref (ga K "InvalidNumber")) (.type "LookupError") = some false) : PySem.W.Frag → Bool) K = true := T.x 33
theorem Tx.e_kit_ArithmeticError : (fun K => decide (PySem.W.kitOne K (.ref (ga K "InvalidNumber")) (.type "ArithmeticError") = some false) : PySem.W.Frag → Bool) K = true := T.x 34
theorem Tx.e_exm_WrongValue : (fun K => decide (PySem.W.exmOne K (.ref (ga K "InvalidNumber")) (.ref (ga K "WrongValue")) = some true) : PySem.W.Frag → Bool) K = true := T.x 35
theorem Tx.e_exm_WrongState : (fun K => decide (PySem.W.exmOne K (.ref (ga K "InvalidNumber")) (.ref (ga K "WrongState")) = some false) : PySem.W.Frag → Bool) K = true := T.x 36
theorem Tx.e_exm_NoAnswer : (fun K => decide (PySem.W.exmOne K (.ref (ga K "InvalidNumber")) (.ref (ga K "NoAnswer")) = some false) : PySem.W.Frag → Bool) K = true := T.x 37
theorem Tx.e_sys : (fun K => LR.sysB K : PySem.W.Frag → Bool) K = true := T.x 38
theorem Tx.e_exq : (fun K => LX.exqB K (ga K "InvalidNumber") : PySem.W.Frag → Bool) K = true := T.x 39
theorem Tx.e_id : (fun K => LS.idB K (ga K "Machine") : PySem.W.Frag → Bool) K = true := T.x 40
theorem Tx.e_init : (fun K => decide (PySem.W.typeIn K (.ref (ma K (ga K "InvalidNumber") "__init__")) = some (.type "function")) : PySem.W.Frag → Bool) K = true := T.x 41
theorem Tx.e_sm_len : (fun K => eqO (PySem.W.findIn K (.ref (ga K "Machine")) "__len__") (some (some (.ref (ma K (ga K "Machine") "__len__")))) : PySem.W.Frag → Bool) K = true := T.x 42
theorem Tx.e_sm_bool : (fun K => eqO (PySem.W.findIn K (.ref (ga K "Machine")) "__bool__") (some (some (.ref (ma K (ga K "Machine") "__bool__")))) : PySem.W.Frag → Bool) K = true := T.x 43
theorem Tx.e_sm_contains : (fun K => eqO (PySem.W.findIn K (.ref (ga K "Machine")) "__contains__") (some (some (.ref (ma K (ga K "Machine") "__contains__")))) : PySem.W.Frag → Bool) K = true := T.x 44
theorem Tx.e_tabne : (fun K => decide ((He.cT K ("_law_refused_right", none)).2 ≠ (He.cT K ("_law_limits_right", none)).2) : PySem.W.Frag → Bool) K = true := T.x 45
theorem Tx.f_is_integer : ∃ fd, FunD K "is_integer" "is_integer" (defArgs s_is_integer) (defBody s_is_integer) (defScope s_is_integer) ([]) [] ((adG "is_integer" : PySem.W.Frag → Addr) K) fd := T.c.def_ 0
theorem Tx.f_is_number : ∃ fd, FunD K "is_number" "is_number" (defArgs s_is_number) (defBody s_is_number) (defScope s_is_number) ([]) [] ((adG "is_number" : PySem.W.Frag → Addr) K) fd := T.c.def_ 1
theorem Tx.f_law_cell : ∃ fd, FunD K "_law_cell" "_law_cell" (defArgs s_law_cell) (defBody s_law_cell) (defScope s_law_cell) ([]) [] ((adG "_law_cell" : PySem.W.Frag → Addr) K) fd := T.c.def_ 2
theorem Tx.f_law_purse : ∃ fd, FunD K "_law_purse" "_law_purse" (defArgs s_law_purse) (defBody s_law_purse) (defScope s_law_purse) ([]) [] ((adG "_law_purse" : PySem.W.Frag → Addr) K) fd := T.c.def_ 3
theorem Tx.f_law_pick : ∃ fd, FunD K "_law_pick" "_law_pick" (defArgs s_law_pick) (defBody s_law_pick) (defScope s_law_pick) ([]) [] ((adG "_law_pick" : PySem.W.Frag → Addr) K) fd := T.c.def_ 4
theorem Tx.f_law_class : ∃ fd, FunD K "_law_class" "_law_class" (defArgs s_law_class) (defBody s_law_class) (defScope s_law_class) ([]) [] ((adG "_law_class" : PySem.W.Frag → Addr) K) fd := T.c.def_ 5
theorem Tx.f_law_field : ∃ fd, FunD K "_law_field" "_law_field" (defArgs s_law_field) (defBody s_law_field) (defScope s_law_field) ([]) [] ((adG "_law_field" : PySem.W.Frag → Addr) K) fd := T.c.def_ 6
theorem Tx.f_law_told : ∃ fd, FunD K "_law_told" "_law_told" (defArgs s_law_told) (defBody s_law_told) (defScope s_law_told) ([]) [] ((adG "_law_told" : PySem.W.Frag → Addr) K) fd := T.c.def_ 7
theorem Tx.f_law_number : ∃ fd, FunD K "_law_number" "_law_number" (defArgs s_law_number) (defBody s_law_number) (defScope s_law_number) ([]) [] ((adG "_law_number" : PySem.W.Frag → Addr) K) fd := T.c.def_ 8
theorem Tx.f_law_thing : ∃ fd, FunD K "_law_thing" "_law_thing" (defArgs s_law_thing) (defBody s_law_thing) (defScope s_law_thing) ([]) [] ((adG "_law_thing" : PySem.W.Frag → Addr) K) fd := T.c.def_ 9
theorem Tx.f_law_fresh : ∃ fd, FunD K "_law_fresh" "_law_fresh" (defArgs s_law_fresh) (defBody s_law_fresh) (defScope s_law_fresh) ([]) [] ((adG "_law_fresh" : PySem.W.Frag → Addr) K) fd := T.c.def_ 10
theorem Tx.f_law_made_right : ∃ fd, FunD K "_law_made_right" "_law_made_right" (defArgs s_law_made_right) (defBody s_law_made_right) (defScope s_law_made_right) ([]) [] ((adG "_law_made_right" : PySem.W.Frag → Addr) K) fd := T.c.def_ 11
theorem Tx.f_law_refused_right : ∃ fd, FunD K "_law_refused_right" "_law_refused_right" (defArgs s_law_refused_right) (defBody s_law_refused_right) (defScope s_law_refused_right) ([]) [] ((adG "_law_refused_right" : PySem.W.Frag → Addr) K) fd := T.c.def_ 12
theorem Tx.f_law_limits_right : ∃ fd, FunD K "_law_limits_right" "_law_limits_right" (defArgs s_law_limits_right) (defBody s_law_limits_right) (defScope s_law_limits_right) ([]) [] ((adG "_law_limits_right" : PySem.W.Frag → Addr) K) fd := T.c.def_ 13
theorem Tx.f_law_right : ∃ fd, FunD K "_law_right" "_law_right" (defArgs s_law_right) (defBody s_law_right) (defScope s_law_right) ([]) [] ((adG "_law_right" : PySem.W.Frag → Addr) K) fd := T.c.def_ 14
theorem Tx.f_law : ∃ fd, FunD K "law" "law" (defArgs s_law) (defBody s_law) (defScope s_law) ([]) [] ((adG "law" : PySem.W.Frag → Addr) K) fd := T.c.def_ 15
theorem Tx.f_World_UinitU : ∃ fd, FunD K "__init__" "World.__init__" (defArgs s_World_UinitU) (defBody s_World_UinitU) (defScope s_World_UinitU) ([]) [] ((adM "World" "__init__" : PySem.W.Frag → Addr) K) fd := T.c.def_ 16
theorem Tx.f_World_knows : ∃ fd, FunD K "knows" "World.knows" (defArgs s_World_knows) (defBody s_World_knows) (defScope s_World_knows) ([]) [] ((adM "World" "knows" : PySem.W.Frag → Addr) K) fd := T.c.def_ 17
theorem Tx.f_World_living : ∃ fd, FunD K "living" "World.living" (defArgs s_World_living) (defBody s_World_living) (defScope s_World_living) ([]) [] ((adM "World" "living" : PySem.W.Frag → Addr) K) fd := T.c.def_ 18
theorem Tx.f_Machine_UinitU : ∃ fd, FunD K "__init__" "Machine.__init__" (defArgs s_Machine_UinitU) (defBody s_Machine_UinitU) (defScope s_Machine_UinitU) (([.non] : List Dv).map (Dv.v K)) [] ((adM "Machine" "__init__" : PySem.W.Frag → Addr) K) fd := T.c.def_ 19
theorem Tx.f_Machine_set_limit : ∃ fd, FunD K "set_limit" "Machine.set_limit" (defArgs s_Machine_set_limit) (defBody s_Machine_set_limit) (defScope s_Machine_set_limit) ([]) [] ((adM "Machine" "set_limit" : PySem.W.Frag → Addr) K) fd := T.c.def_ 20
theorem Tx.f_Machine_UcontainsU : ∃ fd, FunD K "__contains__" "Machine.__contains__" (defArgs s_Machine_UcontainsU) (defBody s_Machine_UcontainsU) (defScope s_Machine_UcontainsU) ([]) [] ((adM "Machine" "__contains__" : PySem.W.Frag → Addr) K) fd := T.c.def_ 21
theorem Tx.f_Machine_UlenU : ∃ fd, FunD K "__len__" "Machine.__len__" (defArgs s_Machine_UlenU) (defBody s_Machine_UlenU) (defScope s_Machine_UlenU) ([]) [] ((adM "Machine" "__len__" : PySem.W.Frag → Addr) K) fd := T.c.def_ 22
theorem Tx.f_Machine_UboolU : ∃ fd, FunD K "__bool__" "Machine.__bool__" (defArgs s_Machine_UboolU) (defBody s_Machine_UboolU) (defScope s_Machine_UboolU) ([]) [] ((adM "Machine" "__bool__" : PySem.W.Frag → Addr) K) fd := T.c.def_ 23
theorem Tx.f_InvalidNumber_UinitU : ∃ fd, FunD K "__init__" "InvalidNumber.__init__" (defArgs s_InvalidNumber_UinitU) (defBody s_InvalidNumber_UinitU) (defScope s_InvalidNumber_UinitU) ([]) [] ((adM "InvalidNumber" "__init__" : PySem.W.Frag → Addr) K) fd := T.c.def_ 24
theorem Tx.f_Machine_frames : ∃ fd, FunD K "frames" "Machine.frames" (defArgs s_Machine_frames) (defBody s_Machine_frames) (defScope s_Machine_frames) ([]) [] ((fun K => prG K "Machine" "frames" : PySem.W.Frag → Addr) K) fd := T.c.def_ 25
theorem Tx.f_Machine_limit : ∃ fd, FunD K "limit" "Machine.limit" (defArgs s_Machine_limit) (defBody s_Machine_limit) (defScope s_Machine_limit) ([]) [] ((fun K => prG K "Machine" "limit" : PySem.W.Frag → Addr) K) fd := T.c.def_ 26
theorem Tx.f_Machine_used : ∃ fd, FunD K "used" "Machine.used" (defArgs s_Machine_used) (defBody s_Machine_used) (defScope s_Machine_used) ([]) [] ((fun K => prG K "Machine" "used" : PySem.W.Frag → Addr) K) fd := T.c.def_ 27
theorem Tx.f_Machine_charges : ∃ fd, FunD K "charges" "Machine.charges" (defArgs s_Machine_charges) (defBody s_Machine_charges) (defScope s_Machine_charges) ([]) [] ((fun K => prG K "Machine" "charges" : PySem.W.Frag → Addr) K) fd := T.c.def_ 28
theorem Tx.f_Machine_processes : ∃ fd, FunD K "processes" "Machine.processes" (defArgs s_Machine_processes) (defBody s_Machine_processes) (defScope s_Machine_processes) ([]) [] ((fun K => prG K "Machine" "processes" : PySem.W.Frag → Addr) K) fd := T.c.def_ 29
end
abbrev N_is_integer : List PySem.Str := ["value"]
theorem sc_is_integer : FnScope N_is_integer ["value"] (defScope s_is_integer) := ⟨rfl, rfl, rfl, by decide +kernel, rfl, by decide +kernel, by decide +kernel⟩
abbrev N_is_number : List PySem.Str := ["value"]
theorem sc_is_number : FnScope N_is_number ["value"] (defScope s_is_number) := ⟨rfl, rfl, rfl, by decide +kernel, rfl, by decide +kernel, by decide +kernel⟩
abbrev N_law_cell : List PySem.Str := ["_law_cells", "_law_k", "_law_mixed", "_law_figure"]
theorem sc_law_cell : FnScope N_law_cell ["_law_cells", "_law_k"] (defScope s_law_cell) := ⟨rfl, rfl, rfl, by decide +kernel, rfl, by decide +kernel, by decide +kernel⟩
abbrev N_law_purse : List PySem.Str := ["_law_figure", "_law_digits"]
theorem sc_law_purse : FnScope N_law_purse ["_law_figure"] (defScope s_law_purse) := ⟨rfl, rfl, rfl, by decide +kernel, rfl, by decide +kernel, by decide +kernel⟩
abbrev N_law_pick : List PySem.Str := ["_law_purse_here", "_law_many", "_law_state", "_law_times", "_law_digit"]
theorem sc_law_pick : FnScope N_law_pick ["_law_purse_here", "_law_many"] (defScope s_law_pick) := ⟨rfl, rfl, rfl, by decide +kernel, rfl, by decide +kernel, by decide +kernel⟩
abbrev N_law_class : List PySem.Str := ["_law_e", "_law_sorts", "_law_words", "_law_at", "_law_due", "_law_bases", "_law_kinds"]
theorem sc_law_class : FnScope N_law_class ["_law_e"] (defScope s_law_class) := ⟨rfl, rfl, rfl, by decide +kernel, rfl, by decide +kernel, by decide +kernel⟩
abbrev N_law_field : List PySem.Str := ["_law_e", "_law_word"]
theorem sc_law_field : FnScope N_law_field ["_law_e", "_law_word"] (defScope s_law_field) := ⟨rfl, rfl, rfl, by decide +kernel, rfl, by decide +kernel, by decide +kernel⟩
abbrev N_law_told : List PySem.Str := ["_law_act", "_law_told_here", "_law_e", "_law_word"]
theorem sc_law_told : FnScope N_law_told ["_law_act"] (defScope s_law_told) := ⟨rfl, rfl, rfl, by decide +kernel, rfl, by decide +kernel, by decide +kernel⟩
abbrev N_law_number : List PySem.Str := ["_law_purse_here", "_law_size"]
theorem sc_law_number : FnScope N_law_number ["_law_purse_here"] (defScope s_law_number) := ⟨rfl, rfl, rfl, by decide +kernel, rfl, by decide +kernel, by decide +kernel⟩
abbrev N_law_thing : List PySem.Str := ["_law_purse_here", "_law_some"]
theorem sc_law_thing : FnScope N_law_thing ["_law_purse_here"] (defScope s_law_thing) := ⟨rfl, rfl, rfl, by decide +kernel, rfl, by decide +kernel, by decide +kernel⟩
abbrev N_law_fresh : List PySem.Str := ["_law_mine", "_law_room", "_law_bound", "_law_told_here"]
theorem sc_law_fresh : FnScope N_law_fresh ["_law_mine", "_law_room", "_law_bound"] (defScope s_law_fresh) := ⟨rfl, rfl, rfl, by decide +kernel, rfl, by decide +kernel, by decide +kernel⟩
abbrev N_law_made_right : List PySem.Str := ["_law_room", "_law_bound", "_law_some", "_law_one", "_law_more"]
theorem sc_law_made_right : FnScope N_law_made_right ["_law_room", "_law_bound"] (defScope s_law_made_right) := ⟨rfl, rfl, rfl, by decide +kernel, rfl, by decide +kernel, by decide +kernel⟩
abbrev N_law_refused_right : List PySem.Str := ["_law_purse_here", "_law_room", "_law_bound", "_law_odd", "_law_other", "_law_told_here"]
theorem sc_law_refused_right : FnScope N_law_refused_right ["_law_purse_here", "_law_room", "_law_bound"] (defScope s_law_refused_right) := ⟨rfl, rfl, rfl, by decide +kernel, rfl, by decide +kernel, by decide +kernel⟩
abbrev N_law_limits_right : List PySem.Str := ["_law_purse_here", "_law_mine", "_law_room", "_law_one", "_law_two", "_law_odd", "_law_told_here", "_law_thing_here", "_law_due"]
theorem sc_law_limits_right : FnScope N_law_limits_right ["_law_purse_here", "_law_mine", "_law_room"] (defScope s_law_limits_right) := ⟨rfl, rfl, rfl, by decide +kernel, rfl, by decide +kernel, by decide +kernel⟩
abbrev N_law_right : List PySem.Str := ["_law_purse_here", "_law_turn", "_law_room", "_law_bound"]
theorem sc_law_right : FnScope N_law_right ["_law_purse_here"] (defScope s_law_right) := ⟨rfl, rfl, rfl, by decide +kernel, rfl, by decide +kernel, by decide +kernel⟩
abbrev N_law : List PySem.Str := ["_law_cells", "_law_k"]
theorem sc_law : FnScope N_law ["_law_cells"] (defScope s_law) := ⟨rfl, rfl, rfl, by decide +kernel, rfl, by decide +kernel, by decide +kernel⟩
abbrev N_World_UinitU : List PySem.Str := ["self"]
theorem sc_World_UinitU : FnScope N_World_UinitU ["self"] (defScope s_World_UinitU) := ⟨rfl, rfl, rfl, by decide +kernel, rfl, by decide +kernel, by decide +kernel⟩
abbrev N_World_knows : List PySem.Str := ["self", "process"]
theorem sc_World_knows : FnScope N_World_knows ["self", "process"] (defScope s_World_knows) := ⟨rfl, rfl, rfl, by decide +kernel, rfl, by decide +kernel, by decide +kernel⟩
abbrev N_World_living : List PySem.Str := ["self"]
theorem sc_World_living : FnScope N_World_living ["self"] (defScope s_World_living) := ⟨rfl, rfl, rfl, by decide +kernel, rfl, by decide +kernel, by decide +kernel⟩
abbrev N_Machine_UinitU : List PySem.Str := ["self", "frames", "limit"]
theorem sc_Machine_UinitU : FnScope N_Machine_UinitU ["self", "frames", "limit"] (defScope s_Machine_UinitU) := ⟨rfl, rfl, rfl, by decide +kernel, rfl, by decide +kernel, by decide +kernel⟩
abbrev N_Machine_set_limit : List PySem.Str := ["self", "number"]
theorem sc_Machine_set_limit : FnScope N_Machine_set_limit ["self", "number"] (defScope s_Machine_set_limit) := ⟨rfl, rfl, rfl, by decide +kernel, rfl, by decide +kernel, by decide +kernel⟩
abbrev N_Machine_UcontainsU : List PySem.Str := ["self", "value"]
theorem sc_Machine_UcontainsU : FnScope N_Machine_UcontainsU ["self", "value"] (defScope s_Machine_UcontainsU) := ⟨rfl, rfl, rfl, by decide +kernel, rfl, by decide +kernel, by decide +kernel⟩
abbrev N_Machine_UlenU : List PySem.Str := ["self"]
theorem sc_Machine_UlenU : FnScope N_Machine_UlenU ["self"] (defScope s_Machine_UlenU) := ⟨rfl, rfl, rfl, by decide +kernel, rfl, by decide +kernel, by decide +kernel⟩
abbrev N_Machine_UboolU : List PySem.Str := ["self"]
theorem sc_Machine_UboolU : FnScope N_Machine_UboolU ["self"] (defScope s_Machine_UboolU) := ⟨rfl, rfl, rfl, by decide +kernel, rfl, by decide +kernel, by decide +kernel⟩
abbrev N_InvalidNumber_UinitU : List PySem.Str := ["self", "given"]
theorem sc_InvalidNumber_UinitU : FnScope N_InvalidNumber_UinitU ["self", "given"] (defScope s_InvalidNumber_UinitU) := ⟨rfl, rfl, rfl, by decide +kernel, rfl, by decide +kernel, by decide +kernel⟩
abbrev N_Machine_frames : List PySem.Str := ["self"]
theorem sc_Machine_frames : FnScope N_Machine_frames ["self"] (defScope s_Machine_frames) := ⟨rfl, rfl, rfl, by decide +kernel, rfl, by decide +kernel, by decide +kernel⟩
abbrev N_Machine_limit : List PySem.Str := ["self"]
theorem sc_Machine_limit : FnScope N_Machine_limit ["self"] (defScope s_Machine_limit) := ⟨rfl, rfl, rfl, by decide +kernel, rfl, by decide +kernel, by decide +kernel⟩
abbrev N_Machine_used : List PySem.Str := ["self"]
theorem sc_Machine_used : FnScope N_Machine_used ["self"] (defScope s_Machine_used) := ⟨rfl, rfl, rfl, by decide +kernel, rfl, by decide +kernel, by decide +kernel⟩
abbrev N_Machine_charges : List PySem.Str := ["self"]
theorem sc_Machine_charges : FnScope N_Machine_charges ["self"] (defScope s_Machine_charges) := ⟨rfl, rfl, rfl, by decide +kernel, rfl, by decide +kernel, by decide +kernel⟩
abbrev N_Machine_processes : List PySem.Str := ["self"]
theorem sc_Machine_processes : FnScope N_Machine_processes ["self"] (defScope s_Machine_processes) := ⟨rfl, rfl, rfl, by decide +kernel, rfl, by decide +kernel, by decide +kernel⟩
end My
set_option Elab.async false
set_option maxRecDepth 100000
set_option maxHeartbeats 0
namespace My
open PySem PySem.Spec PyProof.Rows L2 He HL
theorem run (w : World) : HandSHeadRun.RunEq R (PySem.W.view R.prog [80]) hk ob 20000 names w := by
  intro os
  kernel_rfl
end My
set_option Elab.async false
set_option linter.all false
set_option maxRecDepth 100000
set_option maxHeartbeats 4000000
/-! The package's part that k47 reaches: numbers, worlds, machines. -/
namespace My
open PySem PySem.Spec PyProof.Rows L2 He HL LD LX LL LQ

/-! ### promises -/
theorem u60 {k : Nat} {A : Around} (hr : Room k A) : A.units + 60 < cLine := by
  have := hr.un
  omega
theorem u1 {k : Nat} {A : Around} (hr : Room k A) : A.units + 1 < cLine := by
  have := hr.un
  omega
theorem PL {f : PySem.Str} {v : V} : ∀ {fs : List (PySem.Str × V)} {n : Nat}, fs.length ≤ n → (putF f v fs).length ≤ n + 1
  | [], _, _ => Nat.succ_le_succ (Nat.zero_le _)
  | (g, x) :: r, 0, h => absurd h (by simp)
  | (g, x) :: r, n + 1, h => by
    unfold putF
    split
    · exact Nat.le_succ_of_le h
    · exact Nat.succ_le_succ (PL (Nat.le_of_succ_le_succ h))
theorem PL0 {n : Nat} {fs : List (PySem.Str × V)} (h : fs.length ≤ n) (k : n < 1000) : fs.length < 1000 := Nat.lt_of_le_of_lt h k
def NotInt (K : PySem.W.Frag) (H : Hp) (x : V) : Prop := TyX K H x (.type "bool") ∨ TyX K H x (.type "NoneType") ∨ TyX K H x (.type "str") ∨ TyX K H x (.type "tuple") ∨ TyX K H x (.type "list") ∨ TyX K H x (.type "dict")
def NotNum (K : PySem.W.Frag) (H : Hp) (x : V) : Prop := (∃ i, x = .int i ∧ i < 0) ∨ NotInt K H x
structure spIsInt (K : PySem.W.Frag) (vs : List V) (H : Hp) (Q : VK) (_E : XK) : Prop where
  h : ∃ x, vs = [x] ∧ ((∃ i, x = .int i ∧ Q (.bl true) H) ∨ (NotInt K H x ∧ Q (.bl false) H))
structure spIsNum (K : PySem.W.Frag) (vs : List V) (H : Hp) (Q : VK) (_E : XK) : Prop where
  h : ∃ x, vs = [x] ∧ ((∃ i, x = .int i ∧ Q (.bl (decide (0 ≤ i))) H) ∨ (NotInt K H x ∧ Q (.bl false) H))
/-- a world without processes -/
def WO (K : PySem.W.Frag) (H : Hp) (a : Addr) : Prop := ∃ dx d1 d2, H a = some (.ins (ga K "World") dx [("members", .ref d1), ("begun", .int 0), ("made", .int 0), ("sharers", .ref d2), ("in_use", .int 0), ("charged", .int 0)]) ∧ H d1 = some (.dK [])
/-- a machine without processes -/
def MO (K : PySem.W.Frag) (H : Hp) (m : Addr) (r b : Int) : Prop := ∃ dx wa, H m = some (.ins (ga K "Machine") dx [("room", .int r), ("bound", .int b), ("world", .ref wa)]) ∧ WO K H wa
structure spW (K : PySem.W.Frag) (vs : List V) (H : Hp) (Q : VK) (_E : XK) : Prop where
  h : ∃ a dx, vs = [.ref a] ∧ H a = some (.ins (ga K "World") dx []) ∧ ∀ H', SamX a H H' → WO K H' a → Q .non H'
section
variable {P : Program} {w : World} {K : PySem.W.Frag} {mg : PySem.Str → Option Value} {base : Heap} (T : Tx K mg base)
include T
theorem D_is_integer : Dn P w K mg base CX0 1 "is_integer" ["value"] (spIsInt K) := by
  obtain ⟨fd, F⟩ := T.f_is_integer
  refine ⟨_, fd, T.g_is_integer, F.kp, okN F sc_is_integer (fun vs H Q E h => ?_) (fun A outer s H vs Q E hr h => ⟨_, (pss_one (ps_ret (pe_and (pe_callB call_isi (by rfl) T.n_isinstance (by decide +kernel) (pa_cons (pv 0) (pa_cons (pe_bltn (v := .ty "int") rfl T.n_int (by decide +kernel) rfl) pa_nil))) (pe_one (pe_not (pe_callB call_isi (by rfl) T.n_isinstance (by decide +kernel) (pa_cons (pv 0) (pa_cons (pe_bltn (v := .ty "bool") rfl T.n_bool (by decide +kernel) rfl) pa_nil)))))))), ?_⟩), F.bindsN fun _ _ _ _ _ _ us hl => match us, hl with | [_], _ => rfl⟩
  · obtain ⟨x, rfl, _⟩ := h
    rfl
  · obtain ⟨x, rfl, h⟩ := h
    obtain ⟨t, b1, b2, ty, k1, k2, q⟩ : ∃ (t : String) (b1 b2 : Bool), TyX K H x (.type t) ∧ kitB t "int" = some b1 ∧ kitB t "bool" = some b2 ∧ Q (.bl (b1 && !b2)) H := by
      rcases h with ⟨i, rfl, q⟩ | ⟨h, q⟩
      · exact ⟨"int", true, false, .base (.int i), by decide +kernel, by decide +kernel, q⟩
      · rcases h with h | h | h | h | h | h
        · exact ⟨_, true, true, h, by decide +kernel, by decide +kernel, q⟩
        · exact ⟨_, false, false, h, by decide +kernel, by decide +kernel, q⟩
        · exact ⟨_, false, false, h, by decide +kernel, by decide +kernel, q⟩
        · exact ⟨_, false, false, h, by decide +kernel, by decide +kernel, q⟩
        · exact ⟨_, false, false, h, by decide +kernel, by decide +kernel, q⟩
        · exact ⟨_, false, false, h, by decide +kernel, by decide +kernel, q⟩
    refine ⟨_, rfl, x, .ty "int", .type t, .type "int", b1, rfl, .ty "int", ty, kit_ty k1, b1, rfl, ?_⟩
    cases b1 with
    | false => exact q
    | true => exact ⟨_, rfl, x, .ty "bool", .type t, .type "bool", b2, rfl, .ty "bool", ty, kit_ty k2, b2, rfl, q⟩
theorem D_is_number : Dn P w K mg base CX0 2 "is_number" ["value"] (spIsNum K) := by
  obtain ⟨fd, F⟩ := T.f_is_number
  have D_is_integer := D_is_integer (P := P) (w := w) T
  refine ⟨_, fd, T.g_is_number, F.kp, okN F sc_is_number (fun vs H Q E h => ?_) (fun A outer s H vs Q E hr h => ⟨_, (pss_one (ps_ret (pe_and (pe_callD D_is_integer (hr.mono (by decide)) pass0 (pa_cons (pv 0) pa_nil)) (pe_one (pe_cmpR op_ge (pv 0) pe_int (nomark _)))))), ?_⟩), F.bindsN fun _ _ _ _ _ _ us hl => match us, hl with | [_], _ => rfl⟩
  · obtain ⟨x, rfl, _⟩ := h
    rfl
  · obtain ⟨x, rfl, h⟩ := h
    rcases h with ⟨i, rfl, q⟩ | ⟨h, q⟩
    · exact ⟨_, rfl, _, rfl, .inl ⟨i, rfl, true, rfl, _, rfl, _, _, rfl, rfl, q⟩⟩
    · exact ⟨_, rfl, _, rfl, .inr ⟨h, false, rfl, q⟩⟩
theorem D_World : Kn P w K mg base CX0 1 "World" (ga K "World") ["self"] [] (spW K) := by
  obtain ⟨fd, F⟩ := T.f_World_UinitU
  have nd := sc_World_UinitU.nd
  refine ⟨_, fd, [], T.g_World, T.mk_World, okN F sc_World_UinitU (fun vs H Q E h => ?_) (fun A outer s H vs Q E hr h => ⟨_, (pss_cons (ps_fld (pv 0) pe_dnewK rfl)
      (pss_cons (ps_fld (pv 0) pe_int rfl)
      (pss_cons (ps_fld (pv 0) pe_int rfl)
      (pss_cons (ps_fld (pv 0) pe_dnewK rfl)
      (pss_cons (ps_fld (pv 0) pe_int rfl)
      (pss_one (ps_fld (pv 0) pe_int rfl))))))), ?_⟩), F.bindsN fun _ _ _ _ _ _ us hl => match us, hl with | [_], _ => rfl, .nil⟩
  · obtain ⟨a, dx, rfl, _⟩ := h
    rfl
  · obtain ⟨a, dx, rfl, ea, q⟩ := h
    intro d1 n1
    have ne1 : d1 ≠ a := fun z => by rw [z, ea] at n1; cases n1
    refine ⟨_, rfl, a, _, dx, [], rfl, by rw [upd_ne ne1.symm]; exact ea, T.cl_World, T.no_World_members, PL0 (n := 0) (Nat.le_refl 0) (by decide), ?_⟩
    refine ⟨_, rfl, a, _, dx, _, rfl, upd_same, T.cl_World, T.no_World_begun, PL0 (n := 1) (PL (fs := []) (Nat.le_refl 0)) (by decide), ?_⟩
    refine ⟨_, rfl, a, _, dx, _, rfl, upd_same, T.cl_World, T.no_World_made, PL0 (n := 2) (PL (PL (fs := []) (Nat.le_refl 0))) (by decide), ?_⟩
    intro d2 n2
    have ne2 : d2 ≠ a := fun z => by rw [z, upd_same] at n2; cases n2
    have ne3 : d2 ≠ d1 := fun z => by
      rw [z, upd_ne ne1, upd_ne ne1, upd_ne ne1, upd_same] at n2
      cases n2
    refine ⟨_, rfl, a, _, dx, _, rfl, by rw [upd_ne ne2.symm]; exact upd_same, T.cl_World, T.no_World_sharers, PL0 (n := 3) (PL (PL (PL (fs := []) (Nat.le_refl 0)))) (by decide), ?_⟩
    refine ⟨_, rfl, a, _, dx, _, rfl, upd_same, T.cl_World, T.no_World_in_use, PL0 (n := 4) (PL (PL (PL (PL (fs := []) (Nat.le_refl 0))))) (by decide), ?_⟩
    refine ⟨_, rfl, a, _, dx, _, rfl, upd_same, T.cl_World, T.no_World_charged, PL0 (n := 5) (PL (PL (PL (PL (PL (fs := []) (Nat.le_refl 0)))))) (by decide), ?_⟩
    refine q _ (fun b o hb e => ?_) ⟨dx, d1, d2, upd_same, ?_⟩
    · have b1 : b ≠ d1 := fun z => by rw [z, n1] at e; cases e
      have b2 : b ≠ d2 := fun z => by
        rw [upd_ne ne2, upd_ne ne2, upd_ne ne2, upd_ne ne3] at n2
        rw [z, n2] at e
        cases e
      rw [upd_ne hb, upd_ne hb, upd_ne hb, upd_ne b2, upd_ne hb, upd_ne hb, upd_ne hb, upd_ne b1]
      exact e
    · rw [upd_ne ne1, upd_ne ne1, upd_ne ne1, upd_ne ne3.symm, upd_ne ne1, upd_ne ne1, upd_ne ne1, upd_same]

/-! ### worlds -/
omit T in
theorem wo_x {H H' : Hp} {a m : Addr} (h : SamX m H H') (x : WO K H a) {r b : Int} (y : MO K H m r b) : WO K H' a := by
  obtain ⟨dx, d1, d2, e1, e2⟩ := x
  obtain ⟨dx', wa, e3, _⟩ := y
  exact ⟨dx, d1, d2, h _ _ (fun z => by rw [z, e3] at e1; simp only [Option.some.injEq, HO.ins.injEq] at e1; exact absurd e1.2.2 (by simp)) e1, h _ _ (fun z => by rw [z, e3] at e2; cases e2) e2⟩
omit T in
theorem WO.same {H H' : Hp} {a : Addr} (h : Sam H H') (x : WO K H a) : WO K H' a := by
  obtain ⟨dx, d1, d2, e1, e2⟩ := x
  exact ⟨dx, d1, d2, h _ _ e1, h _ _ e2⟩
omit T in
theorem MO.same {H H' : Hp} {m : Addr} {r b : Int} (h : Sam H H') (x : MO K H m r b) : MO K H' m r b := by
  obtain ⟨dx, wa, e1, e2⟩ := x
  exact ⟨dx, wa, h _ _ e1, e2.same h⟩
omit T in
theorem NotInt.same {H H' : Hp} {x : V} (h : Sam H H') (n : NotInt K H x) : NotInt K H' x := by
  have key : ∀ t : String, t ≠ "int" → TyX K H x (.type t) → TyX K H' x (.type t) := fun t ht ty => by
    cases ty with
    | base b =>
      cases b with
      | non => exact .base .non
      | bl y => exact .base (.bl y)
      | int i => exact .base (.int i)
      | str y => exact .base (.str y)
      | flt y => exact .base (.flt y)
      | lst e => exact .base (.lst (h _ _ e))
      | frz e => exact .base (.frz (h _ _ e))
      | tup e => exact .base (.tup (h _ _ e))
      | dK e => exact .base (.dK (h _ _ e))
      | dT e => exact .base (.dT (h _ _ e))
    | byt b => exact .byt b
    | set e => exact .set (h _ _ e)
    | kList e c => exact .kList e c
    | kTuple e c => exact .kTuple e c
    | kDict e c => exact .kDict e c
    | fTuple e => exact .fTuple (h _ _ e)
    | fDict e => exact .fDict (h _ _ e)
  rcases n with n | n | n | n | n | n
  · exact .inl (key _ (by decide) n)
  · exact .inr (.inl (key _ (by decide) n))
  · exact .inr (.inr (.inl (key _ (by decide) n)))
  · exact .inr (.inr (.inr (.inl (key _ (by decide) n))))
  · exact .inr (.inr (.inr (.inr (.inl (key _ (by decide) n)))))
  · exact .inr (.inr (.inr (.inr (.inr (key _ (by decide) n)))))
omit T in
theorem NotNum.same {H H' : Hp} {x : V} (h : Sam H H') (n : NotNum K H x) : NotNum K H' x := n.elim .inl fun n => .inr (n.same h)
structure spKnows (K : PySem.W.Frag) (vs : List V) (H : Hp) (Q : VK) (_E : XK) : Prop where
  h : ∃ a i, vs = [.ref a, .int i] ∧ WO K H a ∧ Q (.bl false) H
structure spLiving (K : PySem.W.Frag) (vs : List V) (H : Hp) (Q : VK) (_E : XK) : Prop where
  h : ∃ a, vs = [.ref a] ∧ WO K H a ∧ ∀ H' t, Sam H H' → H t = none → H' t = some (.tup []) → Q (.ref t) H'
theorem D_knows : Mn P w K mg base CX0 2 (ga K "World") "knows" ["self", "process"] (spKnows K) := by
  obtain ⟨fd, F⟩ := T.f_World_knows
  have D_is_integer := D_is_integer (P := P) (w := w) T
  refine ⟨T.cl_World, _, fd, T.me_World_knows, okN F sc_World_knows (fun vs H Q E h => ?_) (fun A outer s H vs Q E hr h => ⟨_, (pss_one (ps_ret (pe_and (pe_callD D_is_integer (hr.mono (by decide)) pass0 (pa_cons (pv 1) pa_nil)) (pe_one (pe_cmp (pc_din (u1 hr) (pv 1) (pe_fld (pv 0) rfl)) rfl))))), ?_⟩), F.bindsN fun _ _ _ _ _ _ us hl => match us, hl with | [_, _], _ => rfl⟩
  · obtain ⟨a, i, rfl, _⟩ := h
    rfl
  · obtain ⟨a, i, rfl, ⟨dx, d1, d2, e1, e2⟩, q⟩ := h
    exact ⟨_, rfl, _, rfl, .inl ⟨i, rfl, true, rfl, _, rfl, _, rfl, a, _, dx, _, _, rfl, e1, T.cl_World, T.no_World_members, rfl, d1, none, rfl, DGet.k (k := Sum.inl i) e2, q⟩⟩
theorem D_living : Mn P w K mg base CX0 1 (ga K "World") "living" ["self"] (spLiving K) := by
  obtain ⟨fd, F⟩ := T.f_World_living
  refine ⟨T.cl_World, _, fd, T.me_World_living, okN F sc_World_living (fun vs H Q E h => ?_) (fun A outer s H vs Q E hr h => ⟨_, (pss_one (ps_ret (pe_callTy call_tuple_of (by rfl) T.n_tuple (by decide +kernel) (pa_cons (pe_callB cr_sorted (by rfl) T.n_sorted (by decide +kernel) (pa_cons (pe_callTy (call_list_dK rfl) (by rfl) T.n_list (by decide +kernel) (pa_cons (pe_fld (pv 0) rfl) pa_nil)) pa_nil)) pa_nil)))), ?_⟩), F.bindsN fun _ _ _ _ _ _ us hl => match us, hl with | [_], _ => rfl⟩
  · obtain ⟨a, rfl, _⟩ := h
    rfl
  · obtain ⟨a, rfl, ⟨dx, d1, d2, e1, e2⟩, q⟩ := h
    refine ⟨_, rfl, a, _, dx, _, _, rfl, e1, T.cl_World, T.no_World_members, rfl, d1, [], rfl, e2, fun l hl => ?_⟩
    refine ⟨l, [], rfl, SqL.of upd_same, by decide, fun ns p perm _ hp => ?_⟩
    have en : ns = [] := List.Perm.eq_nil perm
    subst en
    refine ⟨p, _, rfl, .inl ⟨SqL.of upd_same, fun t ht => ?_⟩⟩
    have s1 : Sam H (upd H l (.lst [])) := .new hl
    have s2 : Sam H (upd (upd H l (.lst [])) p (.lst [])) := s1.tr (.new hp)
    refine q _ t (s2.tr (.new ht)) ?_ upd_same
    cases e : H t with
    | none => rfl
    | some o => cases (s2 _ _ e).symm.trans ht
/-! ### the error -/
theorem D_x_InvalidNumber : Ex1 P w K mg base "InvalidNumber" (ga K "InvalidNumber") "given" := by
  obtain ⟨fd, F⟩ := T.f_InvalidNumber_UinitU
  refine ⟨T.g_InvalidNumber, oexB_ok T.e_oex, T.no_InvalidNumber_given, _, fd, T.me_InvalidNumber_UinitU.1, of_decide_eq_true T.e_init, ?_, F.bindsN fun _ _ _ _ _ _ us hl => match us, hl with | [_, _], _ => rfl⟩
  exact fn_init1 F sc_InvalidNumber_UinitU rfl (.inl rfl) (.inl rfl) (by decide +kernel) (by decide +kernel) (fun X hX => by rfl)
/-! ### machines -/
def spMI (K : PySem.W.Frag) : Sp := fun vs H Q E => ∃ a dx x y, vs = [.ref a, x, y] ∧ H a = some (.ins (ga K "Machine") dx []) ∧
  ((NotNum K H x ∧ ∀ d, H d = none → E (.ref (ga K "InvalidNumber")) (some d) (upd H d (.xd [("given", x)]))) ∨
  ∃ r, x = .int r ∧ 0 ≤ r ∧ ((y ≠ .non ∧ NotNum K H y ∧ ∀ d, H d = none → E (.ref (ga K "InvalidNumber")) (some d) (upd H d (.xd [("given", y)]))) ∨
    ∃ b, (y = .non ∧ b = r ∨ y = .int b ∧ 0 ≤ b) ∧ ∀ H', SamX a H H' → MO K H' a r b → Q .non H'))
omit T in
theorem not_num {H : Hp} {x : V} {Q : VK} {E : XK} (h : NotNum K H x) (q : Q (.bl false) H) : spIsNum K [x] H Q E := by
  rcases h with ⟨i, rfl, hi⟩ | h
  · refine ⟨_, rfl, .inl ⟨i, rfl, ?_⟩⟩
    rw [decide_eq_false (by omega)]
    exact q
  · exact ⟨_, rfl, .inr ⟨h, q⟩⟩
omit T in
theorem is_num {H : Hp} {r : Int} {Q : VK} {E : XK} (h : 0 ≤ r) (q : Q (.bl true) H) : spIsNum K [.int r] H Q E := by
  refine ⟨_, rfl, .inl ⟨r, rfl, ?_⟩⟩
  rw [decide_eq_true h]
  exact q
theorem k_MI : FnOk P w K mg base (L2N.CX P w) 3 (ma K (ga K "Machine") "__init__") (Classical.choose T.f_Machine_UinitU) ["self", "frames", "limit"] (spMI K) := by
  have F := Classical.choose_spec T.f_Machine_UinitU
  have D_is_number := D_is_number (P := P) (w := w) T
  have D_x_InvalidNumber := D_x_InvalidNumber (P := P) (w := w) T
  have D_World := D_World (P := P) (w := w) T
  have ex := D_x_InvalidNumber.T
  refine okND F sc_Machine_UinitU (fun vs H Q E h => ?_) (fun A outer s H vs Q E hr h => ⟨_, (pss_cons (ps_if (pt_not (pt_val (pe_callD D_is_number (hr.mono (by decide)) pass0 (pa_cons (pv 1) pa_nil)))) (pss_one (ps_raise1 rfl takesB D_x_InvalidNumber (hr.mono (by decide)) (pv 1))) pss_nil)
      (pss_cons (ps_if (PW.pt (pw_and (pt_cmpR op_notN (pv 2) pe_non (nomark _)) (pw_and1 (pt_not (pt_val (pe_callD D_is_number (hr.mono (by decide)) pass0 (pa_cons (pv 2) pa_nil))))))) (pss_one (ps_raise1 rfl takesB D_x_InvalidNumber (hr.mono (by decide)) (pv 2))) pss_nil)
      (pss_cons (ps_fld (pv 0) (pv 1) rfl)
      (pss_cons (ps_fld (pv 0) (pe_ifExp (pt_cmpR op_isN (pv 2) pe_non (nomark _)) (pv 1) (pv 2)) rfl)
      (pss_one (ps_fld (pv 0) (pe_makeD0 D_World (hr.mono (by decide)) pass0) rfl)))))), ?_⟩)
  · obtain ⟨a, dx, x, y, rfl, _⟩ := h
    rfl
  · obtain ⟨a, dx, x, y, rfl, ea, h⟩ := h
    rcases h with ⟨n, hE⟩ | ⟨r, rfl, hr0, h⟩
    · exact ⟨_, rfl, not_num n ⟨_, rfl, x, rfl, mk1 ex T.no_InvalidNumber_given hE⟩⟩
    · refine ⟨_, rfl, is_num hr0 ⟨_, rfl, ?_⟩⟩
      rcases h with ⟨ny, n, hE⟩ | ⟨b, hb, q⟩
      · refine ⟨_, rfl, rfl, _, rfl, ?_⟩
        rw [decide_eq_false ny]
        exact ⟨_, rfl, not_num n ⟨_, rfl, y, rfl, mk1 ex T.no_InvalidNumber_given hE⟩⟩
      · rcases hb with ⟨rfl, rfl⟩ | ⟨rfl, hb0⟩
        · refine ⟨_, rfl, rfl, _, rfl, ?_⟩
          refine ⟨_, rfl, _, rfl, a, _, dx, [], rfl, ea, T.cl_Machine, T.no_Machine_room, by decide, ?_⟩
          refine ⟨_, rfl, rfl, _, rfl, _, rfl, ?_⟩
          refine ⟨_, rfl, a, _, dx, _, rfl, upd_same, T.cl_Machine, T.no_Machine_bound, PL0 (n := 1) (PL (fs := []) (Nat.le_refl 0)) (by decide), ?_⟩
          intro x' dx' nx nd' ne
          refine ⟨x', dx', rfl, upd_same, fun H' hs hw => ⟨rfl, ?_⟩⟩
          have nxa : x' ≠ a := fun z => by rw [z, upd_same] at nx; cases nx
          have nda : dx' ≠ a := fun z => by rw [z, upd_same] at nd'; cases nd'
          have s1 : ∀ b' o, b' ≠ a → H b' = some o → upd (upd H a (.ins (ga K "Machine") dx [("room", .int b)])) a (.ins (ga K "Machine") dx [("room", .int b), ("bound", .int b)]) b' = some o := fun b' o hb' e => by
            rw [upd_ne hb', upd_ne hb']
            exact e
          have s2 : ∀ b' o, upd (upd H a (.ins (ga K "Machine") dx [("room", .int b)])) a (.ins (ga K "Machine") dx [("room", .int b), ("bound", .int b)]) b' = some o → H' b' = some o := fun b' o e => hs b' o (fun z => by
            rw [z] at e
            cases nx.symm.trans e) (by
            have n1 : b' ≠ x' := fun z => by
              rw [z] at e
              cases nx.symm.trans e
            have n2 : b' ≠ dx' := fun z => by
              rw [z] at e
              cases nd'.symm.trans e
            rw [upd_ne n1, upd_ne n2]
            exact e)
          refine ⟨_, rfl, a, _, dx, _, rfl, s2 a _ upd_same, T.cl_Machine, T.no_Machine_world, (show (2 : Nat) < 1000 by decide), ?_⟩
          refine q _ (fun b' o hb' e => ?_) ⟨dx, x', upd_same, ?_⟩
          · rw [upd_ne hb']
            exact s2 _ _ (s1 _ _ hb' e)
          · obtain ⟨wx, d1, d2, w1, w2⟩ := hw
            refine ⟨wx, d1, d2, by rw [upd_ne nxa]; exact w1, ?_⟩
            have n3 : d1 ≠ a := fun z => by
              rw [z] at w2
              have := s2 a _ upd_same
              rw [w2] at this
              cases this
            rw [upd_ne n3]
            exact w2
        · refine ⟨_, rfl, rfl, _, rfl, ?_⟩
          refine ⟨_, rfl, is_num hb0 ⟨_, rfl, ?_⟩⟩
          refine ⟨_, rfl, _, rfl, a, _, dx, [], rfl, ea, T.cl_Machine, T.no_Machine_room, by decide, ?_⟩
          refine ⟨_, rfl, rfl, _, rfl, _, rfl, ?_⟩
          refine ⟨_, rfl, a, _, dx, _, rfl, upd_same, T.cl_Machine, T.no_Machine_bound, PL0 (n := 1) (PL (fs := []) (Nat.le_refl 0)) (by decide), ?_⟩
          intro x' dx' nx nd' ne
          refine ⟨x', dx', rfl, upd_same, fun H' hs hw => ⟨rfl, ?_⟩⟩
          have nxa : x' ≠ a := fun z => by rw [z, upd_same] at nx; cases nx
          have nda : dx' ≠ a := fun z => by rw [z, upd_same] at nd'; cases nd'
          have s1 : ∀ b' o, b' ≠ a → H b' = some o → upd (upd H a (.ins (ga K "Machine") dx [("room", .int r)])) a (.ins (ga K "Machine") dx [("room", .int r), ("bound", .int b)]) b' = some o := fun b' o hb' e => by
            rw [upd_ne hb', upd_ne hb']
            exact e
          have s2 : ∀ b' o, upd (upd H a (.ins (ga K "Machine") dx [("room", .int r)])) a (.ins (ga K "Machine") dx [("room", .int r), ("bound", .int b)]) b' = some o → H' b' = some o := fun b' o e => hs b' o (fun z => by
            rw [z] at e
            cases nx.symm.trans e) (by
            have n1 : b' ≠ x' := fun z => by
              rw [z] at e
              cases nx.symm.trans e
            have n2 : b' ≠ dx' := fun z => by
              rw [z] at e
              cases nd'.symm.trans e
            rw [upd_ne n1, upd_ne n2]
            exact e)
          refine ⟨_, rfl, a, _, dx, _, rfl, s2 a _ upd_same, T.cl_Machine, T.no_Machine_world, (show (2 : Nat) < 1000 by decide), ?_⟩
          refine q _ (fun b' o hb' e => ?_) ⟨dx, x', upd_same, ?_⟩
          · rw [upd_ne hb']
            exact s2 _ _ (s1 _ _ hb' e)
          · obtain ⟨wx, d1, d2, w1, w2⟩ := hw
            refine ⟨wx, d1, d2, by rw [upd_ne nxa]; exact w1, ?_⟩
            have n3 : d1 ≠ a := fun z => by
              rw [z] at w2
              have := s2 a _ upd_same
              rw [w2] at this
              cases this
            rw [upd_ne n3]
            exact w2
theorem D_Machine_2 : Kn P w K mg base (L2N.CX P w) 3 "Machine" (ga K "Machine") ["self", "frames", "limit"] [] (spMI K) := by
  have F := Classical.choose_spec T.f_Machine_UinitU
  obtain ⟨ds, r, b⟩ := FunD.binds1 (ps := ["self", "frames", "limit"]) F 3 1 (List.cons_ne_nil _ _) rfl fun Ta kV doc pm an cdv ct us its hu hi => match us, its, hu, hi with | [a, b, c], [d], _, _ => ⟨_, rfl, rfl⟩
  exact ⟨_, _, ds, T.g_Machine, T.mk_Machine, k_MI T, b, r⟩
theorem D_Machine_1 : Kn P w K mg base (L2N.CX P w) 3 "Machine" (ga K "Machine") ["self", "frames", "limit"] [.non] (spMI K) := by
  have F := Classical.choose_spec T.f_Machine_UinitU
  obtain ⟨ds, r, b⟩ := FunD.binds1 (ps := ["self", "frames", "limit"]) F 2 0 (List.cons_ne_nil _ _) rfl fun Ta kV doc pm an cdv ct us its hu hi => match us, its, hu, hi with | [a, b], [d], _, _ => ⟨_, rfl, rfl⟩
  exact ⟨_, _, ds, T.g_Machine, T.mk_Machine, k_MI T, b, r⟩
/-- (self) limit, frames by name -/
def gLF {α : Type} (us its ws : List α) : List α := us ++ (ws.drop 1 ++ ws.take 1)
def gL {α : Type} (us its ws : List α) : List α := us ++ ws
omit T in
theorem Vals.append {a c : List V} {b d : List Value} (h : Vals a b) (k : Vals c d) : Vals (a ++ c) (b ++ d) := by
  induction h with
  | nil => exact k
  | cons h _ ih => exact .cons h ih
omit T in
theorem Vals.take {a : List V} {b : List Value} (h : Vals a b) : ∀ n, Vals (a.take n) (b.take n) := by
  induction h with
  | nil => intro n; rw [List.take_nil, List.take_nil]; exact .nil
  | cons h _ ih =>
    intro n
    cases n with
    | zero => exact .nil
    | succ n => exact .cons h (ih n)
theorem D_Machine_limit_frames : KnK P w K mg base (L2N.CX P w) 3 "Machine" (ga K "Machine") 0 ["self", "frames", "limit"] ["limit", "frames"] (fun vs zs => gLF vs [.non] zs) (spMI K) := by
  have F := Classical.choose_spec T.f_Machine_UinitU
  obtain ⟨its, b⟩ := FunD.kbindsD (ps := ["self", "frames", "limit"]) F 1 ["limit", "frames"] gLF (List.cons_ne_nil _ _) (fun r1 r2 r3 => Vals.append r1 (Vals.append (r3.drop 1) (Vals.take r3 1)))
    fun Ta kV doc pm an cdv ct us its ws hu hi hw => match us, its, ws, hu, hi, hw with | [a], [d], [x, y], _, _, _ => ⟨_, rfl, rfl⟩
  exact ⟨_, _, _, T.g_Machine, T.mk_Machine, k_MI T, b⟩
theorem D_Machine_1_limit : KnK P w K mg base (L2N.CX P w) 3 "Machine" (ga K "Machine") 1 ["self", "frames", "limit"] ["limit"] (fun vs zs => gL vs [.non] zs) (spMI K) := by
  have F := Classical.choose_spec T.f_Machine_UinitU
  obtain ⟨its, b⟩ := FunD.kbindsD (ps := ["self", "frames", "limit"]) F 2 ["limit"] gL (List.cons_ne_nil _ _) (fun r1 r2 r3 => Vals.append r1 r3)
    fun Ta kV doc pm an cdv ct us its ws hu hi hw => match us, its, ws, hu, hi, hw with | [a, b], [d], [x], _, _, _ => ⟨_, rfl, rfl⟩
  exact ⟨_, _, _, T.g_Machine, T.mk_Machine, k_MI T, b⟩
/-- set_limit -/
structure spSet (K : PySem.W.Frag) (vs : List V) (H : Hp) (Q : VK) (E : XK) : Prop where
  h : ∃ m y r b, vs = [.ref m, y] ∧ MO K H m r b ∧ ((NotNum K H y ∧ ∀ d, H d = none → E (.ref (ga K "InvalidNumber")) (some d) (upd H d (.xd [("given", y)]))) ∨
    ∃ n, y = .int n ∧ 0 ≤ n ∧ ∀ H', SamX m H H' → MO K H' m r n → Q .non H')
theorem k_set : FnOk P w K mg base (L2N.CX P w) 3 (ma K (ga K "Machine") "set_limit") (Classical.choose T.f_Machine_set_limit) ["self", "number"] (spSet K) := by
  have F := Classical.choose_spec T.f_Machine_set_limit
  have D_is_number := D_is_number (P := P) (w := w) T
  have D_x_InvalidNumber := D_x_InvalidNumber (P := P) (w := w) T
  have ex := D_x_InvalidNumber.T
  refine okN F sc_Machine_set_limit (fun vs H Q E h => ?_) (fun A outer s H vs Q E hr h => ⟨_, (pss_cons (ps_if (pt_not (pt_val (pe_callD D_is_number (hr.mono (by decide)) pass0 (pa_cons (pv 1) pa_nil)))) (pss_one (ps_raise1 rfl takesB D_x_InvalidNumber (hr.mono (by decide)) (pv 1))) pss_nil)
      (pss_cons (ps_if (pt_cmpR op_lt (pv 1) (pe_fld (pe_fld (pv 0) rfl) rfl) (nomark _)) (pss_one (ps_never)) pss_nil)
      (pss_one (ps_fld (pv 0) (pv 1) rfl)))), ?_⟩)
  · obtain ⟨m, y, r, b, rfl, _⟩ := h
    rfl
  · obtain ⟨m, y, r, b, rfl, M, h⟩ := h
    have M' := M
    obtain ⟨dx, wa, e1, wx, d1, d2, e2, e3⟩ := M'
    rcases h with ⟨n, hE⟩ | ⟨n, rfl, h0, q⟩
    · exact ⟨_, rfl, not_num n ⟨_, rfl, y, rfl, mk1 ex T.no_InvalidNumber_given hE⟩⟩
    · refine ⟨_, rfl, is_num h0 ⟨_, rfl, ?_⟩⟩
      refine ⟨_, rfl, _, rfl, m, _, dx, _, _, rfl, e1, T.cl_Machine, T.no_Machine_world, rfl, wa, _, wx, _, _, rfl, e2, T.cl_World, T.no_World_charged, rfl, _, _, rfl, rfl, _, rfl, ?_⟩
      rw [decide_eq_false (by omega)]
      refine ⟨_, rfl, _, rfl, m, _, dx, _, rfl, e1, T.cl_Machine, T.no_Machine_bound, (show (3 : Nat) < 1000 by decide), ?_⟩
      have nw : wa ≠ m := fun z => by
        rw [z, e1] at e2
        simp only [Option.some.injEq, HO.ins.injEq] at e2
        exact absurd e2.2.2 (by simp)
      have n1 : d1 ≠ m := fun z => by
        rw [z, e1] at e3
        cases e3
      exact q _ (fun b' o hb' e => by rw [upd_ne hb']; exact e) ⟨dx, wa, upd_same, wx, d1, d2, by rw [upd_ne nw]; exact e2, by rw [upd_ne n1]; exact e3⟩
theorem D_m_set_limit : Mn P w K mg base (L2N.CX P w) 3 (ga K "Machine") "set_limit" ["self", "number"] (spSet K) := by
  have F := Classical.choose_spec T.f_Machine_set_limit
  exact ⟨T.cl_Machine, _, _, T.me_Machine_set_limit, k_set T, F.bindsN fun _ _ _ _ _ _ us hl => match us, hl with | [_, _], _ => rfl⟩
theorem D_m_set_limit_K : MnK P w K mg base (L2N.CX P w) 3 (ga K "Machine") "set_limit" ["self", "number"] ["number"] (fun vs zs => vs ++ zs) (spSet K) := by
  have F := Classical.choose_spec T.f_Machine_set_limit
  obtain ⟨oc, od, dV, kV, doc, pm, an, cdv, ct, osl, e, lk, hcd, hD, hK⟩ := F.ex
  refine ⟨T.cl_Machine, _, _, fun us ws => us ++ ws, T.me_Machine_set_limit, k_set T, ⟨fun s us ws X l1 l2 => ?_, fun r1 r2 => Vals.append r1 r2⟩⟩
  rcases hD with ⟨_, rfl⟩ | ⟨hne, _⟩
  · rw [e]
    exact BindsTo.of_looks fun M => match us, ws, l1, l2 with | [a], [b], _, _ => .of_pure rfl
  · exact absurd rfl hne
structure spHas (K : PySem.W.Frag) (vs : List V) (H : Hp) (Q : VK) (_E : XK) : Prop where
  h : ∃ m i r b, vs = [.ref m, .int i] ∧ MO K H m r b ∧ Q (.bl false) H
structure spLen (K : PySem.W.Frag) (vs : List V) (H : Hp) (Q : VK) (_E : XK) : Prop where
  h : ∃ m r b, vs = [.ref m] ∧ MO K H m r b ∧ ∀ H', Sam H H' → Q (.int 0) H'
structure spBool (K : PySem.W.Frag) (vs : List V) (H : Hp) (Q : VK) (_E : XK) : Prop where
  h : ∃ m r b, vs = [.ref m] ∧ MO K H m r b ∧ Q (.bl true) H
theorem S_contains : LS.Sm P w K mg base 3 (ga K "Machine") "__contains__" ["self", "value"] (spHas K) := by
  obtain ⟨fd, F⟩ := T.f_Machine_UcontainsU
  have D_m_knows := D_knows (P := P) (w := w) T
  have hm := T.me_Machine_UcontainsU
  refine ⟨T.cl_Machine, _, fd, hm.1, hm.2, okN F sc_Machine_UcontainsU (fun vs H Q E h => ?_) (fun A outer s H vs Q E hr h => ⟨_, (pss_one (ps_ret (pe_methD (pe_fld (pv 0) rfl) D_m_knows (hr.mono (by decide)) pass0 (pa_cons (pv 1) pa_nil)))), ?_⟩), F.bindsN fun _ _ _ _ _ _ us hl => match us, hl with | [_, _], _ => rfl⟩
  · obtain ⟨m, i, r, b, rfl, _⟩ := h
    rfl
  · obtain ⟨m, i, r, b, rfl, ⟨dx, wa, e1, W⟩, q⟩ := h
    have W' := W
    obtain ⟨wx, d1, d2, e2, e3⟩ := W'
    exact ⟨_, rfl, m, _, dx, _, _, rfl, e1, T.cl_Machine, T.no_Machine_world, rfl, wa, wx, _, rfl, e2, rfl, _, rfl, wa, i, rfl, W, q⟩
theorem S_len : LS.Sm P w K mg base 2 (ga K "Machine") "__len__" ["self"] (spLen K) := by
  obtain ⟨fd, F⟩ := T.f_Machine_UlenU
  have D_m_living := D_living (P := P) (w := w) T
  have hm := T.me_Machine_UlenU
  refine ⟨T.cl_Machine, _, fd, hm.1, hm.2, okN F sc_Machine_UlenU (fun vs H Q E h => ?_) (fun A outer s H vs Q E hr h => ⟨_, (pss_one (ps_ret (pe_callB call_len_seq (by rfl) T.n_len (by decide +kernel) (pa_cons (pe_methD0 (pe_fld (pv 0) rfl) D_m_living (hr.mono (by decide)) pass0) pa_nil)))), ?_⟩), F.bindsN fun _ _ _ _ _ _ us hl => match us, hl with | [_], _ => rfl⟩
  · obtain ⟨m, r, b, rfl, _⟩ := h
    rfl
  · obtain ⟨m, r, b, rfl, ⟨dx, wa, e1, W⟩, q⟩ := h
    have W' := W
    obtain ⟨wx, d1, d2, e2, e3⟩ := W'
    exact ⟨_, rfl, m, _, dx, _, _, rfl, e1, T.cl_Machine, T.no_Machine_world, rfl, wa, wx, _, rfl, e2, rfl, wa, rfl, W, fun H' t hs hn ht => ⟨t, _, rfl, .inr (SqT.of ht), q H' hs⟩⟩
theorem S_bool : LS.Sm P w K mg base 1 (ga K "Machine") "__bool__" ["self"] (spBool K) := by
  obtain ⟨fd, F⟩ := T.f_Machine_UboolU
  have hm := T.me_Machine_UboolU
  refine ⟨T.cl_Machine, _, fd, hm.1, hm.2, okN F sc_Machine_UboolU (fun vs H Q E h => ?_) (fun A outer s H vs Q E hr h => ⟨_, (pss_one (ps_ret pe_bl)), ?_⟩), F.bindsN fun _ _ _ _ _ _ us hl => match us, hl with | [_], _ => rfl⟩
  · obtain ⟨m, r, b, rfl, _⟩ := h
    rfl
  · obtain ⟨m, r, b, rfl, M, q⟩ := h
    exact q
/-- the attributes that are told -/
structure spGet (K : PySem.W.Frag) (g : Int → Int → Int) (vs : List V) (H : Hp) (Q : VK) (_E : XK) : Prop where
  h : ∃ m r b, vs = [.ref m] ∧ MO K H m r b ∧ Q (.int (g r b)) H
structure spProc (K : PySem.W.Frag) (vs : List V) (H : Hp) (Q : VK) (_E : XK) : Prop where
  h : ∃ m r b, vs = [.ref m] ∧ MO K H m r b ∧ ∀ H' t, Sam H H' → H t = none → H' t = some (.tup []) → Q (.ref t) H'
theorem D_p_frames : Pn P w K mg base CX0 1 (ga K "Machine") "frames" ["self"] (spGet K fun r _ => r) := by
  obtain ⟨fd, F⟩ := T.f_Machine_frames
  refine ⟨T.cl_Machine, _, _, fd, propB_ok T.e_prop_frames, okN F sc_Machine_frames (fun vs H Q E h => ?_) (fun A outer s H vs Q E hr h => ⟨_, (pss_one (ps_ret (pe_fld (pv 0) rfl))), ?_⟩), F.bindsN fun _ _ _ _ _ _ us hl => match us, hl with | [_], _ => rfl⟩
  · obtain ⟨m, r, b, rfl, _⟩ := h
    rfl
  · obtain ⟨m, r, b, rfl, ⟨dx, wa, e1, W⟩, q⟩ := h
    exact ⟨_, rfl, m, _, dx, _, _, rfl, e1, T.cl_Machine, T.no_Machine_room, rfl, q⟩
theorem D_p_limit : Pn P w K mg base CX0 1 (ga K "Machine") "limit" ["self"] (spGet K fun _ b => b) := by
  obtain ⟨fd, F⟩ := T.f_Machine_limit
  refine ⟨T.cl_Machine, _, _, fd, propB_ok T.e_prop_limit, okN F sc_Machine_limit (fun vs H Q E h => ?_) (fun A outer s H vs Q E hr h => ⟨_, (pss_one (ps_ret (pe_fld (pv 0) rfl))), ?_⟩), F.bindsN fun _ _ _ _ _ _ us hl => match us, hl with | [_], _ => rfl⟩
  · obtain ⟨m, r, b, rfl, _⟩ := h
    rfl
  · obtain ⟨m, r, b, rfl, ⟨dx, wa, e1, W⟩, q⟩ := h
    exact ⟨_, rfl, m, _, dx, _, _, rfl, e1, T.cl_Machine, T.no_Machine_bound, rfl, q⟩
theorem D_p_used : Pn P w K mg base CX0 1 (ga K "Machine") "used" ["self"] (spGet K fun _ _ => 0) := by
  obtain ⟨fd, F⟩ := T.f_Machine_used
  refine ⟨T.cl_Machine, _, _, fd, propB_ok T.e_prop_used, okN F sc_Machine_used (fun vs H Q E h => ?_) (fun A outer s H vs Q E hr h => ⟨_, (pss_one (ps_ret (pe_fld (pe_fld (pv 0) rfl) rfl))), ?_⟩), F.bindsN fun _ _ _ _ _ _ us hl => match us, hl with | [_], _ => rfl⟩
  · obtain ⟨m, r, b, rfl, _⟩ := h
    rfl
  · obtain ⟨m, r, b, rfl, ⟨dx, wa, e1, wx, d1, d2, e2, e3⟩, q⟩ := h
    exact ⟨_, rfl, m, _, dx, _, _, rfl, e1, T.cl_Machine, T.no_Machine_world, rfl, wa, _, wx, _, _, rfl, e2, T.cl_World, T.no_World_in_use, rfl, q⟩
theorem D_p_charges : Pn P w K mg base CX0 1 (ga K "Machine") "charges" ["self"] (spGet K fun _ _ => 0) := by
  obtain ⟨fd, F⟩ := T.f_Machine_charges
  refine ⟨T.cl_Machine, _, _, fd, propB_ok T.e_prop_charges, okN F sc_Machine_charges (fun vs H Q E h => ?_) (fun A outer s H vs Q E hr h => ⟨_, (pss_one (ps_ret (pe_fld (pe_fld (pv 0) rfl) rfl))), ?_⟩), F.bindsN fun _ _ _ _ _ _ us hl => match us, hl with | [_], _ => rfl⟩
  · obtain ⟨m, r, b, rfl, _⟩ := h
    rfl
  · obtain ⟨m, r, b, rfl, ⟨dx, wa, e1, wx, d1, d2, e2, e3⟩, q⟩ := h
    exact ⟨_, rfl, m, _, dx, _, _, rfl, e1, T.cl_Machine, T.no_Machine_world, rfl, wa, _, wx, _, _, rfl, e2, T.cl_World, T.no_World_charged, rfl, q⟩
theorem D_p_processes : Pn P w K mg base CX0 2 (ga K "Machine") "processes" ["self"] (spProc K) := by
  obtain ⟨fd, F⟩ := T.f_Machine_processes
  have D_m_living := D_living (P := P) (w := w) T
  refine ⟨T.cl_Machine, _, _, fd, propB_ok T.e_prop_processes, okN F sc_Machine_processes (fun vs H Q E h => ?_) (fun A outer s H vs Q E hr h => ⟨_, (pss_one (ps_ret (pe_methD0 (pe_fld (pv 0) rfl) D_m_living (hr.mono (by decide)) pass0))), ?_⟩), F.bindsN fun _ _ _ _ _ _ us hl => match us, hl with | [_], _ => rfl⟩
  · obtain ⟨m, r, b, rfl, _⟩ := h
    rfl
  · obtain ⟨m, r, b, rfl, ⟨dx, wa, e1, W⟩, q⟩ := h
    have W' := W
    obtain ⟨wx, d1, d2, e2, e3⟩ := W'
    exact ⟨_, rfl, m, _, dx, _, _, rfl, e1, T.cl_Machine, T.no_Machine_world, rfl, wa, wx, _, rfl, e2, rfl, wa, rfl, W, q⟩
end
end My
set_option Elab.async false
set_option linter.all false
set_option maxRecDepth 100000
set_option maxHeartbeats 4000000
/-! The law's draws. -/
namespace My
open PySem PySem.Spec PyProof.Rows L2 He HL LD LX LL LQ
/-- a purse: a state, digits, a count -/
def Pu (H : Hp) (p : Addr) : Prop := ∃ st dg c : Int, H p = some (.lst [.int st, .int dg, .int c]) ∧ 0 ≤ st ∧ st < 2147483029 ∧ 0 ≤ dg
structure spCell (K : PySem.W.Frag) (vs : List V) (H : Hp) (Q : VK) (_E : XK) : Prop where
  h : ∃ (a : Addr) (ns : List Int) (k : Int), vs = [.ref a, .int k] ∧ SqL K H a (ns.map V.int) ∧ 0 ≤ k ∧ k < 6 ∧ ∀ H' i, Sam H H' → Q (.int i) H'
structure spPurse (vs : List V) (H : Hp) (Q : VK) (_E : XK) : Prop where
  h : ∃ (i : Int), vs = [.int i] ∧ ∀ H' p, Sam H H' → H p = none → Pu H' p → Q (.ref p) H'
structure spPick (vs : List V) (H : Hp) (Q : VK) (_E : XK) : Prop where
  h : ∃ (p : Addr) (many : Int), vs = [.ref p, .int many] ∧ Pu H p ∧ 0 < many ∧ many < 1073741824 ∧ ∀ H' r, 0 ≤ r → r < many → SamX p H H' → Pu H' p → Q (.int r) H'
def big : Int := 10 ^ 40
structure spNumber (vs : List V) (H : Hp) (Q : VK) (_E : XK) : Prop where
  h : ∃ (p : Addr), vs = [.ref p] ∧ Pu H p ∧ ∀ H' r, 0 ≤ r → r < big → SamX p H H' → Pu H' p → Q (.int r) H'
/-- repr([x]) can be told -/
def Sml (d : PyData) : Prop := (PyData.list [d]).showable = true ∧ (PyData.list [d]).depth ≤ 40 ∧ (PyData.list [d]).shown.length ≤ 1000 ∧ (PyData.str (PyData.list [d]).shown).canLay0 = true
/-- x is no number, its data is d, while what came since H0 stays -/
def St (K : PySem.W.Frag) (H0 H : Hp) (x : V) (d : PyData) : Prop := ∀ H', (∀ b o, H0 b = none → H b = some o → (∀ ps, o ≠ .tbl ps) → H' b = some o) → NotNum K H' x ∧ LR.Dr K H' x d
theorem none_of {H H' : Hp} {b : Addr} (s : Sam H H') (n : H' b = none) : H b = none := by
  cases e : H b with
  | none => rfl
  | some o => exact absurd ((s _ _ e).symm.trans n) (by simp)
structure spThing (K : PySem.W.Frag) (vs : List V) (H : Hp) (Q : VK) (_E : XK) : Prop where
  h : ∃ (p : Addr), vs = [.ref p] ∧ Pu H p ∧ ∀ H' x d, St K H H' x d → x ≠ .non → Sml d → SamX p H H' → Pu H' p → Q x H'
theorem mod_lt {i : Int} : 0 ≤ i % 2147483029 ∧ i % 2147483029 < 2147483029 := ⟨Int.emod_nonneg _ (by decide), Int.emod_lt_of_pos _ (by decide)⟩
section
variable {P : Program} {w : World} {K : PySem.W.Frag} {mg : PySem.Str → Option Value} {base : Heap} (T : Tx K mg base)
include T
theorem D_law_cell : Dn P w K mg base CX0 1 "_law_cell" ["_law_cells", "_law_k"] (spCell K) := by
  obtain ⟨fd, F⟩ := T.f_law_cell
  have nd := sc_law_cell.nd
  refine ⟨_, fd, T.g_law_cell, F.kp, okN F sc_law_cell (fun vs H Q E h => ?_) (fun A outer s H vs Q E hr h => ⟨_, (pss_cons (ps_if (pt_cmpR op_lt (pv 1) (pe_callB call_len_seq (by rfl) T.n_len (by decide +kernel) (pa_cons (pv 0) pa_nil)) (nomark _)) (pss_one (ps_ret (pe_ix ix_list (pv 0) (pv 1) (fun _ _ => rfl)))) pss_nil)
      (pss_cons (ps_set (i := 2) nd rfl (by first | exact Or.inl rfl | exact Or.inr rfl) (pe_op op_mul (pe_op op_mul pe_int (pe_op op_add (pv 1) pe_int)) (pe_op op_add (pv 1) pe_int)))
      (pss_cons (ps_for passB rfl (pi_list (pe_slice sl_list (pv 0) po_none (po_some pe_int))) (pg_name (i := 3) nd rfl (by first | exact Or.inl rfl | exact Or.inr rfl)) (pss_one (ps_set (i := 2) nd rfl (by first | exact Or.inl rfl | exact Or.inr rfl) (pe_op op_mod (pe_callTy call_int1 (by rfl) T.n_int (by decide +kernel) (pa_cons (pe_op op_add (pe_op op_mul (pv 2) pe_int) (pv 3)) pa_nil)) pe_int))))
      (pss_one (ps_ret (pv 2)))))), ?_⟩), F.bindsN fun _ _ _ _ _ _ us hl => match us, hl with | [_, _], _ => rfl⟩
  · obtain ⟨a, ns, k, rfl, _⟩ := h
    rfl
  · obtain ⟨a, ns, k, rfl, S, k0, k6, q⟩ := h
    refine ⟨_, rfl, _, rfl, a, _, rfl, .inl S, _, _, rfl, rfl, _, rfl, ?_⟩
    refine ite2 (fun hk => ?_) (fun hk => ?_)
    · have hk := of_decide_eq_true hk
      rw [List.length_map] at hk
      obtain ⟨j, rfl⟩ := Int.eq_ofNat_of_zero_le k0
      have hj : j < ns.length := by omega
      exact ⟨_, rfl, _, rfl, a, _, _, .int ns[j], rfl, rfl, S, atI_nat (by rw [List.getElem?_map, List.getElem?_eq_getElem hj]; rfl), q H _ .rf⟩
    · refine ⟨_, rfl, _, _, rfl, rfl, _, _, rfl, rfl, .inl ⟨by decide, by decide⟩, _, rfl, _, _, rfl, rfl, _, _, rfl, rfl, .inl ⟨by omega, by omega⟩, ?_⟩
      refine ⟨_, rfl, _, rfl, a, _, rfl, S, fun p hp => ⟨p, rfl, ⟨_, SqL.of upd_same⟩, ?_⟩⟩
      refine for_list (xs := cutV (ns.map V.int) none (some 4)) (fun i σ H' => ∃ m w, σ = [some (.ref a), some (.int k), some (.int m), w] ∧ -(2 ^ 64) < m ∧ m < 2 ^ 64 ∧ Sam H H' ∧ H' p = some (.lst (cutV (ns.map V.int) none (some 4)))) ?_ ?_ ?_ ?_
      · have hb : -(2 ^ 64) < 104729 * (k + 3) * (k + 3) ∧ 104729 * (k + 3) * (k + 3) < 2 ^ 64 := by
          rcases (by omega : k = 0 ∨ k = 1 ∨ k = 2 ∨ k = 3 ∨ k = 4 ∨ k = 5) with rfl | rfl | rfl | rfl | rfl | rfl <;> decide
        exact ⟨_, none, rfl, hb.1, hb.2, .new hp, upd_same⟩
      · rintro i σ H' _ ⟨m, w, rfl, _, _, _, e⟩
        exact SqL.of e
      · rintro i x σ H' hx ⟨m, w, rfl, h1, h2, h3, e⟩
        obtain ⟨z, rfl⟩ : ∃ z, x = .int z := by
          have := List.mem_of_getElem? hx
          unfold cutV at this
          have := List.mem_of_mem_drop (List.mem_of_mem_take this)
          obtain ⟨z, _, e⟩ := List.mem_map.mp this
          exact ⟨z, e.symm⟩
        refine ⟨_, rfl, _, _, rfl, rfl, .inl ⟨h1, h2⟩, _, rfl, _, _, rfl, rfl, .inl ⟨_, rfl, _, _, rfl, rfl, (by show (0 : Int) < 2147483029; decide), _, _, rfl, ?_, ?_, h3, e⟩⟩
        · have := (mod_lt (i := m * 52361 + z)).1
          omega
        · have := (mod_lt (i := m * 52361 + z)).2
          omega
      · rintro σ H' ⟨m, w, rfl, h1, h2, h3, e⟩
        exact ⟨_, rfl, q _ _ h3⟩
theorem D_law_purse : Dn P w K mg base CX0 1 "_law_purse" ["_law_figure"] spPurse := by
  obtain ⟨fd, F⟩ := T.f_law_purse
  have nd := sc_law_purse.nd
  refine ⟨_, fd, T.g_law_purse, F.kp, okN F sc_law_purse (fun vs H Q E h => ?_) (fun A outer s H vs Q E hr h => ⟨_, (pss_cons (ps_set (i := 1) nd rfl (by first | exact Or.inl rfl | exact Or.inr rfl) (pe_ifExp (PW.pt (pw_or (pt_cmpR op_lt (pv 0) pe_int (nomark _)) (pw_or1 (pt_cmpR op_ge (pv 0) (pe_op op_pow pe_int pe_int) (nomark _))))) (pe_callB call_abs (by rfl) T.n_abs (by decide +kernel) (pa_cons (pv 0) pa_nil)) pe_int))
      (pss_one (ps_ret (pe_lst (pa_cons (pe_op op_mod (pe_callTy call_int1 (by rfl) T.n_int (by decide +kernel) (pa_cons (pv 0) pa_nil)) pe_int) (pa_cons (pv 1) (pa_cons pe_int pa_nil))))))), ?_⟩), F.bindsN fun _ _ _ _ _ _ us hl => match us, hl with | [_], _ => rfl⟩
  · obtain ⟨i, rfl, _⟩ := h
    rfl
  · obtain ⟨i, rfl, q⟩ := h
    have ab : 0 ≤ (if i < 0 then -i else i) := by
      split <;> omega
    refine ⟨_, rfl, _, _, rfl, rfl, _, rfl, ?_⟩
    refine ite2 (fun h1 => iteT ⟨_, rfl, _, rfl, ⟨_, rfl, .inl ⟨_, rfl, _, _, rfl, rfl, (by show (0 : Int) < 2147483029; decide), _, rfl, (by show 3 ≤ sizeLine; decide), fun l hl => q _ l (.new hl) hl ⟨_, _, 0, upd_same, mod_lt.1, mod_lt.2, ab⟩⟩⟩⟩) (fun h1 => ⟨_, rfl, _, _, rfl, rfl, ⟨by decide, by decide, by decide⟩, _, _, rfl, rfl, _, rfl, ?_⟩)
    exact ite2 (fun h2 => ⟨_, rfl, _, rfl, ⟨_, rfl, .inl ⟨_, rfl, _, _, rfl, rfl, (by show (0 : Int) < 2147483029; decide), _, rfl, (by show 3 ≤ sizeLine; decide), fun l hl => q _ l (.new hl) hl ⟨_, _, 0, upd_same, mod_lt.1, mod_lt.2, ab⟩⟩⟩⟩) (fun h2 => ⟨_, rfl, .inl ⟨_, rfl, _, _, rfl, rfl, (by show (0 : Int) < 2147483029; decide), _, rfl, (by show 3 ≤ sizeLine; decide), fun l hl => q _ l (.new hl) hl ⟨_, 0, 0, upd_same, mod_lt.1, mod_lt.2, by decide⟩⟩⟩)
theorem D_law_pick : Dn P w K mg base CX0 1 "_law_pick" ["_law_purse_here", "_law_many"] spPick := by
  obtain ⟨fd, F⟩ := T.f_law_pick
  have nd := sc_law_pick.nd
  refine ⟨_, fd, T.g_law_pick, F.kp, okN F sc_law_pick (fun vs H Q E h => ?_) (fun A outer s H vs Q E hr h => ⟨_, (pss_cons (ps_asg (pe_op op_add (pe_ix ix_list (pv 0) pe_int (fun _ _ => rfl)) pe_int) (pg_sub (pv 0) pe_int set_list))
      (pss_cons (ps_set (i := 2) nd rfl (by first | exact Or.inl rfl | exact Or.inr rfl) (pe_callTy call_int1 (by rfl) T.n_int (by decide +kernel) (pa_cons (pe_ix ix_list (pv 0) pe_int (fun _ _ => rfl)) pa_nil)))
      (pss_cons (ps_set (i := 3) nd rfl (by first | exact Or.inl rfl | exact Or.inr rfl) (pe_op op_add (pe_op op_mod (pe_callTy call_int1 (by rfl) T.n_int (by decide +kernel) (pa_cons (pv 2) pa_nil)) pe_int) pe_int))
      (pss_cons (ps_asg (pe_op op_mod (pe_callTy call_int1 (by rfl) T.n_int (by decide +kernel) (pa_cons (pe_op op_add (pe_op op_add (pe_op op_mul (pv 2) (pv 3)) (pe_op op_mul pe_int (pe_ix ix_list (pv 0) pe_int (fun _ _ => rfl)))) pe_int) pa_nil)) pe_int) (pg_sub (pv 0) pe_int set_list))
      (pss_cons (ps_if (pt_cmpR op_gt (pe_ix ix_list (pv 0) pe_int (fun _ _ => rfl)) pe_int (nomark _)) (pss_cons (ps_asg (pe_callB call_divmod (by rfl) T.n_divmod (by decide +kernel) (pa_cons (pe_ix ix_list (pv 0) pe_int (fun _ _ => rfl)) (pa_cons (pv 1) pa_nil))) (pg_tup (by rfl) (pgs_cons (pg_sub (pv 0) pe_int set_list) (pgs_cons (pg_name (i := 4) nd rfl (by first | exact Or.inl rfl | exact Or.inr rfl)) pgs_nil))))
      (pss_one (ps_ret (pv 4)))) pss_nil)
      (pss_one (ps_ret (pe_op op_mod (pe_callTy call_int1 (by rfl) T.n_int (by decide +kernel) (pa_cons (pe_op op_fdiv (pe_ix ix_list (pv 0) pe_int (fun _ _ => rfl)) pe_int) pa_nil)) (pv 1))))))))), ?_⟩), F.bindsN fun _ _ _ _ _ _ us hl => match us, hl with | [_, _], _ => rfl⟩
  · obtain ⟨p, many, rfl, _⟩ := h
    rfl
  · obtain ⟨p, many, rfl, ⟨st, dg, c, e, s0, s1, d0⟩, m0, m1, q⟩ := h
    have t1 := Int.emod_nonneg st (show (50021 : Int) ≠ 0 by decide)
    have sx : ∀ {o : HO}, SamX p H (upd H p o) := fun b u n z => by rw [upd_ne n]; exact z
    refine ⟨_, rfl, p, _, 2, _, rfl, rfl, SqL.of e, rfl, _, _, rfl, rfl, _, rfl, p, _, _, 2, rfl, rfl, e, rfl, ?_⟩
    refine ⟨_, rfl, p, _, 0, _, rfl, rfl, SqL.of upd_same, rfl, .inl ⟨_, rfl, ?_⟩⟩
    refine ⟨_, rfl, .inl ⟨_, rfl, _, _, rfl, rfl, (by show (0 : Int) < 50021; decide), _, _, rfl, rfl, ?_⟩⟩
    refine ⟨_, rfl, _, rfl, _, _, rfl, rfl, .inl ⟨by omega, by omega⟩, _, rfl, p, _, 2, _, rfl, rfl, SqL.of upd_same, rfl, _, _, rfl, rfl, .inl ⟨by decide, by decide⟩, _, _, rfl, rfl, _, _, rfl, rfl, .inl ⟨_, rfl, _, _, rfl, rfl, (by show (0 : Int) < 2147483029; decide), ?_⟩⟩
    refine ⟨_, rfl, p, _, _, 0, rfl, rfl, upd_same, rfl, ?_⟩
    refine ⟨_, rfl, p, _, 1, _, rfl, rfl, SqL.of upd_same, rfl, _, _, rfl, rfl, _, rfl, ?_⟩
    refine ite2 (fun h1 => ?_) (fun h1 => ?_)
    · have h1 : dg > 0 := of_decide_eq_true h1
      refine ⟨_, rfl, p, _, 1, _, rfl, rfl, SqL.of upd_same, rfl, _, rfl, _, _, rfl, ⟨m0, m1⟩, fun t ht => ?_⟩
      have ne : t ≠ p := fun z => by
        rw [z, upd_same] at ht
        cases ht
      refine ⟨t, _, rfl, SqT.of upd_same, rfl, _, _, rfl, _, rfl, p, _, _, 1, rfl, rfl, (upd_ne ne.symm).trans upd_same, rfl, _, _, rfl, rfl, _, rfl, ?_⟩
      refine q _ _ (Int.emod_nonneg _ (by omega)) (Int.emod_lt_of_pos _ m0) (fun b u n z => ?_) ⟨_, _, _, upd_same, mod_lt.1, mod_lt.2, Int.ediv_nonneg (by omega) (by omega)⟩
      have nt : b ≠ t := fun y => by
        rw [← y, upd_ne n, upd_ne n, z] at ht
        cases ht
      rw [upd_ne n, upd_ne nt, upd_ne n, upd_ne n]
      exact z
    · refine ⟨_, rfl, p, _, 0, _, rfl, rfl, SqL.of upd_same, rfl, _, _, rfl, rfl, ⟨by decide, by decide⟩, ?_⟩
      refine .inl ⟨_, rfl, _, rfl, _, _, rfl, rfl, m0, ?_⟩
      refine q _ _ (Int.emod_nonneg _ (by omega)) (Int.emod_lt_of_pos _ m0) (fun b u n z => ?_) ⟨_, _, _, upd_same, mod_lt.1, mod_lt.2, d0⟩
      rw [upd_ne n, upd_ne n]
      exact z
theorem D_law_number : Dn P w K mg base CX0 2 "_law_number" ["_law_purse_here"] spNumber := by
  obtain ⟨fd, F⟩ := T.f_law_number
  have nd := sc_law_number.nd
  have D_law_pick := D_law_pick (P := P) (w := w) T
  refine ⟨_, fd, T.g_law_number, F.kp, okN F sc_law_number (fun vs H Q E h => ?_) (fun A outer s H vs Q E hr h => ⟨_, (pss_cons (ps_set (i := 1) nd rfl (by first | exact Or.inl rfl | exact Or.inr rfl) (pe_ix ix_list (pe_lst (pa_cons pe_int (pa_cons pe_int (pa_cons pe_int (pa_cons (pe_op op_pow pe_int pe_int) (pa_cons (pe_op op_pow pe_int pe_int) (pa_cons (pe_op op_pow pe_int pe_int) (pa_cons (pe_op op_pow pe_int pe_int) (pa_cons (pe_op op_pow pe_int pe_int) pa_nil))))))))) (pe_callD D_law_pick (hr.mono (by decide)) pass0 (pa_cons (pv 0) (pa_cons pe_int pa_nil))) (fun _ _ => rfl)))
      (pss_one (ps_ret (pe_op op_add (pe_op op_mul (pv 1) (pe_callD D_law_pick (hr.mono (by decide)) pass0 (pa_cons (pv 0) (pa_cons pe_int pa_nil)))) (pe_callD D_law_pick (hr.mono (by decide)) pass0 (pa_cons (pv 0) (pa_cons pe_int pa_nil))))))), ?_⟩), F.bindsN fun _ _ _ _ _ _ us hl => match us, hl with | [_], _ => rfl⟩
  · obtain ⟨p, rfl, _⟩ := h
    rfl
  · obtain ⟨p, rfl, pu, q⟩ := h
    have pw : ∀ i : Int, 0 ≤ i → i ≤ 1000 → CPow 10 i := fun i h1 h2 => ⟨h1, by omega, by decide⟩
    refine ⟨_, _, rfl, rfl, pw _ (by decide) (by decide), _, _, rfl, rfl, pw _ (by decide) (by decide), _, _, rfl, rfl, pw _ (by decide) (by decide), _, _, rfl, rfl, pw _ (by decide) (by decide), _, _, rfl, rfl, pw _ (by decide) (by decide), (by show 8 ≤ sizeLine; decide), fun l hl => ?_⟩
    have np : l ≠ p := fun z => by
      obtain ⟨_, _, _, e, _⟩ := pu
      rw [z, e] at hl
      cases hl
    have pu1 : Pu (upd H l (.lst [.int 1, .int 1, .int 10, .int (10 ^ (6 : Int).toNat), .int (10 ^ (18 : Int).toNat), .int (10 ^ (30 : Int).toNat), .int (10 ^ (38 : Int).toNat), .int (10 ^ (38 : Int).toNat)])) p := by
      obtain ⟨st, dg, c, e, r⟩ := pu
      exact ⟨st, dg, c, by rw [upd_ne np.symm]; exact e, r⟩
    refine ⟨_, rfl, p, 8, rfl, pu1, by decide, by decide, fun H1 r r0 r8 sx pu2 => ?_⟩
    obtain ⟨v, hv, v0, v38⟩ : ∃ v : Int, ([.int 1, .int 1, .int 10, .int (10 ^ (6 : Int).toNat), .int (10 ^ (18 : Int).toNat), .int (10 ^ (30 : Int).toNat), .int (10 ^ (38 : Int).toNat), .int (10 ^ (38 : Int).toNat)] : List V)[r.toNat]? = some (.int v) ∧ 0 ≤ v ∧ v ≤ 10 ^ 38 := by
      rcases (by omega : r = 0 ∨ r = 1 ∨ r = 2 ∨ r = 3 ∨ r = 4 ∨ r = 5 ∨ r = 6 ∨ r = 7) with rfl | rfl | rfl | rfl | rfl | rfl | rfl | rfl <;> exact ⟨_, rfl, by decide, by decide⟩
    refine ⟨l, _, r, .int v, rfl, rfl, SqL.of (sx l _ np upd_same), ?_, ?_⟩
    · have := atI_nat hv
      rwa [Int.toNat_of_nonneg r0] at this
    · refine ⟨_, rfl, _, rfl, p, 10, rfl, pu2, by decide, by decide, fun H2 r2 a0 a1 sx2 pu3 => ⟨_, _, rfl, rfl, .inr ⟨by omega, by omega⟩, _, rfl, p, 7, rfl, pu3, by decide, by decide, fun H3 r3 b0 b1 sx3 pu4 => ?_⟩⟩
      refine ⟨_, _, rfl, rfl, q H3 _ ?_ ?_ ?_ pu4⟩
      · have := Int.mul_nonneg v0 a0
        omega
      · have := Int.mul_le_mul v38 (show r2 ≤ 9 by omega) a0 (by decide)
        unfold big
        omega
      · have sl : SamX p H (upd H l (.lst [.int 1, .int 1, .int 10, .int (10 ^ (6 : Int).toNat), .int (10 ^ (18 : Int).toNat), .int (10 ^ (30 : Int).toNat), .int (10 ^ (38 : Int).toNat), .int (10 ^ (38 : Int).toNat)])) := (Sam.new hl).x
        exact ((sl.tr sx).tr sx2).tr sx3
theorem D_law_thing : Dn P w K mg base CX0 2 "_law_thing" ["_law_purse_here"] (spThing K) := by
  obtain ⟨fd, F⟩ := T.f_law_thing
  have nd := sc_law_thing.nd
  have D_law_pick := D_law_pick (P := P) (w := w) T
  refine ⟨_, fd, T.g_law_thing, F.kp, okN F sc_law_thing (fun vs H Q E h => ?_) (fun A outer s H vs Q E hr h => ⟨_, (pss_cons (ps_set (i := 1) nd rfl (by first | exact Or.inl rfl | exact Or.inr rfl) (pe_lst (pa_cons pe_bl (pa_cons pe_bl (pa_cons (pe_un un_neg pe_int) (pa_cons pe_str (pa_cons pe_str (pa_cons (pe_tup pa_nil) (pa_cons (pe_tup (pa_cons pe_int pa_nil)) (pa_cons (pe_lst (pa_cons pe_int pa_nil)) (pa_cons (pe_lst pa_nil) (pa_cons pe_dnewK (pa_cons (pe_disp (pps_cons pe_int pe_int pps_nil) (by rfl) (by rfl) (fun z => by cases z) (by decide)) (pa_cons (pe_un un_neg (pe_op op_pow pe_int pe_int)) pa_nil))))))))))))))
      (pss_one (ps_ret (pe_ix ix_list (pv 1) (pe_callD D_law_pick (hr.mono (by decide)) pass0 (pa_cons (pv 0) (pa_cons pe_int pa_nil))) (fun _ _ => rfl))))), ?_⟩), F.bindsN fun _ _ _ _ _ _ us hl => match us, hl with | [_], _ => rfl⟩
  · obtain ⟨p, rfl, _⟩ := h
    rfl
  · obtain ⟨p, rfl, pu, q⟩ := h
    refine ⟨_, rfl, (by show 0 ≤ sizeLine; decide), fun t1 n1 => ⟨(by show 1 ≤ sizeLine; decide), fun t2 n2 => ⟨(by show 1 ≤ sizeLine; decide), fun l1 n3 => ⟨(by show 0 ≤ sizeLine; decide), fun l2 n4 => fun d1 n5 => fun d2 n6 => ?_⟩⟩⟩⟩
    refine ⟨upd_same, [(Sum.inl 1, .int 2)], rfl, by decide, ?_⟩
    refine ⟨_, _, rfl, rfl, ⟨by decide, by decide, by decide⟩, _, rfl, (by show 12 ≤ sizeLine; decide), fun L n7 => ?_⟩
    have s1 := Sam.new (o := .tup []) n1
    have s2 := Sam.new (o := .tup [.int 5]) n2
    have s3 := Sam.new (o := .lst [.int 3]) n3
    have s4 := Sam.new (o := .lst []) n4
    have s5 := Sam.new (o := .dK []) n5
    have s6 := Sam.new2 (o := .dK []) (u := .dK (mergeK [] [(Sum.inl 1, .int 2)])) n6
    have s7 := Sam.new (o := .lst [.bl true, .bl false, .int (-1), .str "7", .str "", .ref t1, .ref t2, .ref l1, .ref l2, .ref d1, .ref d2, .int (-(10 ^ (38 : Int).toNat))]) n7
    have a6 := s7
    have a5 := s6.tr a6
    have a4 := s5.tr a5
    have a3 := s4.tr a4
    have a2 := s3.tr a3
    have a1 := s2.tr a2
    have a0 := s1.tr a1
    have pu' := pu
    obtain ⟨st, dg, c, ep, pr⟩ := pu'
    have nep : ∀ {b : Addr} {Hx : Hp}, Sam H Hx → Hx b = none → b ≠ p := fun {b Hx} sm e z => by
      rw [z, sm _ _ ep] at e
      cases e
    have z1 := n1
    have z2 := none_of s1 n2
    have z3 := none_of (s1.tr s2) n3
    have z4 := none_of ((s1.tr s2).tr s3) n4
    have z5 := none_of (((s1.tr s2).tr s3).tr s4) n5
    have z6 := none_of ((((s1.tr s2).tr s3).tr s4).tr s5) n6
    have m1 : t1 ≠ p := nep .rf n1
    have m2 : t2 ≠ p := nep s1 n2
    have m3 : l1 ≠ p := nep (s1.tr s2) n3
    have m4 : l2 ≠ p := nep ((s1.tr s2).tr s3) n4
    have m5 : d1 ≠ p := nep (((s1.tr s2).tr s3).tr s4) n5
    have m6 : d2 ≠ p := nep ((((s1.tr s2).tr s3).tr s4).tr s5) n6
    have m7 : L ≠ p := nep (((((s1.tr s2).tr s3).tr s4).tr s5).tr s6) n7
    refine ⟨_, rfl, _, rfl, p, 12, rfl, ⟨st, dg, c, a0 _ _ ep, pr⟩, by decide, by decide, fun H' r r0 r12 sx pu2 => ?_⟩
    have e1 := sx _ _ m1 (a1 _ _ upd_same)
    have e2 := sx _ _ m2 (a2 _ _ upd_same)
    have e3 := sx _ _ m3 (a3 _ _ upd_same)
    have e4 := sx _ _ m4 (a4 _ _ upd_same)
    have e5 := sx _ _ m5 (a5 _ _ upd_same)
    have e6 := sx _ _ m6 (a6 _ _ upd_same)
    have e7 := sx _ _ m7 upd_same
    have hx : ∃ x d, ([.bl true, .bl false, .int (-1), .str "7", .str "", .ref t1, .ref t2, .ref l1, .ref l2, .ref d1, .ref d2, .int (-(10 ^ (38 : Int).toNat))] : List V)[r.toNat]? = some x ∧ x ≠ .non ∧ Sml d ∧ St K H H' x d := by
      rcases (by omega : r = 0 ∨ r = 1 ∨ r = 2 ∨ r = 3 ∨ r = 4 ∨ r = 5 ∨ r = 6 ∨ r = 7 ∨ r = 8 ∨ r = 9 ∨ r = 10 ∨ r = 11) with rfl | rfl | rfl | rfl | rfl | rfl | rfl | rfl | rfl | rfl | rfl | rfl
      · exact ⟨_, .bool true, rfl, (fun z => by cases z), ⟨by decide +kernel, by decide +kernel, by decide +kernel, by decide +kernel⟩, fun H'' k => ⟨.inr (.inl (.base (.bl _))), .bl _⟩⟩
      · exact ⟨_, .bool false, rfl, (fun z => by cases z), ⟨by decide +kernel, by decide +kernel, by decide +kernel, by decide +kernel⟩, fun H'' k => ⟨.inr (.inl (.base (.bl _))), .bl _⟩⟩
      · exact ⟨_, .int (-1), rfl, (fun z => by cases z), ⟨by decide +kernel, by decide +kernel, by decide +kernel, by decide +kernel⟩, fun H'' k => ⟨.inl ⟨_, rfl, by decide⟩, .int _⟩⟩
      · exact ⟨_, .str "7", rfl, (fun z => by cases z), ⟨by decide +kernel, by decide +kernel, by decide +kernel, by decide +kernel⟩, fun H'' k => ⟨.inr (.inr (.inr (.inl (.base (.str _))))), .str _⟩⟩
      · exact ⟨_, .str "", rfl, (fun z => by cases z), ⟨by decide +kernel, by decide +kernel, by decide +kernel, by decide +kernel⟩, fun H'' k => ⟨.inr (.inr (.inr (.inl (.base (.str _))))), .str _⟩⟩
      · exact ⟨_, .tuple [], rfl, (fun z => by cases z), ⟨by decide +kernel, by decide +kernel, by decide +kernel, by decide +kernel⟩, fun H'' k => ⟨.inr (.inr (.inr (.inr (.inl (.base (.tup (k _ _ z1 e1 (fun _ z => by cases z)))))))), .tup (SqT.of (k _ _ z1 e1 (fun _ z => by cases z))) .nil⟩⟩
      · exact ⟨_, .tuple [.int 5], rfl, (fun z => by cases z), ⟨by decide +kernel, by decide +kernel, by decide +kernel, by decide +kernel⟩, fun H'' k => ⟨.inr (.inr (.inr (.inr (.inl (.base (.tup (k _ _ z2 e2 (fun _ z => by cases z)))))))), .tup (SqT.of (k _ _ z2 e2 (fun _ z => by cases z))) (.cons (.int _) .nil)⟩⟩
      · exact ⟨_, .list [.int 3], rfl, (fun z => by cases z), ⟨by decide +kernel, by decide +kernel, by decide +kernel, by decide +kernel⟩, fun H'' k => ⟨.inr (.inr (.inr (.inr (.inr (.inl (.base (.lst (k _ _ z3 e3 (fun _ z => by cases z))))))))), .lst (SqL.of (k _ _ z3 e3 (fun _ z => by cases z))) (.cons (.int _) .nil)⟩⟩
      · exact ⟨_, .list [], rfl, (fun z => by cases z), ⟨by decide +kernel, by decide +kernel, by decide +kernel, by decide +kernel⟩, fun H'' k => ⟨.inr (.inr (.inr (.inr (.inr (.inl (.base (.lst (k _ _ z4 e4 (fun _ z => by cases z))))))))), .lst (SqL.of (k _ _ z4 e4 (fun _ z => by cases z))) .nil⟩⟩
      · exact ⟨_, .dict [], rfl, (fun z => by cases z), ⟨by decide +kernel, by decide +kernel, by decide +kernel, by decide +kernel⟩, fun H'' k => ⟨.inr (.inr (.inr (.inr (.inr (.inr (.base (.dK (k _ _ z5 e5 (fun _ z => by cases z))))))))), .dic (k _ _ z5 e5 (fun _ z => by cases z)) rfl .nil⟩⟩
      · exact ⟨_, .dict [(.int 1, .int 2)], rfl, (fun z => by cases z), ⟨by decide +kernel, by decide +kernel, by decide +kernel, by decide +kernel⟩, fun H'' k => ⟨.inr (.inr (.inr (.inr (.inr (.inr (.base (.dK (k _ _ z6 e6 (fun _ z => by cases z))))))))), .dic (k _ _ z6 e6 (fun _ z => by cases z)) rfl (.cons (.int _) .nil)⟩⟩
      · exact ⟨_, .int (-(10 ^ (38 : Int).toNat)), rfl, (fun z => by cases z), ⟨by decide +kernel, by decide +kernel, by decide +kernel, by decide +kernel⟩, fun H'' k => ⟨.inl ⟨_, rfl, by decide⟩, .int _⟩⟩
    obtain ⟨x, d, hx, h1, h2, h3⟩ := hx
    have at_ := atI_nat hx
    rw [Int.toNat_of_nonneg r0] at at_
    exact ⟨L, _, r, x, rfl, rfl, SqL.of e7, at_, q H' x d h3 h1 h2 (a0.x.tr sx) pu2⟩
end
end My
set_option Elab.async false
set_option linter.all false
set_option maxRecDepth 100000
set_option maxHeartbeats 4000000
/-! What a fresh machine tells; the law's telling of errors. -/
namespace My
open PySem PySem.Spec PyProof.Rows L2 He HL LD LX LL LQ
theorem textFrom_up : ∀ (ts : List PySem.Str) (k : Nat) (acc : PySem.Str) (n : Nat), (∀ t ∈ ts, t.length ≤ n) → (textFrom k acc ts).length ≤ acc.length + ts.length * (n + 2)
  | [], k, acc, n, _ => Nat.le_add_right _ _
  | t :: r, k, acc, n, h => by
    have ih := textFrom_up r (k + 1) (acc ++ (if k > 0 then ", " else "" : String) ++ t) n fun x hx => h x (List.mem_cons_of_mem _ hx)
    have e1 : (acc ++ (PySem.Str.ofString (if k > 0 then ", " else "")) ++ t).length = acc.length + (PySem.Str.ofString (if k > 0 then ", " else "")).length + t.length := by
      rw [Str.length_append, Str.length_append]
    have e2 : (PySem.Str.ofString (if k > 0 then ", " else "")).length ≤ 2 := by
      split <;> decide
    have e3 := h t List.mem_cons_self
    rw [e1] at ih
    rw [List.length_cons, Nat.add_mul]
    refine Nat.le_trans ih ?_
    omega
theorem listText_up {ts : List PySem.Str} {n : Nat} (h : ∀ t ∈ ts, t.length ≤ n) : (listText ts).length ≤ 2 + ts.length * (n + 2) := by
  unfold listText
  rw [Str.length_append]
  have := textFrom_up ts 0 "[" n h
  have e : ("[" : PySem.Str).length = 1 := by decide
  have e' : ("]" : PySem.Str).length = 1 := by decide
  omega
/-- what _law_fresh tells -/
def dFresh (r b : Int) : PyData := .list [.int r, .int b, .int 0, .int 0, .tuple [], .int 0, .bool false, .bool true]
theorem log_big {r : Int} (h0 : 0 ≤ r) (h : r < big) : r.natAbs.log2 < 1920 := by
  have h1 : r.natAbs < 10 ^ 40 := by unfold big at h; omega
  by_cases hz : r.natAbs = 0
  · rw [hz]; decide
  · rw [Nat.log2_lt hz]
    exact Nat.lt_trans h1 (by decide)
theorem fresh_ok {r b : Int} (r0 : 0 ≤ r) (r1 : r < big) (b0 : 0 ≤ b) (b1 : b < big) : (dFresh r b).showable = true ∧ (dFresh r b).depth ≤ 40 ∧ (dFresh r b).shown.length ≤ sizeLine := by
  refine ⟨?_, (by show 2 ≤ 40; decide), ?_⟩
  · have e1 := log_big r0 r1
    have e2 := log_big b0 b1
    simp [dFresh, PyData.showable, PyData.showableAll, e1, e2]
  · have k1 := toString_length_le r0 (k := 40) (by decide) r1
    have k2 := toString_length_le b0 (k := 40) (by decide) b1
    have h := listText_up (ts := PyData.shownAll [.int r, .int b, .int 0, .int 0, .tuple [], .int 0, .bool false, .bool true]) (n := 40) (fun t ht => by
      simp only [PyData.shownAll, List.mem_cons, List.not_mem_nil, or_false] at ht
      rcases ht with rfl | rfl | rfl | rfl | rfl | rfl | rfl | rfl
      · simpa only [PyData.shown] using k1
      · simpa only [PyData.shown] using k2
      all_goals decide +kernel)
    refine Nat.le_trans h ?_
    rw [sizeLine_eq]
    show 2 + 8 * 42 ≤ _
    decide
structure spFresh (K : PySem.W.Frag) (vs : List V) (H : Hp) (Q : VK) (_E : XK) : Prop where
  h : ∃ (m : Addr) (r b : Int), vs = [.ref m, .int r, .int b] ∧ MO K H m r b ∧ 0 ≤ r ∧ r < big ∧ 0 ≤ b ∧ b < big ∧ ∀ H', Sam H H' → Q (.bl true) H'
section
variable {P : Program} {w : World} {K : PySem.W.Frag} {mg : PySem.Str → Option Value} {base : Heap} (T : Tx K mg base)
include T
theorem D_law_fresh : Gn P w K mg base CX0 4 "_law_fresh" ["_law_mine", "_law_room", "_law_bound"] (spFresh K) := by
  obtain ⟨fd, F⟩ := T.f_law_fresh
  have nd := sc_law_fresh.nd
  have D_p_frames := D_p_frames (P := P) (w := w) T
  have D_p_limit := D_p_limit (P := P) (w := w) T
  have D_p_used := D_p_used (P := P) (w := w) T
  have D_p_charges := D_p_charges (P := P) (w := w) T
  have D_p_processes := D_p_processes (P := P) (w := w) T
  have S_len := S_len (P := P) (w := w) T
  have S_bool := S_bool (P := P) (w := w) T
  have S_contains := S_contains (P := P) (w := w) T
  refine ⟨_, fd, T.g_law_fresh, F.kp, okG F sc_law_fresh (fun vs H Q E h => ?_) (fun A outer s H vs Q E hr hgu h => ⟨_, (pss_cons (ps_set (i := 3) nd rfl (by first | exact Or.inl rfl | exact Or.inr rfl) (pe_lst (pa_cons (pe_propD (pv 0) D_p_frames (hr.mono (by decide)) pass0) (pa_cons (pe_propD (pv 0) D_p_limit (hr.mono (by decide)) pass0) (pa_cons (pe_propD (pv 0) D_p_used (hr.mono (by decide)) pass0) (pa_cons (pe_propD (pv 0) D_p_charges (hr.mono (by decide)) pass0) pa_nil))))))
      (pss_cons (ps_set (i := 3) nd rfl (by first | exact Or.inl rfl | exact Or.inr rfl) (pe_op op_cat (pv 3) (pe_lst (pa_cons (pe_propD (pv 0) D_p_processes (hr.mono (by decide)) pass0) (pa_cons (pe_callB (LS.call_lenO S_len (hr.mono (by decide))) (by rfl) T.n_len (by decide +kernel) (pa_cons (pv 0) pa_nil)) (pa_cons (pe_cmpR (LS.op_inO S_contains (hr.mono (by decide))) pe_int (pv 0) rfl) (pa_cons (pe_callTy (LS.call_boolO S_bool (hr.mono (by decide))) (by rfl) T.n_bool (by decide +kernel) (pa_cons (pv 0) pa_nil)) pa_nil)))))))
      (pss_one (ps_ret (pe_cmpR op_eq (pe_callB (LR.call_repr (LR.sysB_ok T.e_sys) hgu (u60 hr)) (by rfl) T.n_repr (by decide +kernel) (pa_cons (pv 3) pa_nil)) (pe_callB (LR.call_repr (LR.sysB_ok T.e_sys) hgu (u60 hr)) (by rfl) T.n_repr (by decide +kernel) (pa_cons (pe_lst (pa_cons (pv 1) (pa_cons (pv 2) (pa_cons pe_int (pa_cons pe_int (pa_cons (pe_tup pa_nil) (pa_cons pe_int (pa_cons pe_bl (pa_cons pe_bl pa_nil))))))))) pa_nil)) (nomark _)))))), ?_⟩), F.bindsN fun _ _ _ _ _ _ us hl => match us, hl with | [_, _, _], _ => rfl⟩
  · obtain ⟨m, r, b, rfl, _⟩ := h
    rfl
  · obtain ⟨m, r, b, rfl, M, r0, r1, b0, b1, q⟩ := h
    have M0 := M
    obtain ⟨dx, wa, e1, _⟩ := M0
    refine ⟨_, rfl, m, dx, _, rfl, e1, ⟨m, r, b, rfl, M, _, rfl, m, dx, _, rfl, e1, ⟨m, r, b, rfl, M, _, rfl, m, dx, _, rfl, e1, ⟨m, r, b, rfl, M, _, rfl, m, dx, _, rfl, e1, ⟨m, r, b, rfl, M, ?_⟩⟩⟩⟩⟩
    refine ⟨(by show 4 ≤ sizeLine; decide), fun l hl => ?_⟩
    have s1 := Sam.new (o := .lst [.int r, .int b, .int 0, .int 0]) hl
    refine ⟨_, rfl, _, rfl, m, dx, _, rfl, s1 _ _ e1, ⟨m, r, b, rfl, M.same s1, fun H2 t s2 ht et => ?_⟩⟩
    refine ⟨_, rfl, m, dx, _, rfl, s2 _ _ (s1 _ _ e1), ⟨m, r, b, rfl, (M.same s1).same s2, fun H3 s3 => ?_⟩⟩
    have M3 := ((M.same s1).same s2).same s3
    have e3 := s3 _ _ (s2 _ _ (s1 _ _ e1))
    refine ⟨0, rfl, by decide, by decide, _, rfl, m, dx, _, rfl, e3, ⟨m, 0, r, b, rfl, M3, false, rfl, ?_⟩⟩
    refine ⟨_, rfl, m, dx, _, rfl, e3, ⟨m, r, b, rfl, M3, true, rfl, ?_⟩⟩
    refine ⟨(by show 4 ≤ sizeLine; decide), fun l2 hl2 => ?_⟩
    have s4 := Sam.new (o := .lst [.ref t, .int 0, .bl false, .bl true]) hl2
    refine ⟨_, _, _, _, rfl, rfl, s4 _ _ (s3 _ _ (s2 _ _ upd_same)), upd_same, (by show 8 ≤ sizeLine; decide), fun p hp => ?_⟩
    have s5 := Sam.new (o := .lst ([.int r, .int b, .int 0, .int 0] ++ [.ref t, .int 0, .bl false, .bl true])) hp
    obtain ⟨f1, f2, f3⟩ := fresh_ok r0 r1 b0 b1
    have et : upd (upd H3 l2 (.lst [.ref t, .int 0, .bl false, .bl true])) p (.lst ([.int r, .int b, .int 0, .int 0] ++ [.ref t, .int 0, .bl false, .bl true])) t = some (.tup []) := s5 _ _ (s4 _ _ (s3 _ _ et))
    refine ⟨_, rfl, p, dFresh r b, rfl, .lst (SqL.of upd_same) (.cons (.int _) (.cons (.int _) (.cons (.int _) (.cons (.int _) (.cons (.tup (SqT.of et) .nil) (.cons (.int _) (.cons (.bl _) (.cons (.bl _) .nil)))))))), f1, f2, f3, ?_⟩
    refine ⟨_, rfl, _, rfl, (by show 0 ≤ sizeLine; decide), fun t2 ht2 => ⟨(by show 8 ≤ sizeLine; decide), fun l3 hl3 => ?_⟩⟩
    have s6 := Sam.new (o := .tup []) ht2
    have s7 := Sam.new (o := .lst [.int r, .int b, .int 0, .int 0, .ref t2, .int 0, .bl false, .bl true]) hl3
    refine ⟨l3, dFresh r b, rfl, .lst (SqL.of upd_same) (.cons (.int _) (.cons (.int _) (.cons (.int _) (.cons (.int _) (.cons (.tup (SqT.of (s7 _ _ upd_same)) .nil) (.cons (.int _) (.cons (.bl _) (.cons (.bl _) .nil)))))))), f1, f2, f3, ?_⟩
    refine ⟨rfl, ?_⟩
    rw [decide_eq_true rfl]
    exact q _ (((((((s1.tr s2).tr s3).tr s4).tr s5).tr s6).tr s7))
end
end My
set_option Elab.async false
set_option linter.all false
set_option maxRecDepth 100000
set_option maxHeartbeats 4000000
/-! The law's telling of errors: the class, the attributes. -/
namespace My
open PySem PySem.Spec PyProof.Rows L2 He HL LD LX LL LQ

theorem uH {k : Nat} {A : Around} (hr : L2H.RoomH k A) : A.units + 64 < cLine := by
  have := hr.un
  omega
theorem uH60 {k : Nat} {A : Around} (hr : L2H.RoomH k A) : A.units + 60 < cLine := by
  have := hr.un
  omega
structure spClass (K : PySem.W.Frag) (p : Addr × Obj) (vs : List V) (H : Hp) (Q : VK) (_E : XK) : Prop where
  h : ∃ (d : Addr) (fs : List (PySem.Str × V)), vs = [.ref p.1] ∧ Zc (.ref (ga K "InvalidNumber")) (some d) p.2 ∧ (∃ us, p.2.data = .fields us) ∧ H d = some (.xd fs) ∧ ∀ H', Sam H H' → Q (.str "number") H'
structure spField (K : PySem.W.Frag) (p : Addr × Obj) (vs : List V) (H : Hp) (Q : VK) (_E : XK) : Prop where
  h : ∃ (d : Addr) (x : V), vs = [.ref p.1, .str "number"] ∧ Zc (.ref (ga K "InvalidNumber")) (some d) p.2 ∧ (∃ us, p.2.data = .fields us) ∧ H d = some (.xd [("given", x)]) ∧ ∀ H' l, Sam H H' → H' l = some (.lst [x]) → Q (.ref l) H'
section
variable {P : Program} {w : World} {K : PySem.W.Frag} {mg : PySem.Str → Option Value} {base : Heap} (T : Tx K mg base)
include T
theorem D_law_class : En P w K mg base CX0 1 "_law_class" ["_law_e"] (spClass K) := by
  obtain ⟨fd, F⟩ := T.f_law_class
  have nd := sc_law_class.nd
  have hexq : ExQ K (ga K "InvalidNumber") := exqB_ok T.e_exq
  refine ⟨_, fd, T.g_law_class, F.kp, okE F sc_law_class (fun p vs H Q E h => ?_) (fun cdv A outer s H vs Q E p hgu hot hr h => ?_), F.bindsN fun _ _ _ _ _ _ us hl => match us, hl with | [_], _ => rfl⟩
  · obtain ⟨d, fs, rfl, _⟩ := h
    rfl
  · obtain ⟨d, fs, rfl, hz, hf, hd, q⟩ := h
    obtain ⟨a, oe⟩ := p
    have hp : (a, oe) ∈ (L2H.cxH CX0 P w K mg base N_law_class "_law_class" (defScope s_law_class) (ga K "_law_class") cdv A outer s H E (a, oe)).pn := List.mem_cons_self
    refine ⟨_, (pss_cons (ps_set (i := 1) nd rfl (by first | exact Or.inl rfl | exact Or.inr rfl) (pe_lst (pa_cons (pe_callB (call_isX hexq hp hz hf) (by rfl) T.n_isinstance (by decide +kernel) (pa_cons (pv 0) (pa_cons (pe_glob (v := .ref (ga K "InvalidNumber")) rfl T.g_InvalidNumber rfl) pa_nil))) (pa_cons (pe_callB (call_isX hexq hp hz hf) (by rfl) T.n_isinstance (by decide +kernel) (pa_cons (pv 0) (pa_cons (pe_glob (v := .ref (ga K "InvalidText")) rfl T.g_InvalidText rfl) pa_nil))) (pa_cons (pe_callB (call_isX hexq hp hz hf) (by rfl) T.n_isinstance (by decide +kernel) (pa_cons (pv 0) (pa_cons (pe_glob (v := .ref (ga K "InvalidName")) rfl T.g_InvalidName rfl) pa_nil))) pa_nil)))))
      (pss_cons (ps_set (i := 1) nd rfl (by first | exact Or.inl rfl | exact Or.inr rfl) (pe_op op_cat (pv 1) (pe_lst (pa_cons (pe_callB (call_isX hexq hp hz hf) (by rfl) T.n_isinstance (by decide +kernel) (pa_cons (pv 0) (pa_cons (pe_glob (v := .ref (ga K "InvalidRule")) rfl T.g_InvalidRule rfl) pa_nil))) (pa_cons (pe_callB (call_isX hexq hp hz hf) (by rfl) T.n_isinstance (by decide +kernel) (pa_cons (pv 0) (pa_cons (pe_glob (v := .ref (ga K "InvalidClaim")) rfl T.g_InvalidClaim rfl) pa_nil))) (pa_cons (pe_callB (call_isX hexq hp hz hf) (by rfl) T.n_isinstance (by decide +kernel) (pa_cons (pv 0) (pa_cons (pe_glob (v := .ref (ga K "InvalidIndex")) rfl T.g_InvalidIndex rfl) pa_nil))) pa_nil))))))
      (pss_cons (ps_set (i := 1) nd rfl (by first | exact Or.inl rfl | exact Or.inr rfl) (pe_op op_cat (pv 1) (pe_lst (pa_cons (pe_callB (call_isX hexq hp hz hf) (by rfl) T.n_isinstance (by decide +kernel) (pa_cons (pv 0) (pa_cons (pe_glob (v := .ref (ga K "InvalidOutcome")) rfl T.g_InvalidOutcome rfl) pa_nil))) (pa_cons (pe_callB (call_isX hexq hp hz hf) (by rfl) T.n_isinstance (by decide +kernel) (pa_cons (pv 0) (pa_cons (pe_glob (v := .ref (ga K "NotAProgram")) rfl T.g_NotAProgram rfl) pa_nil))) (pa_cons (pe_callB (call_isX hexq hp hz hf) (by rfl) T.n_isinstance (by decide +kernel) (pa_cons (pv 0) (pa_cons (pe_glob (v := .ref (ga K "InvalidAreas")) rfl T.g_InvalidAreas rfl) pa_nil))) pa_nil))))))
      (pss_cons (ps_set (i := 1) nd rfl (by first | exact Or.inl rfl | exact Or.inr rfl) (pe_op op_cat (pv 1) (pe_lst (pa_cons (pe_callB (call_isX hexq hp hz hf) (by rfl) T.n_isinstance (by decide +kernel) (pa_cons (pv 0) (pa_cons (pe_glob (v := .ref (ga K "InvalidRows")) rfl T.g_InvalidRows rfl) pa_nil))) (pa_cons (pe_callB (call_isX hexq hp hz hf) (by rfl) T.n_isinstance (by decide +kernel) (pa_cons (pv 0) (pa_cons (pe_glob (v := .ref (ga K "WrongLine")) rfl T.g_WrongLine rfl) pa_nil))) (pa_cons (pe_callB (call_isX hexq hp hz hf) (by rfl) T.n_isinstance (by decide +kernel) (pa_cons (pv 0) (pa_cons (pe_glob (v := .ref (ga K "InvalidRun")) rfl T.g_InvalidRun rfl) pa_nil))) pa_nil))))))
      (pss_cons (ps_set (i := 1) nd rfl (by first | exact Or.inl rfl | exact Or.inr rfl) (pe_op op_cat (pv 1) (pe_lst (pa_cons (pe_callB (call_isX hexq hp hz hf) (by rfl) T.n_isinstance (by decide +kernel) (pa_cons (pv 0) (pa_cons (pe_glob (v := .ref (ga K "Unsound")) rfl T.g_Unsound rfl) pa_nil))) (pa_cons (pe_callB (call_isX hexq hp hz hf) (by rfl) T.n_isinstance (by decide +kernel) (pa_cons (pv 0) (pa_cons (pe_glob (v := .ref (ga K "UnknownName")) rfl T.g_UnknownName rfl) pa_nil))) (pa_cons (pe_callB (call_isX hexq hp hz hf) (by rfl) T.n_isinstance (by decide +kernel) (pa_cons (pv 0) (pa_cons (pe_glob (v := .ref (ga K "UnknownProcess")) rfl T.g_UnknownProcess rfl) pa_nil))) pa_nil))))))
      (pss_cons (ps_set (i := 1) nd rfl (by first | exact Or.inl rfl | exact Or.inr rfl) (pe_op op_cat (pv 1) (pe_lst (pa_cons (pe_callB (call_isX hexq hp hz hf) (by rfl) T.n_isinstance (by decide +kernel) (pa_cons (pv 0) (pa_cons (pe_glob (v := .ref (ga K "InUse")) rfl T.g_InUse rfl) pa_nil))) (pa_cons (pe_callB (call_isX hexq hp hz hf) (by rfl) T.n_isinstance (by decide +kernel) (pa_cons (pv 0) (pa_cons (pe_glob (v := .ref (ga K "NothingToUndo")) rfl T.g_NothingToUndo rfl) pa_nil))) (pa_cons (pe_callB (call_isX hexq hp hz hf) (by rfl) T.n_isinstance (by decide +kernel) (pa_cons (pv 0) (pa_cons (pe_glob (v := .ref (ga K "MustWait")) rfl T.g_MustWait rfl) pa_nil))) pa_nil))))))
      (pss_cons (ps_set (i := 1) nd rfl (by first | exact Or.inl rfl | exact Or.inr rfl) (pe_op op_cat (pv 1) (pe_lst (pa_cons (pe_callB (call_isX hexq hp hz hf) (by rfl) T.n_isinstance (by decide +kernel) (pa_cons (pv 0) (pa_cons (pe_glob (v := .ref (ga K "TooMany")) rfl T.g_TooMany rfl) pa_nil))) (pa_cons (pe_callB (call_isX hexq hp hz hf) (by rfl) T.n_isinstance (by decide +kernel) (pa_cons (pv 0) (pa_cons (pe_glob (v := .ref (ga K "TooLong")) rfl T.g_TooLong rfl) pa_nil))) (pa_cons (pe_callB (call_isX hexq hp hz hf) (by rfl) T.n_isinstance (by decide +kernel) (pa_cons (pv 0) (pa_cons (pe_glob (v := .ref (ga K "Breaks")) rfl T.g_Breaks rfl) pa_nil))) pa_nil))))))
      (pss_cons (ps_set (i := 1) nd rfl (by first | exact Or.inl rfl | exact Or.inr rfl) (pe_op op_cat (pv 1) (pe_lst (pa_cons (pe_callB (call_isX hexq hp hz hf) (by rfl) T.n_isinstance (by decide +kernel) (pa_cons (pv 0) (pa_cons (pe_glob (v := .ref (ga K "OverLimit")) rfl T.g_OverLimit rfl) pa_nil))) (pa_cons (pe_callB (call_isX hexq hp hz hf) (by rfl) T.n_isinstance (by decide +kernel) (pa_cons (pv 0) (pa_cons (pe_glob (v := .ref (ga K "Broken")) rfl T.g_Broken rfl) pa_nil))) pa_nil)))))
      (pss_cons (ps_set (i := 2) nd rfl (by first | exact Or.inl rfl | exact Or.inr rfl) (pe_lst (pa_cons pe_str (pa_cons pe_str (pa_cons pe_str (pa_cons pe_str (pa_cons pe_str (pa_cons pe_str (pa_cons pe_str (pa_cons pe_str (pa_cons pe_str (pa_cons pe_str (pa_cons pe_str (pa_cons pe_str pa_nil))))))))))))))
      (pss_cons (ps_set (i := 2) nd rfl (by first | exact Or.inl rfl | exact Or.inr rfl) (pe_op op_cat (pv 2) (pe_lst (pa_cons pe_str (pa_cons pe_str (pa_cons pe_str (pa_cons pe_str (pa_cons pe_str (pa_cons pe_str (pa_cons pe_str (pa_cons pe_str (pa_cons pe_str (pa_cons pe_str pa_nil)))))))))))))
      (pss_cons (ps_set (i := 2) nd rfl (by first | exact Or.inl rfl | exact Or.inr rfl) (pe_op op_cat (pv 2) (pe_lst (pa_cons pe_str pa_nil))))
      (pss_cons (ps_set (i := 3) nd rfl (by first | exact Or.inl rfl | exact Or.inr rfl) (pe_ifExp (pt_cmpR op_eq (pe_bm PySem.F.plainAttrs_list PySem.F.slot_list_count PySem.F.type_list_count mt_countF (pv 1) (pa_cons pe_bl pa_nil)) pe_int (nomark _)) (pe_bm PySem.F.plainAttrs_list PySem.F.slot_list_index PySem.F.type_list_index mt_index (pv 1) (pa_cons pe_bl pa_nil)) pe_int))
      (pss_cons (ps_set (i := 4) nd rfl (by first | exact Or.inl rfl | exact Or.inr rfl) (pe_lst (pa_cons (pe_cmpR op_lt (pv 3) pe_int (nomark _)) (pa_cons (pe_chain op_lt op_lt pe_int (pv 3) pe_int) (pa_cons (pe_chain op_lt op_lt pe_int (pv 3) pe_int) pa_nil)))))
      (pss_cons (ps_set (i := 5) nd rfl (by first | exact Or.inl rfl | exact Or.inr rfl) (pe_lst (pa_cons (pe_callB (call_isX hexq hp hz hf) (by rfl) T.n_isinstance (by decide +kernel) (pa_cons (pv 0) (pa_cons (pe_glob (v := .ref (ga K "WrongValue")) rfl T.g_WrongValue rfl) pa_nil))) (pa_cons (pe_callB (call_isX hexq hp hz hf) (by rfl) T.n_isinstance (by decide +kernel) (pa_cons (pv 0) (pa_cons (pe_glob (v := .ref (ga K "WrongState")) rfl T.g_WrongState rfl) pa_nil))) (pa_cons (pe_callB (call_isX hexq hp hz hf) (by rfl) T.n_isinstance (by decide +kernel) (pa_cons (pv 0) (pa_cons (pe_glob (v := .ref (ga K "NoAnswer")) rfl T.g_NoAnswer rfl) pa_nil))) pa_nil)))))
      (pss_cons (ps_set (i := 6) nd rfl (by first | exact Or.inl rfl | exact Or.inr rfl) (pe_lst (pa_cons (pe_callB (call_isX hexq hp hz hf) (by rfl) T.n_isinstance (by decide +kernel) (pa_cons (pv 0) (pa_cons (pe_bltn (v := .ty "ValueError") rfl T.n_ValueError (by decide +kernel) rfl) pa_nil))) (pa_cons (pe_callB (call_isX hexq hp hz hf) (by rfl) T.n_isinstance (by decide +kernel) (pa_cons (pv 0) (pa_cons (pe_bltn (v := .ty "LookupError") rfl T.n_LookupError (by decide +kernel) rfl) pa_nil))) (pa_cons (pe_callB (call_isX hexq hp hz hf) (by rfl) T.n_isinstance (by decide +kernel) (pa_cons (pv 0) (pa_cons (pe_bltn (v := .ty "ArithmeticError") rfl T.n_ArithmeticError (by decide +kernel) rfl) pa_nil))) pa_nil)))))
      (pss_one (ps_ret (pe_ifExp (PW.pt (pw_and (pt_cmpR (op_eqD (uH hr)) (pv 5) (pv 4) (nomark _)) (pw_and (pt_cmpR (op_eqD (uH hr)) (pv 6) (pv 4) (nomark _)) (pw_and1 (pt_cmpR op_lt (pv 3) pe_int (nomark _)))))) (pe_ix ix_list (pv 2) (pv 3) (fun _ _ => rfl)) pe_str)))))))))))))))))), ?_⟩
    refine sq_st [some (.ref a), none, none, none, none, none, none] rfl ?_
    have hd0 := hd
    refine sq_lst (vs := [.bl true, .bl false, .bl false]) (fun v => [some (.ref a), some v, none, none, none, none, none]) (fun _ => rfl) (fun Q q => ⟨_, rfl, .ref (ga K "InvalidNumber"), .ref (ga K "InvalidNumber"), true, _, rfl, .own _, hd0, of_decide_eq_true T.e_kit_InvalidNumber, _, rfl, .ref (ga K "InvalidText"), .ref (ga K "InvalidText"), false, _, rfl, .own _, hd0, of_decide_eq_true T.e_kit_InvalidText, _, rfl, .ref (ga K "InvalidName"), .ref (ga K "InvalidName"), false, _, rfl, .own _, hd0, of_decide_eq_true T.e_kit_InvalidName, q⟩) (by decide) (fun H1 x1 s1 e1 => ?_)
    have hd1 := s1 _ _ hd0
    refine sq_cat (vs := [.bl false, .bl false, .bl false]) (fun v => [some (.ref a), some v, none, none, none, none, none]) (fun _ => rfl) rfl e1 (fun Q q => ⟨_, rfl, .ref (ga K "InvalidRule"), .ref (ga K "InvalidRule"), false, _, rfl, .own _, hd1, of_decide_eq_true T.e_kit_InvalidRule, _, rfl, .ref (ga K "InvalidClaim"), .ref (ga K "InvalidClaim"), false, _, rfl, .own _, hd1, of_decide_eq_true T.e_kit_InvalidClaim, _, rfl, .ref (ga K "InvalidIndex"), .ref (ga K "InvalidIndex"), false, _, rfl, .own _, hd1, of_decide_eq_true T.e_kit_InvalidIndex, q⟩) (by decide) (fun H2 x2 s2 e2 => ?_)
    have hd2 := s2 _ _ hd1
    refine sq_cat (vs := [.bl false, .bl false, .bl false]) (fun v => [some (.ref a), some v, none, none, none, none, none]) (fun _ => rfl) rfl e2 (fun Q q => ⟨_, rfl, .ref (ga K "InvalidOutcome"), .ref (ga K "InvalidOutcome"), false, _, rfl, .own _, hd2, of_decide_eq_true T.e_kit_InvalidOutcome, _, rfl, .ref (ga K "NotAProgram"), .ref (ga K "NotAProgram"), false, _, rfl, .own _, hd2, of_decide_eq_true T.e_kit_NotAProgram, _, rfl, .ref (ga K "InvalidAreas"), .ref (ga K "InvalidAreas"), false, _, rfl, .own _, hd2, of_decide_eq_true T.e_kit_InvalidAreas, q⟩) (by decide) (fun H3 x3 s3 e3 => ?_)
    have hd3 := s3 _ _ hd2
    refine sq_cat (vs := [.bl false, .bl false, .bl false]) (fun v => [some (.ref a), some v, none, none, none, none, none]) (fun _ => rfl) rfl e3 (fun Q q => ⟨_, rfl, .ref (ga K "InvalidRows"), .ref (ga K "InvalidRows"), false, _, rfl, .own _, hd3, of_decide_eq_true T.e_kit_InvalidRows, _, rfl, .ref (ga K "WrongLine"), .ref (ga K "WrongLine"), false, _, rfl, .own _, hd3, of_decide_eq_true T.e_kit_WrongLine, _, rfl, .ref (ga K "InvalidRun"), .ref (ga K "InvalidRun"), false, _, rfl, .own _, hd3, of_decide_eq_true T.e_kit_InvalidRun, q⟩) (by decide) (fun H4 x4 s4 e4 => ?_)
    have hd4 := s4 _ _ hd3
    refine sq_cat (vs := [.bl false, .bl false, .bl false]) (fun v => [some (.ref a), some v, none, none, none, none, none]) (fun _ => rfl) rfl e4 (fun Q q => ⟨_, rfl, .ref (ga K "Unsound"), .ref (ga K "Unsound"), false, _, rfl, .own _, hd4, of_decide_eq_true T.e_kit_Unsound, _, rfl, .ref (ga K "UnknownName"), .ref (ga K "UnknownName"), false, _, rfl, .own _, hd4, of_decide_eq_true T.e_kit_UnknownName, _, rfl, .ref (ga K "UnknownProcess"), .ref (ga K "UnknownProcess"), false, _, rfl, .own _, hd4, of_decide_eq_true T.e_kit_UnknownProcess, q⟩) (by decide) (fun H5 x5 s5 e5 => ?_)
    have hd5 := s5 _ _ hd4
    refine sq_cat (vs := [.bl false, .bl false, .bl false]) (fun v => [some (.ref a), some v, none, none, none, none, none]) (fun _ => rfl) rfl e5 (fun Q q => ⟨_, rfl, .ref (ga K "InUse"), .ref (ga K "InUse"), false, _, rfl, .own _, hd5, of_decide_eq_true T.e_kit_InUse, _, rfl, .ref (ga K "NothingToUndo"), .ref (ga K "NothingToUndo"), false, _, rfl, .own _, hd5, of_decide_eq_true T.e_kit_NothingToUndo, _, rfl, .ref (ga K "MustWait"), .ref (ga K "MustWait"), false, _, rfl, .own _, hd5, of_decide_eq_true T.e_kit_MustWait, q⟩) (by decide) (fun H6 x6 s6 e6 => ?_)
    have hd6 := s6 _ _ hd5
    refine sq_cat (vs := [.bl false, .bl false, .bl false]) (fun v => [some (.ref a), some v, none, none, none, none, none]) (fun _ => rfl) rfl e6 (fun Q q => ⟨_, rfl, .ref (ga K "TooMany"), .ref (ga K "TooMany"), false, _, rfl, .own _, hd6, of_decide_eq_true T.e_kit_TooMany, _, rfl, .ref (ga K "TooLong"), .ref (ga K "TooLong"), false, _, rfl, .own _, hd6, of_decide_eq_true T.e_kit_TooLong, _, rfl, .ref (ga K "Breaks"), .ref (ga K "Breaks"), false, _, rfl, .own _, hd6, of_decide_eq_true T.e_kit_Breaks, q⟩) (by decide) (fun H7 x7 s7 e7 => ?_)
    have hd7 := s7 _ _ hd6
    refine sq_cat (vs := [.bl false, .bl false]) (fun v => [some (.ref a), some v, none, none, none, none, none]) (fun _ => rfl) rfl e7 (fun Q q => ⟨_, rfl, .ref (ga K "OverLimit"), .ref (ga K "OverLimit"), false, _, rfl, .own _, hd7, of_decide_eq_true T.e_kit_OverLimit, _, rfl, .ref (ga K "Broken"), .ref (ga K "Broken"), false, _, rfl, .own _, hd7, of_decide_eq_true T.e_kit_Broken, q⟩) (by decide) (fun H8 x8 s8 e8 => ?_)
    have hd8 := s8 _ _ hd7
    refine sq_lst (vs := [.str "number", .str "text", .str "name", .str "rule", .str "claim", .str "index", .str "outcome", .str "program", .str "areas", .str "rows", .str "line", .str "run"]) (fun v => [some (.ref a), some (.ref x8), some v, none, none, none, none]) (fun _ => rfl) (fun Q q => q) (by decide) (fun H9 x9 s9 e9 => ?_)
    have hd9 := s9 _ _ hd8
    refine sq_cat (vs := [.str "unsound", .str "unknown", .str "process", .str "used", .str "undo", .str "waits", .str "many", .str "long", .str "breaks", .str "over"]) (fun v => [some (.ref a), some (.ref x8), some v, none, none, none, none]) (fun _ => rfl) rfl e9 (fun Q q => q) (by decide) (fun H10 x10 s10 e10 => ?_)
    have hd10 := s10 _ _ hd9
    refine sq_cat (vs := [.str "broken"]) (fun v => [some (.ref a), some (.ref x8), some v, none, none, none, none]) (fun _ => rfl) rfl e10 (fun Q q => q) (by decide) (fun H11 x11 s11 e11 => ?_)
    have hd11 := s11 _ _ hd10
    have es := (s11 _ _ (s10 _ _ (s9 _ _ e8)))
    refine sq_set (fun v => [some (.ref a), some (.ref x8), some (.ref x11), some v, none, none, none]) (fun _ => rfl) ⟨_, rfl, .inl ⟨rfl, _, SqL.of es⟩, _, _, _, rfl, rfl, SqL.of es, rfl, rfl, rfl, _, rfl, ite_t (by decide +kernel) ?_⟩
    refine ⟨_, rfl, .inl ⟨rfl, _, SqL.of es⟩, _, _, _, 0, .bl true, rfl, rfl, SqL.of es, rfl, rfl, rfl, rfl, (fun m z h => absurd h (Nat.not_lt_zero m)), ?_⟩
    refine sq_lst (vs := [.bl true, .bl false, .bl false]) (fun v => [some (.ref a), some (.ref x8), some (.ref x11), some (.int (0 : Nat)), some v, none, none]) (fun _ => rfl) (fun Q q => ⟨_, rfl, _, _, rfl, rfl, _, rfl, _, _, rfl, rfl, _, rfl, ite_f (by decide) ⟨_, rfl, _, _, rfl, rfl, _, rfl, ite_f (by decide) q⟩⟩) (by decide) (fun H12 x12 s12 e12 => ?_)
    have hd12 := s12 _ _ hd11
    refine sq_lst (vs := [.bl true, .bl false, .bl false]) (fun v => [some (.ref a), some (.ref x8), some (.ref x11), some (.int (0 : Nat)), some (.ref x12), some v, none]) (fun _ => rfl) (fun Q q => ⟨_, rfl, .ref (ga K "WrongValue"), .ref (ga K "WrongValue"), true, _, rfl, .own _, hd12, of_decide_eq_true T.e_kit_WrongValue, _, rfl, .ref (ga K "WrongState"), .ref (ga K "WrongState"), false, _, rfl, .own _, hd12, of_decide_eq_true T.e_kit_WrongState, _, rfl, .ref (ga K "NoAnswer"), .ref (ga K "NoAnswer"), false, _, rfl, .own _, hd12, of_decide_eq_true T.e_kit_NoAnswer, q⟩) (by decide) (fun H13 x13 s13 e13 => ?_)
    have hd13 := s13 _ _ hd12
    refine sq_lst (vs := [.bl true, .bl false, .bl false]) (fun v => [some (.ref a), some (.ref x8), some (.ref x11), some (.int (0 : Nat)), some (.ref x12), some (.ref x13), some v]) (fun _ => rfl) (fun Q q => ⟨_, rfl, .ty "ValueError", .type "ValueError", true, _, rfl, .ty _, hd13, of_decide_eq_true T.e_kit_ValueError, _, rfl, .ty "LookupError", .type "LookupError", false, _, rfl, .ty _, hd13, of_decide_eq_true T.e_kit_LookupError, _, rfl, .ty "ArithmeticError", .type "ArithmeticError", false, _, rfl, .ty _, hd13, of_decide_eq_true T.e_kit_ArithmeticError, q⟩) (by decide) (fun H14 x14 s14 e14 => ?_)
    have hd14 := s14 _ _ hd13
    refine ⟨_, rfl, _, rfl, _, _, (.lst (SqL.of (s14 _ _ e13)) (.cons (.bl _) (.cons (.bl _) (.cons (.bl _) .nil)))), (.lst (SqL.of (s14 _ _ (s13 _ _ e12))) (.cons (.bl _) (.cons (.bl _) (.cons (.bl _) .nil)))), rfl, rfl, _, rfl, ite_t (by decide +kernel) ?_⟩
    refine ⟨_, rfl, _, rfl, _, _, (.lst (SqL.of e14) (.cons (.bl _) (.cons (.bl _) (.cons (.bl _) .nil)))), (.lst (SqL.of (s14 _ _ (s13 _ _ e12))) (.cons (.bl _) (.cons (.bl _) (.cons (.bl _) .nil)))), rfl, rfl, _, rfl, ite_t (by decide +kernel) ?_⟩
    refine ⟨_, rfl, _, _, rfl, rfl, _, rfl, ite_t (by decide) ?_⟩
    refine ⟨_, rfl, _, rfl, _, _, (0 : Nat), .str "number", rfl, rfl, SqL.of (s14 _ _ (s13 _ _ (s12 _ _ e11))), atI_nat (j := 0) rfl, ?_⟩
    exact q _ ((((((((((((((Sam.rf.tr s1).tr s2).tr s3).tr s4).tr s5).tr s6).tr s7).tr s8).tr s9).tr s10).tr s11).tr s12).tr s13).tr s14)
theorem D_law_field : En P w K mg base CX0 1 "_law_field" ["_law_e", "_law_word"] (spField K) := by
  obtain ⟨fd, F⟩ := T.f_law_field
  have nd := sc_law_field.nd
  have hexq : ExQ K (ga K "InvalidNumber") := exqB_ok T.e_exq
  refine ⟨_, fd, T.g_law_field, F.kp, okE F sc_law_field (fun p vs H Q E h => ?_) (fun cdv A outer s H vs Q E p hgu hot hr h => ?_), F.bindsN fun _ _ _ _ _ _ us hl => match us, hl with | [_, _], _ => rfl⟩
  · obtain ⟨d, fs, rfl, _⟩ := h
    rfl
  · obtain ⟨d, x, rfl, hz, hf, hd, q⟩ := h
    obtain ⟨a, oe⟩ := p
    have hp : (a, oe) ∈ (L2H.cxH CX0 P w K mg base N_law_field "_law_field" (defScope s_law_field) (ga K "_law_field") cdv A outer s H E (a, oe)).pn := List.mem_cons_self
    refine ⟨_, (pss_cons (ps_if (pt_cmpR op_in_seq (pv 1) (pe_lst (pa_cons pe_str (pa_cons pe_str (pa_cons pe_str (pa_cons pe_str (pa_cons pe_str pa_nil)))))) rfl) (pss_one (ps_ret (pe_lst (pa_cons (pe_xg hexq T.no_InvalidNumber_given hp hz hf (pv 0)) pa_nil)))) pss_nil)
      (pss_cons (ps_if (pt_cmpR op_eq (pv 1) pe_str (nomark _)) (pss_one (ps_ret (pe_lst (pa_cons (pe_fld (pv 0) rfl) pa_nil)))) pss_nil)
      (pss_cons (ps_if (pt_cmpR op_eq (pv 1) pe_str (nomark _)) (pss_one (ps_ret (pe_lst (pa_cons (pe_fld (pv 0) rfl) pa_nil)))) pss_nil)
      (pss_cons (ps_if (pt_cmpR op_eq (pv 1) pe_str (nomark _)) (pss_one (ps_ret (pe_lst (pa_cons (pe_fld (pv 0) rfl) (pa_cons (pe_fld (pv 0) rfl) pa_nil))))) pss_nil)
      (pss_cons (ps_if (pt_cmpR op_eq (pv 1) pe_str (nomark _)) (pss_one (ps_ret (pe_lst (pa_cons (pe_fld (pv 0) rfl) pa_nil)))) pss_nil)
      (pss_one (ps_ret (pe_ifExp (pt_cmpR op_eq (pv 1) pe_str (nomark _)) (pe_lst (pa_cons (pe_fld (pv 0) rfl) pa_nil)) (pe_lst pa_nil))))))))), ?_⟩
    refine ⟨_, rfl, (by show 5 ≤ sizeLine; decide), fun l hl => ⟨l, _, rfl, .inl (SqL.of upd_same), rfl, rfl, _, rfl, ite_t (by decide +kernel) ?_⟩⟩
    exact ⟨_, rfl, rfl, _, x, keep hd hl, rfl, (by show 1 ≤ sizeLine; decide), fun l2 h2 => q _ l2 ((Sam.new hl).nw h2) upd_same⟩
end
/-! ### told -/
/-- the error that is raised, and what the telling makes of it -/
def Raised (K : PySem.W.Frag) (Q : VK) : XK := fun cls d H' => ∃ (dd : Addr) (x : V) (D : PyData), cls = .ref (ga K "InvalidNumber") ∧ d = some dd ∧ H' dd = some (.xd [("given", x)]) ∧ LR.Dr K H' x D ∧ Sml D ∧
  ∀ H'' l, Sam H' H'' → H'' l = some (.lst [.str "number", .str (PyData.list [D]).shown]) → Q (.ref l) H''
def TTold (K : PySem.W.Frag) : (XK → Hp → VK → Prop) → Hp → VK → Prop := fun tl H Q => ∀ (E : XK) (Q0 : VK), (∀ cls d H', Raised K Q cls d H' → E cls d H') → tl E H Q0
theorem takes_len {X : Cx} {W : WX} (tk : L2N.Takes X W) : L2N.Takes X (fun c d σ H => σ.length = X.N.length → W c d σ H) :=
  fun u s' ⟨a, B, sI, pins, σ, H, cls, d, e, I, nb, up, sky, na, os, ag, w⟩ => tk u s' ⟨a, B, sI, pins, σ, H, cls, d, e, I, nb, up, sky, na, os, ag, w I.len⟩
theorem exm3 {K : PySem.W.Frag} {mg : PySem.Str → Option Value} {base : Heap} (T : Tx K mg base) : PySem.W.exmAny K (.ref (ga K "InvalidNumber")) [.ref (ga K "WrongValue"), .ref (ga K "WrongState"), .ref (ga K "NoAnswer")] = some true := by
  have h1 := of_decide_eq_true T.e_exm_WrongValue
  have h2 := of_decide_eq_true T.e_exm_WrongState
  have h3 := of_decide_eq_true T.e_exm_NoAnswer
  simp only [PySem.W.exmAny, h1, h2, h3]
  rfl
/-- what stands in the suite -/
def tSuite (K : PySem.W.Frag) (p : Addr × Obj) : TS := tSeq (tAsg (tCallS (spClass K p) (fun _ => E0) (tCons (tVar 2) tNil)) (gName 3)) (tRet (tLst (tCons (tVar 3) (tCons (tCB (LR.rRepr K) (tCons (tCallS (spField K p) (fun _ => E0) (tCons (tVar 2) (tCons (tVar 3) tNil))) tNil)) tNil))))
theorem rH {A : Around} (hr : Room 5 A) : L2H.RoomH 1 A := (L2H.roomH_of hr).mono (by decide)
theorem G_told {X : Cx} (T : Tx X.K X.mg X.base) {q : PySem.Str} (fd : FuncData) (hg0 : X.A.guards = some []) : Gives X N_law_told "_law_told" (defScope s_law_told) (ga X.K "_law_told") fd.code (defBody s_law_told) "_law_act" q (TTold X.K) := by
  intro f c' s H Q tl hcall hco hTT hr
  have nd := sc_law_told.nd
  have hgu : (X.A.deeper (envOfC "_law_told" (defScope s_law_told) s.heap.objs.size (ga X.K "_law_told") fd.code)).guards = some [] := hg0
  have D_law_class := D_law_class (P := X.prog) (w := X.w) T
  have D_law_field := D_law_field (P := X.prog) (w := X.w) T
  refine ⟨_, pss_cons (LT.ps_tryG (tb := fun W => tAsg (fun σZ HZ Q => σZ[0]? = some (some (.ref f)) ∧ HZ c' = some (LamX.CodeO c' q) ∧ tl (fun cls d H' => ∀ σ', σ'.length = 4 → W cls d σ' H') HZ Q) (gName 1)) (Wout := fun _ _ _ _ => False) rfl rfl takesN0
    (fun W pn xe tk hpo => pss_one (ps_set (i := 1) nd rfl (Or.inl rfl) (hcall (fun c d σ H => σ.length = 4 → W c d σ H) pn xe (fun cls d H' => ∀ σ', σ'.length = 4 → W cls d σ' H') _ _ (takes_len tk) (fun cls d σ' H' h => h σ'))))
    (LT.ClsOk.cons (i := some 2) (ts := fun a cls d D σ H => ∀ oe, L2N.Zn cls d oe → (∃ us, oe.data = .fields us) → tSuite X.K (a, oe) D σ H) (.three (.cons (c := .ref (ga X.K "WrongValue")) ⟨rfl, by decide, .inl T.g_WrongValue⟩ (.cons (c := .ref (ga X.K "WrongState")) ⟨rfl, by decide, .inl T.g_WrongState⟩ (.cons (c := .ref (ga X.K "NoAnswer")) ⟨rfl, by decide, .inl T.g_NoAnswer⟩ .nil)))) (.some nd rfl rfl)
      (fun a oe cls d pn hz hf hm hot => ⟨fun pins s σ H D I h => PSs.run (t := tSuite X.K (a, oe)) (by
        exact pss_cons (ps_set (i := 3) nd rfl (Or.inl rfl) (pe_callED (EE := fun _ => E0) D_law_class ⟨(rH hr).dp, (rH hr).un⟩ hgu hot hm passE0 (pa_cons (pv 2) pa_nil)))
          (pss_one (ps_ret (pe_lst (pa_cons (pv 3) (pa_cons (pe_callB (LR.call_repr (LR.sysB_ok T.e_sys) hgu (show X.A.units + 3 + 60 < cLine from u60 hr)) (by rfl) T.n_repr (by decide +kernel) (pa_cons (pe_callED (EE := fun _ => E0) D_law_field ⟨(rH hr).dp, (rH hr).un⟩ hgu hot hm passE0 (pa_cons (pv 2) (pa_cons (pv 3) pa_nil))) pa_nil)) pa_nil)))))) pins s σ H D I (h oe hz hf)⟩) .nil))
    (pss_one (ps_ret (pe_lst (pa_cons pe_str (pa_cons (pe_callB (LR.call_repr (LR.sysB_ok T.e_sys) hgu (u60 hr)) (by rfl) T.n_repr (by decide +kernel) (pa_cons (pv 1) pa_nil)) pa_nil))))), ?_⟩
  refine ⟨rfl, hco, hTT _ _ fun cls d H' ok σ' hl => ⟨true, ?_, fun _ a na oe hz hf => ?_, fun z => nomatch z⟩⟩
  · obtain ⟨dd, x, D, rfl, _⟩ := ok
    exact exm3 T
  · obtain ⟨dd, x, D, rfl, rfl, hd, dr, ⟨m1, m2, m3, m4⟩, q⟩ := ok
    match σ', hl with
    | [a0, a1, a2, a3], _ =>
    refine ⟨_, rfl, ⟨dd, _, rfl, ⟨hz.1, hz.2.1⟩, hf, hd, fun H2 s2 => ?_⟩⟩
    refine ⟨_, rfl, _, rfl, _, rfl, ⟨dd, x, rfl, ⟨hz.1, hz.2.1⟩, hf, s2 _ _ hd, fun H3 l3 s3 e3 => ?_⟩⟩
    refine ⟨l3, .list [D], rfl, .lst (SqL.of e3) (.cons (LR.Dr.same (fun b o e _ => s3 _ _ (s2 _ _ e)) _ _ dr) .nil), m1, m2, Nat.le_trans m3 (by rw [sizeLine_eq]; decide), (by show 2 ≤ sizeLine; decide), fun l hl => ?_⟩
    exact q _ l ((s2.tr s3).nw hl) upd_same
end My
set_option Elab.async false
set_option linter.all false
set_option maxRecDepth 100000
set_option maxHeartbeats 4000000
/-! The law's parts. -/
namespace My
open PySem PySem.Spec PyProof.Rows L2 He HL LD LX LL LQ
section
variable {K : PySem.W.Frag} {H : Hp} {Q : VK} {E : XK} {r b : Int} {y : V}
theorem mach_new {vs dvs : List V} (hv : vs ++ dvs = [.int r, y]) (h0 : 0 ≤ r) (hb : y = .non ∧ b = r ∨ y = .int b ∧ 0 ≤ b) (k : ∀ H' m, Sam H H' → H m = none → MO K H' m r b → Q (.ref m) H') : RD.MakeE (ga K "Machine") (spMI K) dvs E vs H Q := by
  intro x dx nx nd ne
  rw [hv]
  refine ⟨x, dx, _, _, rfl, upd_same, .inr ⟨r, rfl, h0, .inr ⟨b, hb, fun H' sx mo => ⟨rfl, k H' x (fun c o e => ?_) nx mo⟩⟩⟩⟩
  have n1 : c ≠ x := fun z => by rw [z, nx] at e; cases e
  have n2 : c ≠ dx := fun z => by rw [z, nd] at e; cases e
  exact sx _ _ n1 (by rw [upd_ne n1, upd_ne n2]; exact e)
theorem mach_newK {n kn : Nat} {gV : List V → List V → List V} {vs zs : List V} (hn : vs.length = n) (hk : zs.length = kn) (hv : ∀ x, gV (.ref x :: vs) zs = [.ref x, .int r, y]) (h0 : 0 ≤ r) (hb : y = .non ∧ b = r ∨ y = .int b ∧ 0 ≤ b)
    (k : ∀ H' m, Sam H H' → H m = none → MO K H' m r b → Q (.ref m) H') : RD.MakeKE (ga K "Machine") n kn (spMI K) gV E vs zs H Q := by
  refine ⟨hn, hk, fun x dx nx nd ne => ?_⟩
  rw [hv]
  refine ⟨x, dx, _, _, rfl, upd_same, .inr ⟨r, rfl, h0, .inr ⟨b, hb, fun H' sx mo => ⟨rfl, k H' x (fun c o e => ?_) nx mo⟩⟩⟩⟩
  have n1 : c ≠ x := fun z => by rw [z, nx] at e; cases e
  have n2 : c ≠ dx := fun z => by rw [z, nd] at e; cases e
  exact sx _ _ n1 (by rw [upd_ne n1, upd_ne n2]; exact e)
end
theorem MO.sx {K : PySem.W.Frag} {H H' : Hp} {l m : Addr} {r b : Int} {z : List V} (M : MO K H m r b) (e : H l = some (.lst z)) (h : SamX l H H') : MO K H' m r b := by
  obtain ⟨dx, wa, e1, wx, d1, d2, e2, e3⟩ := M
  refine ⟨dx, wa, h _ _ (fun y => ?_) e1, wx, d1, d2, h _ _ (fun y => ?_) e2, h _ _ (fun y => ?_) e3⟩
  · rw [y, e] at e1
    cases e1
  · rw [y, e] at e2
    cases e2
  · rw [y, e] at e3
    cases e3
structure spMade (K : PySem.W.Frag) (vs : List V) (H : Hp) (Q : VK) (_E : XK) : Prop where
  h : ∃ (r b : Int), vs = [.int r, .int b] ∧ 0 ≤ r ∧ r < big ∧ 0 ≤ b ∧ b < big ∧ ∀ H', Sam H H' → Q (.bl true) H'
section
variable {P : Program} {w : World} {K : PySem.W.Frag} {mg : PySem.Str → Option Value} {base : Heap} (T : Tx K mg base)
include T
theorem D_law_made_right : Gn P w K mg base CX0 5 "_law_made_right" ["_law_room", "_law_bound"] (spMade K) := by
  obtain ⟨fd, F⟩ := T.f_law_made_right
  have nd := sc_law_made_right.nd
  have D_Machine_1 := D_Machine_1 (P := P) (w := w) T
  have D_Machine_2 := D_Machine_2 (P := P) (w := w) T
  have D_Machine_limit_frames := D_Machine_limit_frames (P := P) (w := w) T
  have D_Machine_1_limit := D_Machine_1_limit (P := P) (w := w) T
  have D_law_fresh := D_law_fresh (P := P) (w := w) T
  have idc := LS.idB_ok T.e_id
  refine ⟨_, fd, T.g_law_made_right, F.kp, okG F sc_law_made_right (fun vs H Q E h => ?_) (fun A outer s H vs Q E hr hgu h => ⟨_, (pss_cons (ps_set (i := 2) nd rfl (by first | exact Or.inl rfl | exact Or.inr rfl) (pe_lst (pa_cons (pe_makeD D_Machine_1 (hr.mono (by decide)) passN0 (pa_cons (pv 0) pa_nil)) (pa_cons (pe_makeD D_Machine_2 (hr.mono (by decide)) passN0 (pa_cons (pv 0) (pa_cons pe_non pa_nil))) (pa_cons (pe_makeKD0 D_Machine_limit_frames (hr.mono (by decide)) passN0 (pk_cons pe_non (pk_cons (pv 0) pk_nil))) pa_nil)))))
      (pss_cons (ps_if (pt_cmpR (op_neD hr.units) (pe_lc (own := [("_law_one", 3)]) (g := gName 3) (tt := tYes) rfl nd (pi_list (pv 2)) (blkOk_by (own := [("_law_one", 3)]) (N := N_law_made_right) (sc := defScope s_law_made_right) (by decide +kernel)) (fun _ _ _ _ _ => pg_name (i := 3) nd rfl (Or.inl rfl)) (fun _ _ _ _ _ => pts_nil) (fun _ _ _ _ _ => (pe_callGD D_law_fresh (hr.mono (by decide)) hgu pass0 (pa_cons (pv 3) (pa_cons (pv 0) (pa_cons (pv 0) pa_nil)))))) (pe_op op_rep (pe_lst (pa_cons pe_bl pa_nil)) pe_int) (nomark _)) (pss_one (ps_ret pe_bl)) pss_nil)
      (pss_cons (ps_if (PW.pt (pw_or (pt_not (pt_val (pe_callGD D_law_fresh (hr.mono (by decide)) hgu pass0 (pa_cons (pe_makeD D_Machine_2 (hr.mono (by decide)) passN0 (pa_cons (pv 0) (pa_cons pe_int pa_nil))) (pa_cons (pv 0) (pa_cons pe_int pa_nil)))))) (pw_or1 (pt_not (pt_val (pe_callGD D_law_fresh (hr.mono (by decide)) hgu pass0 (pa_cons (pe_makeD D_Machine_1 (hr.mono (by decide)) passN0 (pa_cons pe_int pa_nil)) (pa_cons pe_int (pa_cons pe_int pa_nil))))))))) (pss_one (ps_ret pe_bl)) pss_nil)
      (pss_cons (ps_set (i := 4) nd rfl (by first | exact Or.inl rfl | exact Or.inr rfl) (pe_lst (pa_cons (pe_makeD D_Machine_2 (hr.mono (by decide)) passN0 (pa_cons (pv 0) (pa_cons (pv 1) pa_nil))) (pa_cons (pe_makeKD0 D_Machine_limit_frames (hr.mono (by decide)) passN0 (pk_cons (pv 1) (pk_cons (pv 0) pk_nil))) pa_nil))))
      (pss_cons (ps_expr (pe_bm PySem.F.plainAttrs_list PySem.F.slot_list_append PySem.F.type_list_append mt_append (pv 4) (pa_cons (pe_makeKD D_Machine_1_limit (hr.mono (by decide)) passN0 (pa_cons (pv 0) pa_nil) (pk_cons (pv 1) pk_nil)) pa_nil)))
      (pss_cons (ps_if (PW.pt (pw_or (pt_cmpR (LS.op_eqI hr.units0) (pe_ix ix_list (pv 4) pe_int (fun _ _ => rfl)) (pe_ix ix_list (pv 4) pe_int (fun _ _ => rfl)) (nomark _)) (pw_or (pt_cmpR (LS.op_neI (u1 hr)) (pe_ix ix_list (pv 4) pe_int (fun _ _ => rfl)) (pe_ix ix_list (pv 4) pe_int (fun _ _ => rfl)) (nomark _)) (pw_or1 (pt_cmpR (LS.op_eqI hr.units0) (pe_ix ix_list (pv 2) pe_int (fun _ _ => rfl)) (pv 0) (nomark _)))))) (pss_one (ps_ret pe_bl)) pss_nil)
      (pss_one (ps_ret (pe_cmpR (op_eqD hr.units) (pe_lc (own := [("_law_one", 3)]) (g := gName 3) (tt := tYes) rfl nd (pi_list (pv 4)) (blkOk_by (own := [("_law_one", 3)]) (N := N_law_made_right) (sc := defScope s_law_made_right) (by decide +kernel)) (fun _ _ _ _ _ => pg_name (i := 3) nd rfl (Or.inl rfl)) (fun _ _ _ _ _ => pts_nil) (fun _ _ _ _ _ => (pe_callGD D_law_fresh (hr.mono (by decide)) hgu pass0 (pa_cons (pv 3) (pa_cons (pv 0) (pa_cons (pv 1) pa_nil)))))) (pe_op op_rep (pe_lst (pa_cons pe_bl pa_nil)) pe_int) (nomark _)))))))))), ?_⟩), F.bindsN fun _ _ _ _ _ _ us hl => match us, hl with | [_, _], _ => rfl⟩
  · obtain ⟨r, b, rfl, _⟩ := h
    rfl
  · obtain ⟨r, b, rfl, r0, r1, b0, b1, q⟩ := h
    refine sq_st [some (.int r), some (.int b), none, none, none] rfl ?_
    repeat (with_reducible (first | refine RD.seq ?_ | refine RD.asg ?_ | refine RD.ret ?_ | refine RD.retN ?_ | refine RD.next ?_ | refine RD.drop ?_ | refine RD.ifS ?_ | refine RD.con ?_ | refine RD.nil ?_ | refine RD.cons ?_ | refine RD.op ?_ | refine RD.un ?_ | refine RD.i0 ?_ | refine RD.iU ?_ | refine RD.test ?_ | refine RD.testE ?_ | refine RD.tb_ ?_ | refine RD.not_ ?_ | refine RD.and_ ?_ | refine RD.or_ ?_ | refine RD.if_ ?_ | refine RD.andV ?_ | refine RD.orV ?_ | refine RD.notV ?_ | refine RD.andE ?_ | refine RD.orE ?_ | refine RD.notE ?_ | refine RD.lst ?_ | refine RD.tup ?_ | refine RD.cb ?_ | refine RD.call ?_ | refine RD.callS ?_ | refine RD.make ?_ | refine RD.makeK ?_ | refine RD.meth ?_ | refine RD.methK ?_ | refine RD.prop ?_ | refine RD.fld ?_ | refine RD.bm ?_ | refine RD.par ?_ | refine RD.forL ?_ | refine RD.v0 ?_ | refine RD.v1 ?_ | refine RD.v2 ?_ | refine RD.v3 ?_ | refine RD.v4 ?_ | refine RD.v5 ?_ | refine RD.v6 ?_ | refine RD.v7 ?_ | refine RD.v8 ?_ | refine RD.v9 ?_ | refine RD.v10 ?_ | refine RD.v11 ?_ | refine RD.g0 ?_ | refine RD.g1 ?_ | refine RD.g2 ?_ | refine RD.g3 ?_ | refine RD.g4 ?_ | refine RD.g5 ?_ | refine RD.g6 ?_ | refine RD.g7 ?_ | refine RD.g8 ?_ | refine RD.g9 ?_ | refine RD.g10 ?_ | refine RD.g11 ?_ | refine And.intro (Eq.refl V.non) ?_))
    refine mach_new rfl r0 (.inl ⟨rfl, rfl⟩) fun H1 m1 s1 n1 M1 => ?_
    repeat (with_reducible (first | refine RD.seq ?_ | refine RD.asg ?_ | refine RD.ret ?_ | refine RD.retN ?_ | refine RD.next ?_ | refine RD.drop ?_ | refine RD.ifS ?_ | refine RD.con ?_ | refine RD.nil ?_ | refine RD.cons ?_ | refine RD.op ?_ | refine RD.un ?_ | refine RD.i0 ?_ | refine RD.iU ?_ | refine RD.test ?_ | refine RD.testE ?_ | refine RD.tb_ ?_ | refine RD.not_ ?_ | refine RD.and_ ?_ | refine RD.or_ ?_ | refine RD.if_ ?_ | refine RD.andV ?_ | refine RD.orV ?_ | refine RD.notV ?_ | refine RD.andE ?_ | refine RD.orE ?_ | refine RD.notE ?_ | refine RD.lst ?_ | refine RD.tup ?_ | refine RD.cb ?_ | refine RD.call ?_ | refine RD.callS ?_ | refine RD.make ?_ | refine RD.makeK ?_ | refine RD.meth ?_ | refine RD.methK ?_ | refine RD.prop ?_ | refine RD.fld ?_ | refine RD.bm ?_ | refine RD.par ?_ | refine RD.forL ?_ | refine RD.v0 ?_ | refine RD.v1 ?_ | refine RD.v2 ?_ | refine RD.v3 ?_ | refine RD.v4 ?_ | refine RD.v5 ?_ | refine RD.v6 ?_ | refine RD.v7 ?_ | refine RD.v8 ?_ | refine RD.v9 ?_ | refine RD.v10 ?_ | refine RD.v11 ?_ | refine RD.g0 ?_ | refine RD.g1 ?_ | refine RD.g2 ?_ | refine RD.g3 ?_ | refine RD.g4 ?_ | refine RD.g5 ?_ | refine RD.g6 ?_ | refine RD.g7 ?_ | refine RD.g8 ?_ | refine RD.g9 ?_ | refine RD.g10 ?_ | refine RD.g11 ?_ | refine And.intro (Eq.refl V.non) ?_))
    refine mach_new rfl r0 (.inl ⟨rfl, rfl⟩) fun H2 m2 s2 n2 M2 => ?_
    repeat (with_reducible (first | refine RD.seq ?_ | refine RD.asg ?_ | refine RD.ret ?_ | refine RD.retN ?_ | refine RD.next ?_ | refine RD.drop ?_ | refine RD.ifS ?_ | refine RD.con ?_ | refine RD.nil ?_ | refine RD.cons ?_ | refine RD.op ?_ | refine RD.un ?_ | refine RD.i0 ?_ | refine RD.iU ?_ | refine RD.test ?_ | refine RD.testE ?_ | refine RD.tb_ ?_ | refine RD.not_ ?_ | refine RD.and_ ?_ | refine RD.or_ ?_ | refine RD.if_ ?_ | refine RD.andV ?_ | refine RD.orV ?_ | refine RD.notV ?_ | refine RD.andE ?_ | refine RD.orE ?_ | refine RD.notE ?_ | refine RD.lst ?_ | refine RD.tup ?_ | refine RD.cb ?_ | refine RD.call ?_ | refine RD.callS ?_ | refine RD.make ?_ | refine RD.makeK ?_ | refine RD.meth ?_ | refine RD.methK ?_ | refine RD.prop ?_ | refine RD.fld ?_ | refine RD.bm ?_ | refine RD.par ?_ | refine RD.forL ?_ | refine RD.v0 ?_ | refine RD.v1 ?_ | refine RD.v2 ?_ | refine RD.v3 ?_ | refine RD.v4 ?_ | refine RD.v5 ?_ | refine RD.v6 ?_ | refine RD.v7 ?_ | refine RD.v8 ?_ | refine RD.v9 ?_ | refine RD.v10 ?_ | refine RD.v11 ?_ | refine RD.g0 ?_ | refine RD.g1 ?_ | refine RD.g2 ?_ | refine RD.g3 ?_ | refine RD.g4 ?_ | refine RD.g5 ?_ | refine RD.g6 ?_ | refine RD.g7 ?_ | refine RD.g8 ?_ | refine RD.g9 ?_ | refine RD.g10 ?_ | refine RD.g11 ?_ | refine And.intro (Eq.refl V.non) ?_))
    refine mach_newK rfl rfl (fun _ => rfl) r0 (.inl ⟨rfl, rfl⟩) fun H3 m3 s3 n3 M3 => ?_
    repeat (with_reducible (first | refine RD.seq ?_ | refine RD.asg ?_ | refine RD.ret ?_ | refine RD.retN ?_ | refine RD.next ?_ | refine RD.drop ?_ | refine RD.ifS ?_ | refine RD.con ?_ | refine RD.nil ?_ | refine RD.cons ?_ | refine RD.op ?_ | refine RD.un ?_ | refine RD.i0 ?_ | refine RD.iU ?_ | refine RD.test ?_ | refine RD.testE ?_ | refine RD.tb_ ?_ | refine RD.not_ ?_ | refine RD.and_ ?_ | refine RD.or_ ?_ | refine RD.if_ ?_ | refine RD.andV ?_ | refine RD.orV ?_ | refine RD.notV ?_ | refine RD.andE ?_ | refine RD.orE ?_ | refine RD.notE ?_ | refine RD.lst ?_ | refine RD.tup ?_ | refine RD.cb ?_ | refine RD.call ?_ | refine RD.callS ?_ | refine RD.make ?_ | refine RD.makeK ?_ | refine RD.meth ?_ | refine RD.methK ?_ | refine RD.prop ?_ | refine RD.fld ?_ | refine RD.bm ?_ | refine RD.par ?_ | refine RD.forL ?_ | refine RD.v0 ?_ | refine RD.v1 ?_ | refine RD.v2 ?_ | refine RD.v3 ?_ | refine RD.v4 ?_ | refine RD.v5 ?_ | refine RD.v6 ?_ | refine RD.v7 ?_ | refine RD.v8 ?_ | refine RD.v9 ?_ | refine RD.v10 ?_ | refine RD.v11 ?_ | refine RD.g0 ?_ | refine RD.g1 ?_ | refine RD.g2 ?_ | refine RD.g3 ?_ | refine RD.g4 ?_ | refine RD.g5 ?_ | refine RD.g6 ?_ | refine RD.g7 ?_ | refine RD.g8 ?_ | refine RD.g9 ?_ | refine RD.g10 ?_ | refine RD.g11 ?_ | refine And.intro (Eq.refl V.non) ?_))
    refine RD.lstE (Nat.le_of_ble_eq_true rfl) fun H4 l4 s4 n4 e4 => ?_
    repeat (with_reducible (first | refine RD.seq ?_ | refine RD.asg ?_ | refine RD.ret ?_ | refine RD.retN ?_ | refine RD.next ?_ | refine RD.drop ?_ | refine RD.ifS ?_ | refine RD.con ?_ | refine RD.nil ?_ | refine RD.cons ?_ | refine RD.op ?_ | refine RD.un ?_ | refine RD.i0 ?_ | refine RD.iU ?_ | refine RD.test ?_ | refine RD.testE ?_ | refine RD.tb_ ?_ | refine RD.not_ ?_ | refine RD.and_ ?_ | refine RD.or_ ?_ | refine RD.if_ ?_ | refine RD.andV ?_ | refine RD.orV ?_ | refine RD.notV ?_ | refine RD.andE ?_ | refine RD.orE ?_ | refine RD.notE ?_ | refine RD.lst ?_ | refine RD.tup ?_ | refine RD.cb ?_ | refine RD.call ?_ | refine RD.callS ?_ | refine RD.make ?_ | refine RD.makeK ?_ | refine RD.meth ?_ | refine RD.methK ?_ | refine RD.prop ?_ | refine RD.fld ?_ | refine RD.bm ?_ | refine RD.par ?_ | refine RD.forL ?_ | refine RD.v0 ?_ | refine RD.v1 ?_ | refine RD.v2 ?_ | refine RD.v3 ?_ | refine RD.v4 ?_ | refine RD.v5 ?_ | refine RD.v6 ?_ | refine RD.v7 ?_ | refine RD.v8 ?_ | refine RD.v9 ?_ | refine RD.v10 ?_ | refine RD.v11 ?_ | refine RD.g0 ?_ | refine RD.g1 ?_ | refine RD.g2 ?_ | refine RD.g3 ?_ | refine RD.g4 ?_ | refine RD.g5 ?_ | refine RD.g6 ?_ | refine RD.g7 ?_ | refine RD.g8 ?_ | refine RD.g9 ?_ | refine RD.g10 ?_ | refine RD.g11 ?_ | refine And.intro (Eq.refl V.non) ?_))
    have t4 := ((s1.tr s2).tr s3).tr s4
    have hm : ∀ x, x ∈ [V.ref m1, V.ref m2, V.ref m3] → ∀ H', Sam H4 H' → ∃ m, x = .ref m ∧ MO K H' m r r := fun x hx H' sm => by
      simp only [List.mem_cons, List.not_mem_nil, or_false] at hx
      rcases hx with rfl | rfl | rfl
      · exact ⟨m1, rfl, ((((M1.same s2).same s3).same s4).same sm)⟩
      · exact ⟨m2, rfl, (((M2.same s3).same s4).same sm)⟩
      · exact ⟨m3, rfl, ((M3.same s4).same sm)⟩
    refine RD.lcT (xs := [.ref m1, .ref m2, .ref m3]) (fun v => [some (.int r), some (.int b), some (.ref l4), some v, none]) (fun _ => rfl) (fun _ => rfl) rfl (SqL.of e4) (Nat.le_of_ble_eq_true rfl) (fun x hx H' Q' sm k => ?_) (fun H5 D5 s5 e5 => ?_)
    · obtain ⟨m, rfl, M⟩ := hm x hx H' sm
      repeat (with_reducible (first | refine RD.seq ?_ | refine RD.asg ?_ | refine RD.ret ?_ | refine RD.retN ?_ | refine RD.next ?_ | refine RD.drop ?_ | refine RD.ifS ?_ | refine RD.con ?_ | refine RD.nil ?_ | refine RD.cons ?_ | refine RD.op ?_ | refine RD.un ?_ | refine RD.i0 ?_ | refine RD.iU ?_ | refine RD.test ?_ | refine RD.testE ?_ | refine RD.tb_ ?_ | refine RD.not_ ?_ | refine RD.and_ ?_ | refine RD.or_ ?_ | refine RD.if_ ?_ | refine RD.andV ?_ | refine RD.orV ?_ | refine RD.notV ?_ | refine RD.andE ?_ | refine RD.orE ?_ | refine RD.notE ?_ | refine RD.lst ?_ | refine RD.tup ?_ | refine RD.cb ?_ | refine RD.call ?_ | refine RD.callS ?_ | refine RD.make ?_ | refine RD.makeK ?_ | refine RD.meth ?_ | refine RD.methK ?_ | refine RD.prop ?_ | refine RD.fld ?_ | refine RD.bm ?_ | refine RD.par ?_ | refine RD.forL ?_ | refine RD.v0 ?_ | refine RD.v1 ?_ | refine RD.v2 ?_ | refine RD.v3 ?_ | refine RD.v4 ?_ | refine RD.v5 ?_ | refine RD.v6 ?_ | refine RD.v7 ?_ | refine RD.v8 ?_ | refine RD.v9 ?_ | refine RD.v10 ?_ | refine RD.v11 ?_ | refine RD.g0 ?_ | refine RD.g1 ?_ | refine RD.g2 ?_ | refine RD.g3 ?_ | refine RD.g4 ?_ | refine RD.g5 ?_ | refine RD.g6 ?_ | refine RD.g7 ?_ | refine RD.g8 ?_ | refine RD.g9 ?_ | refine RD.g10 ?_ | refine RD.g11 ?_ | refine And.intro (Eq.refl V.non) ?_))
      exact ⟨_, _, _, rfl, M, r0, r1, r0, r1, k⟩
    repeat (with_reducible (first | refine RD.seq ?_ | refine RD.asg ?_ | refine RD.ret ?_ | refine RD.retN ?_ | refine RD.next ?_ | refine RD.drop ?_ | refine RD.ifS ?_ | refine RD.con ?_ | refine RD.nil ?_ | refine RD.cons ?_ | refine RD.op ?_ | refine RD.un ?_ | refine RD.i0 ?_ | refine RD.iU ?_ | refine RD.test ?_ | refine RD.testE ?_ | refine RD.tb_ ?_ | refine RD.not_ ?_ | refine RD.and_ ?_ | refine RD.or_ ?_ | refine RD.if_ ?_ | refine RD.andV ?_ | refine RD.orV ?_ | refine RD.notV ?_ | refine RD.andE ?_ | refine RD.orE ?_ | refine RD.notE ?_ | refine RD.lst ?_ | refine RD.tup ?_ | refine RD.cb ?_ | refine RD.call ?_ | refine RD.callS ?_ | refine RD.make ?_ | refine RD.makeK ?_ | refine RD.meth ?_ | refine RD.methK ?_ | refine RD.prop ?_ | refine RD.fld ?_ | refine RD.bm ?_ | refine RD.par ?_ | refine RD.forL ?_ | refine RD.v0 ?_ | refine RD.v1 ?_ | refine RD.v2 ?_ | refine RD.v3 ?_ | refine RD.v4 ?_ | refine RD.v5 ?_ | refine RD.v6 ?_ | refine RD.v7 ?_ | refine RD.v8 ?_ | refine RD.v9 ?_ | refine RD.v10 ?_ | refine RD.v11 ?_ | refine RD.g0 ?_ | refine RD.g1 ?_ | refine RD.g2 ?_ | refine RD.g3 ?_ | refine RD.g4 ?_ | refine RD.g5 ?_ | refine RD.g6 ?_ | refine RD.g7 ?_ | refine RD.g8 ?_ | refine RD.g9 ?_ | refine RD.g10 ?_ | refine RD.g11 ?_ | refine And.intro (Eq.refl V.non) ?_))
    refine RD.lstE (Nat.le_of_ble_eq_true rfl) fun H6 l6 s6 n6 e6 => ?_
    repeat (with_reducible (first | refine RD.seq ?_ | refine RD.asg ?_ | refine RD.ret ?_ | refine RD.retN ?_ | refine RD.next ?_ | refine RD.drop ?_ | refine RD.ifS ?_ | refine RD.con ?_ | refine RD.nil ?_ | refine RD.cons ?_ | refine RD.op ?_ | refine RD.un ?_ | refine RD.i0 ?_ | refine RD.iU ?_ | refine RD.test ?_ | refine RD.testE ?_ | refine RD.tb_ ?_ | refine RD.not_ ?_ | refine RD.and_ ?_ | refine RD.or_ ?_ | refine RD.if_ ?_ | refine RD.andV ?_ | refine RD.orV ?_ | refine RD.notV ?_ | refine RD.andE ?_ | refine RD.orE ?_ | refine RD.notE ?_ | refine RD.lst ?_ | refine RD.tup ?_ | refine RD.cb ?_ | refine RD.call ?_ | refine RD.callS ?_ | refine RD.make ?_ | refine RD.makeK ?_ | refine RD.meth ?_ | refine RD.methK ?_ | refine RD.prop ?_ | refine RD.fld ?_ | refine RD.bm ?_ | refine RD.par ?_ | refine RD.forL ?_ | refine RD.v0 ?_ | refine RD.v1 ?_ | refine RD.v2 ?_ | refine RD.v3 ?_ | refine RD.v4 ?_ | refine RD.v5 ?_ | refine RD.v6 ?_ | refine RD.v7 ?_ | refine RD.v8 ?_ | refine RD.v9 ?_ | refine RD.v10 ?_ | refine RD.v11 ?_ | refine RD.g0 ?_ | refine RD.g1 ?_ | refine RD.g2 ?_ | refine RD.g3 ?_ | refine RD.g4 ?_ | refine RD.g5 ?_ | refine RD.g6 ?_ | refine RD.g7 ?_ | refine RD.g8 ?_ | refine RD.g9 ?_ | refine RD.g10 ?_ | refine RD.g11 ?_ | refine And.intro (Eq.refl V.non) ?_))
    refine RD.rep (k := 3) e6 (Nat.le_of_ble_eq_true rfl) (Nat.le_of_ble_eq_true rfl) fun H7 l7 s7 n7 e7 => ?_
    refine RD.neD (.lst (SqL.of (s7 _ _ (s6 _ _ e5))) (.cons (.bl _) (.cons (.bl _) (.cons (.bl _) .nil)))) (.lst (SqL.of e7) (.cons (.bl _) (.cons (.bl _) (.cons (.bl _) .nil)))) rfl rfl ?_
    repeat (with_reducible (first | refine RD.seq ?_ | refine RD.asg ?_ | refine RD.ret ?_ | refine RD.retN ?_ | refine RD.next ?_ | refine RD.drop ?_ | refine RD.ifS ?_ | refine RD.con ?_ | refine RD.nil ?_ | refine RD.cons ?_ | refine RD.op ?_ | refine RD.un ?_ | refine RD.i0 ?_ | refine RD.iU ?_ | refine RD.test ?_ | refine RD.testE ?_ | refine RD.tb_ ?_ | refine RD.not_ ?_ | refine RD.and_ ?_ | refine RD.or_ ?_ | refine RD.if_ ?_ | refine RD.andV ?_ | refine RD.orV ?_ | refine RD.notV ?_ | refine RD.andE ?_ | refine RD.orE ?_ | refine RD.notE ?_ | refine RD.lst ?_ | refine RD.tup ?_ | refine RD.cb ?_ | refine RD.call ?_ | refine RD.callS ?_ | refine RD.make ?_ | refine RD.makeK ?_ | refine RD.meth ?_ | refine RD.methK ?_ | refine RD.prop ?_ | refine RD.fld ?_ | refine RD.bm ?_ | refine RD.par ?_ | refine RD.forL ?_ | refine RD.v0 ?_ | refine RD.v1 ?_ | refine RD.v2 ?_ | refine RD.v3 ?_ | refine RD.v4 ?_ | refine RD.v5 ?_ | refine RD.v6 ?_ | refine RD.v7 ?_ | refine RD.v8 ?_ | refine RD.v9 ?_ | refine RD.v10 ?_ | refine RD.v11 ?_ | refine RD.g0 ?_ | refine RD.g1 ?_ | refine RD.g2 ?_ | refine RD.g3 ?_ | refine RD.g4 ?_ | refine RD.g5 ?_ | refine RD.g6 ?_ | refine RD.g7 ?_ | refine RD.g8 ?_ | refine RD.g9 ?_ | refine RD.g10 ?_ | refine RD.g11 ?_ | refine And.intro (Eq.refl V.non) ?_))
    refine ite_f (by decide +kernel) ?_
    repeat (with_reducible (first | refine RD.seq ?_ | refine RD.asg ?_ | refine RD.ret ?_ | refine RD.retN ?_ | refine RD.next ?_ | refine RD.drop ?_ | refine RD.ifS ?_ | refine RD.con ?_ | refine RD.nil ?_ | refine RD.cons ?_ | refine RD.op ?_ | refine RD.un ?_ | refine RD.i0 ?_ | refine RD.iU ?_ | refine RD.test ?_ | refine RD.testE ?_ | refine RD.tb_ ?_ | refine RD.not_ ?_ | refine RD.and_ ?_ | refine RD.or_ ?_ | refine RD.if_ ?_ | refine RD.andV ?_ | refine RD.orV ?_ | refine RD.notV ?_ | refine RD.andE ?_ | refine RD.orE ?_ | refine RD.notE ?_ | refine RD.lst ?_ | refine RD.tup ?_ | refine RD.cb ?_ | refine RD.call ?_ | refine RD.callS ?_ | refine RD.make ?_ | refine RD.makeK ?_ | refine RD.meth ?_ | refine RD.methK ?_ | refine RD.prop ?_ | refine RD.fld ?_ | refine RD.bm ?_ | refine RD.par ?_ | refine RD.forL ?_ | refine RD.v0 ?_ | refine RD.v1 ?_ | refine RD.v2 ?_ | refine RD.v3 ?_ | refine RD.v4 ?_ | refine RD.v5 ?_ | refine RD.v6 ?_ | refine RD.v7 ?_ | refine RD.v8 ?_ | refine RD.v9 ?_ | refine RD.v10 ?_ | refine RD.v11 ?_ | refine RD.g0 ?_ | refine RD.g1 ?_ | refine RD.g2 ?_ | refine RD.g3 ?_ | refine RD.g4 ?_ | refine RD.g5 ?_ | refine RD.g6 ?_ | refine RD.g7 ?_ | refine RD.g8 ?_ | refine RD.g9 ?_ | refine RD.g10 ?_ | refine RD.g11 ?_ | refine And.intro (Eq.refl V.non) ?_))
    refine mach_new rfl r0 (.inr ⟨rfl, by decide⟩) fun H8 m8 s8 n8 M8 => ?_
    repeat (with_reducible (first | refine RD.seq ?_ | refine RD.asg ?_ | refine RD.ret ?_ | refine RD.retN ?_ | refine RD.next ?_ | refine RD.drop ?_ | refine RD.ifS ?_ | refine RD.con ?_ | refine RD.nil ?_ | refine RD.cons ?_ | refine RD.op ?_ | refine RD.un ?_ | refine RD.i0 ?_ | refine RD.iU ?_ | refine RD.test ?_ | refine RD.testE ?_ | refine RD.tb_ ?_ | refine RD.not_ ?_ | refine RD.and_ ?_ | refine RD.or_ ?_ | refine RD.if_ ?_ | refine RD.andV ?_ | refine RD.orV ?_ | refine RD.notV ?_ | refine RD.andE ?_ | refine RD.orE ?_ | refine RD.notE ?_ | refine RD.lst ?_ | refine RD.tup ?_ | refine RD.cb ?_ | refine RD.call ?_ | refine RD.callS ?_ | refine RD.make ?_ | refine RD.makeK ?_ | refine RD.meth ?_ | refine RD.methK ?_ | refine RD.prop ?_ | refine RD.fld ?_ | refine RD.bm ?_ | refine RD.par ?_ | refine RD.forL ?_ | refine RD.v0 ?_ | refine RD.v1 ?_ | refine RD.v2 ?_ | refine RD.v3 ?_ | refine RD.v4 ?_ | refine RD.v5 ?_ | refine RD.v6 ?_ | refine RD.v7 ?_ | refine RD.v8 ?_ | refine RD.v9 ?_ | refine RD.v10 ?_ | refine RD.v11 ?_ | refine RD.g0 ?_ | refine RD.g1 ?_ | refine RD.g2 ?_ | refine RD.g3 ?_ | refine RD.g4 ?_ | refine RD.g5 ?_ | refine RD.g6 ?_ | refine RD.g7 ?_ | refine RD.g8 ?_ | refine RD.g9 ?_ | refine RD.g10 ?_ | refine RD.g11 ?_ | refine And.intro (Eq.refl V.non) ?_))
    refine ⟨_, _, _, rfl, M8, r0, r1, by decide, by decide, fun H9 s9 => ?_⟩
    repeat (with_reducible (first | refine RD.seq ?_ | refine RD.asg ?_ | refine RD.ret ?_ | refine RD.retN ?_ | refine RD.next ?_ | refine RD.drop ?_ | refine RD.ifS ?_ | refine RD.con ?_ | refine RD.nil ?_ | refine RD.cons ?_ | refine RD.op ?_ | refine RD.un ?_ | refine RD.i0 ?_ | refine RD.iU ?_ | refine RD.test ?_ | refine RD.testE ?_ | refine RD.tb_ ?_ | refine RD.not_ ?_ | refine RD.and_ ?_ | refine RD.or_ ?_ | refine RD.if_ ?_ | refine RD.andV ?_ | refine RD.orV ?_ | refine RD.notV ?_ | refine RD.andE ?_ | refine RD.orE ?_ | refine RD.notE ?_ | refine RD.lst ?_ | refine RD.tup ?_ | refine RD.cb ?_ | refine RD.call ?_ | refine RD.callS ?_ | refine RD.make ?_ | refine RD.makeK ?_ | refine RD.meth ?_ | refine RD.methK ?_ | refine RD.prop ?_ | refine RD.fld ?_ | refine RD.bm ?_ | refine RD.par ?_ | refine RD.forL ?_ | refine RD.v0 ?_ | refine RD.v1 ?_ | refine RD.v2 ?_ | refine RD.v3 ?_ | refine RD.v4 ?_ | refine RD.v5 ?_ | refine RD.v6 ?_ | refine RD.v7 ?_ | refine RD.v8 ?_ | refine RD.v9 ?_ | refine RD.v10 ?_ | refine RD.v11 ?_ | refine RD.g0 ?_ | refine RD.g1 ?_ | refine RD.g2 ?_ | refine RD.g3 ?_ | refine RD.g4 ?_ | refine RD.g5 ?_ | refine RD.g6 ?_ | refine RD.g7 ?_ | refine RD.g8 ?_ | refine RD.g9 ?_ | refine RD.g10 ?_ | refine RD.g11 ?_ | refine And.intro (Eq.refl V.non) ?_))
    refine ite_f rfl ?_
    repeat (with_reducible (first | refine RD.seq ?_ | refine RD.asg ?_ | refine RD.ret ?_ | refine RD.retN ?_ | refine RD.next ?_ | refine RD.drop ?_ | refine RD.ifS ?_ | refine RD.con ?_ | refine RD.nil ?_ | refine RD.cons ?_ | refine RD.op ?_ | refine RD.un ?_ | refine RD.i0 ?_ | refine RD.iU ?_ | refine RD.test ?_ | refine RD.testE ?_ | refine RD.tb_ ?_ | refine RD.not_ ?_ | refine RD.and_ ?_ | refine RD.or_ ?_ | refine RD.if_ ?_ | refine RD.andV ?_ | refine RD.orV ?_ | refine RD.notV ?_ | refine RD.andE ?_ | refine RD.orE ?_ | refine RD.notE ?_ | refine RD.lst ?_ | refine RD.tup ?_ | refine RD.cb ?_ | refine RD.call ?_ | refine RD.callS ?_ | refine RD.make ?_ | refine RD.makeK ?_ | refine RD.meth ?_ | refine RD.methK ?_ | refine RD.prop ?_ | refine RD.fld ?_ | refine RD.bm ?_ | refine RD.par ?_ | refine RD.forL ?_ | refine RD.v0 ?_ | refine RD.v1 ?_ | refine RD.v2 ?_ | refine RD.v3 ?_ | refine RD.v4 ?_ | refine RD.v5 ?_ | refine RD.v6 ?_ | refine RD.v7 ?_ | refine RD.v8 ?_ | refine RD.v9 ?_ | refine RD.v10 ?_ | refine RD.v11 ?_ | refine RD.g0 ?_ | refine RD.g1 ?_ | refine RD.g2 ?_ | refine RD.g3 ?_ | refine RD.g4 ?_ | refine RD.g5 ?_ | refine RD.g6 ?_ | refine RD.g7 ?_ | refine RD.g8 ?_ | refine RD.g9 ?_ | refine RD.g10 ?_ | refine RD.g11 ?_ | refine And.intro (Eq.refl V.non) ?_))
    refine mach_new rfl (by decide) (.inl ⟨rfl, rfl⟩) fun H10 m10 s10 n10 M10 => ?_
    repeat (with_reducible (first | refine RD.seq ?_ | refine RD.asg ?_ | refine RD.ret ?_ | refine RD.retN ?_ | refine RD.next ?_ | refine RD.drop ?_ | refine RD.ifS ?_ | refine RD.con ?_ | refine RD.nil ?_ | refine RD.cons ?_ | refine RD.op ?_ | refine RD.un ?_ | refine RD.i0 ?_ | refine RD.iU ?_ | refine RD.test ?_ | refine RD.testE ?_ | refine RD.tb_ ?_ | refine RD.not_ ?_ | refine RD.and_ ?_ | refine RD.or_ ?_ | refine RD.if_ ?_ | refine RD.andV ?_ | refine RD.orV ?_ | refine RD.notV ?_ | refine RD.andE ?_ | refine RD.orE ?_ | refine RD.notE ?_ | refine RD.lst ?_ | refine RD.tup ?_ | refine RD.cb ?_ | refine RD.call ?_ | refine RD.callS ?_ | refine RD.make ?_ | refine RD.makeK ?_ | refine RD.meth ?_ | refine RD.methK ?_ | refine RD.prop ?_ | refine RD.fld ?_ | refine RD.bm ?_ | refine RD.par ?_ | refine RD.forL ?_ | refine RD.v0 ?_ | refine RD.v1 ?_ | refine RD.v2 ?_ | refine RD.v3 ?_ | refine RD.v4 ?_ | refine RD.v5 ?_ | refine RD.v6 ?_ | refine RD.v7 ?_ | refine RD.v8 ?_ | refine RD.v9 ?_ | refine RD.v10 ?_ | refine RD.v11 ?_ | refine RD.g0 ?_ | refine RD.g1 ?_ | refine RD.g2 ?_ | refine RD.g3 ?_ | refine RD.g4 ?_ | refine RD.g5 ?_ | refine RD.g6 ?_ | refine RD.g7 ?_ | refine RD.g8 ?_ | refine RD.g9 ?_ | refine RD.g10 ?_ | refine RD.g11 ?_ | refine And.intro (Eq.refl V.non) ?_))
    refine ⟨_, _, _, rfl, M10, by decide, by decide, by decide, by decide, fun H11 s11 => ?_⟩
    repeat (with_reducible (first | refine RD.seq ?_ | refine RD.asg ?_ | refine RD.ret ?_ | refine RD.retN ?_ | refine RD.next ?_ | refine RD.drop ?_ | refine RD.ifS ?_ | refine RD.con ?_ | refine RD.nil ?_ | refine RD.cons ?_ | refine RD.op ?_ | refine RD.un ?_ | refine RD.i0 ?_ | refine RD.iU ?_ | refine RD.test ?_ | refine RD.testE ?_ | refine RD.tb_ ?_ | refine RD.not_ ?_ | refine RD.and_ ?_ | refine RD.or_ ?_ | refine RD.if_ ?_ | refine RD.andV ?_ | refine RD.orV ?_ | refine RD.notV ?_ | refine RD.andE ?_ | refine RD.orE ?_ | refine RD.notE ?_ | refine RD.lst ?_ | refine RD.tup ?_ | refine RD.cb ?_ | refine RD.call ?_ | refine RD.callS ?_ | refine RD.make ?_ | refine RD.makeK ?_ | refine RD.meth ?_ | refine RD.methK ?_ | refine RD.prop ?_ | refine RD.fld ?_ | refine RD.bm ?_ | refine RD.par ?_ | refine RD.forL ?_ | refine RD.v0 ?_ | refine RD.v1 ?_ | refine RD.v2 ?_ | refine RD.v3 ?_ | refine RD.v4 ?_ | refine RD.v5 ?_ | refine RD.v6 ?_ | refine RD.v7 ?_ | refine RD.v8 ?_ | refine RD.v9 ?_ | refine RD.v10 ?_ | refine RD.v11 ?_ | refine RD.g0 ?_ | refine RD.g1 ?_ | refine RD.g2 ?_ | refine RD.g3 ?_ | refine RD.g4 ?_ | refine RD.g5 ?_ | refine RD.g6 ?_ | refine RD.g7 ?_ | refine RD.g8 ?_ | refine RD.g9 ?_ | refine RD.g10 ?_ | refine RD.g11 ?_ | refine And.intro (Eq.refl V.non) ?_))
    refine ite_f rfl ?_
    repeat (with_reducible (first | refine RD.seq ?_ | refine RD.asg ?_ | refine RD.ret ?_ | refine RD.retN ?_ | refine RD.next ?_ | refine RD.drop ?_ | refine RD.ifS ?_ | refine RD.con ?_ | refine RD.nil ?_ | refine RD.cons ?_ | refine RD.op ?_ | refine RD.un ?_ | refine RD.i0 ?_ | refine RD.iU ?_ | refine RD.test ?_ | refine RD.testE ?_ | refine RD.tb_ ?_ | refine RD.not_ ?_ | refine RD.and_ ?_ | refine RD.or_ ?_ | refine RD.if_ ?_ | refine RD.andV ?_ | refine RD.orV ?_ | refine RD.notV ?_ | refine RD.andE ?_ | refine RD.orE ?_ | refine RD.notE ?_ | refine RD.lst ?_ | refine RD.tup ?_ | refine RD.cb ?_ | refine RD.call ?_ | refine RD.callS ?_ | refine RD.make ?_ | refine RD.makeK ?_ | refine RD.meth ?_ | refine RD.methK ?_ | refine RD.prop ?_ | refine RD.fld ?_ | refine RD.bm ?_ | refine RD.par ?_ | refine RD.forL ?_ | refine RD.v0 ?_ | refine RD.v1 ?_ | refine RD.v2 ?_ | refine RD.v3 ?_ | refine RD.v4 ?_ | refine RD.v5 ?_ | refine RD.v6 ?_ | refine RD.v7 ?_ | refine RD.v8 ?_ | refine RD.v9 ?_ | refine RD.v10 ?_ | refine RD.v11 ?_ | refine RD.g0 ?_ | refine RD.g1 ?_ | refine RD.g2 ?_ | refine RD.g3 ?_ | refine RD.g4 ?_ | refine RD.g5 ?_ | refine RD.g6 ?_ | refine RD.g7 ?_ | refine RD.g8 ?_ | refine RD.g9 ?_ | refine RD.g10 ?_ | refine RD.g11 ?_ | refine And.intro (Eq.refl V.non) ?_))
    refine mach_new rfl r0 (.inr ⟨rfl, b0⟩) fun H12 a1 s12 n12 A1 => ?_
    repeat (with_reducible (first | refine RD.seq ?_ | refine RD.asg ?_ | refine RD.ret ?_ | refine RD.retN ?_ | refine RD.next ?_ | refine RD.drop ?_ | refine RD.ifS ?_ | refine RD.con ?_ | refine RD.nil ?_ | refine RD.cons ?_ | refine RD.op ?_ | refine RD.un ?_ | refine RD.i0 ?_ | refine RD.iU ?_ | refine RD.test ?_ | refine RD.testE ?_ | refine RD.tb_ ?_ | refine RD.not_ ?_ | refine RD.and_ ?_ | refine RD.or_ ?_ | refine RD.if_ ?_ | refine RD.andV ?_ | refine RD.orV ?_ | refine RD.notV ?_ | refine RD.andE ?_ | refine RD.orE ?_ | refine RD.notE ?_ | refine RD.lst ?_ | refine RD.tup ?_ | refine RD.cb ?_ | refine RD.call ?_ | refine RD.callS ?_ | refine RD.make ?_ | refine RD.makeK ?_ | refine RD.meth ?_ | refine RD.methK ?_ | refine RD.prop ?_ | refine RD.fld ?_ | refine RD.bm ?_ | refine RD.par ?_ | refine RD.forL ?_ | refine RD.v0 ?_ | refine RD.v1 ?_ | refine RD.v2 ?_ | refine RD.v3 ?_ | refine RD.v4 ?_ | refine RD.v5 ?_ | refine RD.v6 ?_ | refine RD.v7 ?_ | refine RD.v8 ?_ | refine RD.v9 ?_ | refine RD.v10 ?_ | refine RD.v11 ?_ | refine RD.g0 ?_ | refine RD.g1 ?_ | refine RD.g2 ?_ | refine RD.g3 ?_ | refine RD.g4 ?_ | refine RD.g5 ?_ | refine RD.g6 ?_ | refine RD.g7 ?_ | refine RD.g8 ?_ | refine RD.g9 ?_ | refine RD.g10 ?_ | refine RD.g11 ?_ | refine And.intro (Eq.refl V.non) ?_))
    refine mach_newK rfl rfl (fun _ => rfl) r0 (.inr ⟨rfl, b0⟩) fun H13 a2 s13 n13 A2 => ?_
    repeat (with_reducible (first | refine RD.seq ?_ | refine RD.asg ?_ | refine RD.ret ?_ | refine RD.retN ?_ | refine RD.next ?_ | refine RD.drop ?_ | refine RD.ifS ?_ | refine RD.con ?_ | refine RD.nil ?_ | refine RD.cons ?_ | refine RD.op ?_ | refine RD.un ?_ | refine RD.i0 ?_ | refine RD.iU ?_ | refine RD.test ?_ | refine RD.testE ?_ | refine RD.tb_ ?_ | refine RD.not_ ?_ | refine RD.and_ ?_ | refine RD.or_ ?_ | refine RD.if_ ?_ | refine RD.andV ?_ | refine RD.orV ?_ | refine RD.notV ?_ | refine RD.andE ?_ | refine RD.orE ?_ | refine RD.notE ?_ | refine RD.lst ?_ | refine RD.tup ?_ | refine RD.cb ?_ | refine RD.call ?_ | refine RD.callS ?_ | refine RD.make ?_ | refine RD.makeK ?_ | refine RD.meth ?_ | refine RD.methK ?_ | refine RD.prop ?_ | refine RD.fld ?_ | refine RD.bm ?_ | refine RD.par ?_ | refine RD.forL ?_ | refine RD.v0 ?_ | refine RD.v1 ?_ | refine RD.v2 ?_ | refine RD.v3 ?_ | refine RD.v4 ?_ | refine RD.v5 ?_ | refine RD.v6 ?_ | refine RD.v7 ?_ | refine RD.v8 ?_ | refine RD.v9 ?_ | refine RD.v10 ?_ | refine RD.v11 ?_ | refine RD.g0 ?_ | refine RD.g1 ?_ | refine RD.g2 ?_ | refine RD.g3 ?_ | refine RD.g4 ?_ | refine RD.g5 ?_ | refine RD.g6 ?_ | refine RD.g7 ?_ | refine RD.g8 ?_ | refine RD.g9 ?_ | refine RD.g10 ?_ | refine RD.g11 ?_ | refine And.intro (Eq.refl V.non) ?_))
    refine RD.lstE (Nat.le_of_ble_eq_true rfl) fun H14 l14 s14 n14 e14 => ?_
    repeat (with_reducible (first | refine RD.seq ?_ | refine RD.asg ?_ | refine RD.ret ?_ | refine RD.retN ?_ | refine RD.next ?_ | refine RD.drop ?_ | refine RD.ifS ?_ | refine RD.con ?_ | refine RD.nil ?_ | refine RD.cons ?_ | refine RD.op ?_ | refine RD.un ?_ | refine RD.i0 ?_ | refine RD.iU ?_ | refine RD.test ?_ | refine RD.testE ?_ | refine RD.tb_ ?_ | refine RD.not_ ?_ | refine RD.and_ ?_ | refine RD.or_ ?_ | refine RD.if_ ?_ | refine RD.andV ?_ | refine RD.orV ?_ | refine RD.notV ?_ | refine RD.andE ?_ | refine RD.orE ?_ | refine RD.notE ?_ | refine RD.lst ?_ | refine RD.tup ?_ | refine RD.cb ?_ | refine RD.call ?_ | refine RD.callS ?_ | refine RD.make ?_ | refine RD.makeK ?_ | refine RD.meth ?_ | refine RD.methK ?_ | refine RD.prop ?_ | refine RD.fld ?_ | refine RD.bm ?_ | refine RD.par ?_ | refine RD.forL ?_ | refine RD.v0 ?_ | refine RD.v1 ?_ | refine RD.v2 ?_ | refine RD.v3 ?_ | refine RD.v4 ?_ | refine RD.v5 ?_ | refine RD.v6 ?_ | refine RD.v7 ?_ | refine RD.v8 ?_ | refine RD.v9 ?_ | refine RD.v10 ?_ | refine RD.v11 ?_ | refine RD.g0 ?_ | refine RD.g1 ?_ | refine RD.g2 ?_ | refine RD.g3 ?_ | refine RD.g4 ?_ | refine RD.g5 ?_ | refine RD.g6 ?_ | refine RD.g7 ?_ | refine RD.g8 ?_ | refine RD.g9 ?_ | refine RD.g10 ?_ | refine RD.g11 ?_ | refine And.intro (Eq.refl V.non) ?_))
    refine RD.bmE (SqL.of e14) ?_
    repeat (with_reducible (first | refine RD.seq ?_ | refine RD.asg ?_ | refine RD.ret ?_ | refine RD.retN ?_ | refine RD.next ?_ | refine RD.drop ?_ | refine RD.ifS ?_ | refine RD.con ?_ | refine RD.nil ?_ | refine RD.cons ?_ | refine RD.op ?_ | refine RD.un ?_ | refine RD.i0 ?_ | refine RD.iU ?_ | refine RD.test ?_ | refine RD.testE ?_ | refine RD.tb_ ?_ | refine RD.not_ ?_ | refine RD.and_ ?_ | refine RD.or_ ?_ | refine RD.if_ ?_ | refine RD.andV ?_ | refine RD.orV ?_ | refine RD.notV ?_ | refine RD.andE ?_ | refine RD.orE ?_ | refine RD.notE ?_ | refine RD.lst ?_ | refine RD.tup ?_ | refine RD.cb ?_ | refine RD.call ?_ | refine RD.callS ?_ | refine RD.make ?_ | refine RD.makeK ?_ | refine RD.meth ?_ | refine RD.methK ?_ | refine RD.prop ?_ | refine RD.fld ?_ | refine RD.bm ?_ | refine RD.par ?_ | refine RD.forL ?_ | refine RD.v0 ?_ | refine RD.v1 ?_ | refine RD.v2 ?_ | refine RD.v3 ?_ | refine RD.v4 ?_ | refine RD.v5 ?_ | refine RD.v6 ?_ | refine RD.v7 ?_ | refine RD.v8 ?_ | refine RD.v9 ?_ | refine RD.v10 ?_ | refine RD.v11 ?_ | refine RD.g0 ?_ | refine RD.g1 ?_ | refine RD.g2 ?_ | refine RD.g3 ?_ | refine RD.g4 ?_ | refine RD.g5 ?_ | refine RD.g6 ?_ | refine RD.g7 ?_ | refine RD.g8 ?_ | refine RD.g9 ?_ | refine RD.g10 ?_ | refine RD.g11 ?_ | refine And.intro (Eq.refl V.non) ?_))
    refine mach_newK rfl rfl (fun _ => rfl) r0 (.inr ⟨rfl, b0⟩) fun H15 a3 s15 n15 A3 => ?_
    repeat (with_reducible (first | refine RD.seq ?_ | refine RD.asg ?_ | refine RD.ret ?_ | refine RD.retN ?_ | refine RD.next ?_ | refine RD.drop ?_ | refine RD.ifS ?_ | refine RD.con ?_ | refine RD.nil ?_ | refine RD.cons ?_ | refine RD.op ?_ | refine RD.un ?_ | refine RD.i0 ?_ | refine RD.iU ?_ | refine RD.test ?_ | refine RD.testE ?_ | refine RD.tb_ ?_ | refine RD.not_ ?_ | refine RD.and_ ?_ | refine RD.or_ ?_ | refine RD.if_ ?_ | refine RD.andV ?_ | refine RD.orV ?_ | refine RD.notV ?_ | refine RD.andE ?_ | refine RD.orE ?_ | refine RD.notE ?_ | refine RD.lst ?_ | refine RD.tup ?_ | refine RD.cb ?_ | refine RD.call ?_ | refine RD.callS ?_ | refine RD.make ?_ | refine RD.makeK ?_ | refine RD.meth ?_ | refine RD.methK ?_ | refine RD.prop ?_ | refine RD.fld ?_ | refine RD.bm ?_ | refine RD.par ?_ | refine RD.forL ?_ | refine RD.v0 ?_ | refine RD.v1 ?_ | refine RD.v2 ?_ | refine RD.v3 ?_ | refine RD.v4 ?_ | refine RD.v5 ?_ | refine RD.v6 ?_ | refine RD.v7 ?_ | refine RD.v8 ?_ | refine RD.v9 ?_ | refine RD.v10 ?_ | refine RD.v11 ?_ | refine RD.g0 ?_ | refine RD.g1 ?_ | refine RD.g2 ?_ | refine RD.g3 ?_ | refine RD.g4 ?_ | refine RD.g5 ?_ | refine RD.g6 ?_ | refine RD.g7 ?_ | refine RD.g8 ?_ | refine RD.g9 ?_ | refine RD.g10 ?_ | refine RD.g11 ?_ | refine And.intro (Eq.refl V.non) ?_))
    refine RD.app (s15 _ _ e14) (Nat.le_of_ble_eq_true rfl) ?_
    repeat (with_reducible (first | refine RD.seq ?_ | refine RD.asg ?_ | refine RD.ret ?_ | refine RD.retN ?_ | refine RD.next ?_ | refine RD.drop ?_ | refine RD.ifS ?_ | refine RD.con ?_ | refine RD.nil ?_ | refine RD.cons ?_ | refine RD.op ?_ | refine RD.un ?_ | refine RD.i0 ?_ | refine RD.iU ?_ | refine RD.test ?_ | refine RD.testE ?_ | refine RD.tb_ ?_ | refine RD.not_ ?_ | refine RD.and_ ?_ | refine RD.or_ ?_ | refine RD.if_ ?_ | refine RD.andV ?_ | refine RD.orV ?_ | refine RD.notV ?_ | refine RD.andE ?_ | refine RD.orE ?_ | refine RD.notE ?_ | refine RD.lst ?_ | refine RD.tup ?_ | refine RD.cb ?_ | refine RD.call ?_ | refine RD.callS ?_ | refine RD.make ?_ | refine RD.makeK ?_ | refine RD.meth ?_ | refine RD.methK ?_ | refine RD.prop ?_ | refine RD.fld ?_ | refine RD.bm ?_ | refine RD.par ?_ | refine RD.forL ?_ | refine RD.v0 ?_ | refine RD.v1 ?_ | refine RD.v2 ?_ | refine RD.v3 ?_ | refine RD.v4 ?_ | refine RD.v5 ?_ | refine RD.v6 ?_ | refine RD.v7 ?_ | refine RD.v8 ?_ | refine RD.v9 ?_ | refine RD.v10 ?_ | refine RD.v11 ?_ | refine RD.g0 ?_ | refine RD.g1 ?_ | refine RD.g2 ?_ | refine RD.g3 ?_ | refine RD.g4 ?_ | refine RD.g5 ?_ | refine RD.g6 ?_ | refine RD.g7 ?_ | refine RD.g8 ?_ | refine RD.g9 ?_ | refine RD.g10 ?_ | refine RD.g11 ?_ | refine And.intro (Eq.refl V.non) ?_))
    have t12 := (((((((t4.tr s5).tr s6).tr s7).tr s8).tr s9).tr s10).tr s11).tr s12
    have sx : SamX l14 H15 (upd H15 l14 (.lst ([.ref a1, .ref a2] ++ [.ref a3]))) := fun c o n e => by rw [upd_ne n]; exact e
    generalize hH : upd H15 l14 (.lst ([.ref a1, .ref a2] ++ [.ref a3])) = H16 at sx
    have e16 : H16 l14 = some (.lst ([.ref a1, .ref a2] ++ [.ref a3])) := by rw [← hH, upd_same]
    have A1' := (((A1.same s13).same s14).same s15).sx (s15 _ _ e14) sx
    have A2' := ((A2.same s14).same s15).sx (s15 _ _ e14) sx
    have A3' := A3.sx (s15 _ _ e14) sx
    have n21 : a1 ≠ a2 := fun z => by
      obtain ⟨dx, wa, e1, _⟩ := A1
      rw [z, n13] at e1
      cases e1
    have B1 := A1'
    have B2 := A2'
    obtain ⟨dx1, wa1, f1, _⟩ := B1
    obtain ⟨dx2, wa2, f2, _⟩ := B2
    refine RD.ixL (j := 0) (SqL.of e16) rfl ?_
    repeat (with_reducible (first | refine RD.seq ?_ | refine RD.asg ?_ | refine RD.ret ?_ | refine RD.retN ?_ | refine RD.next ?_ | refine RD.drop ?_ | refine RD.ifS ?_ | refine RD.con ?_ | refine RD.nil ?_ | refine RD.cons ?_ | refine RD.op ?_ | refine RD.un ?_ | refine RD.i0 ?_ | refine RD.iU ?_ | refine RD.test ?_ | refine RD.testE ?_ | refine RD.tb_ ?_ | refine RD.not_ ?_ | refine RD.and_ ?_ | refine RD.or_ ?_ | refine RD.if_ ?_ | refine RD.andV ?_ | refine RD.orV ?_ | refine RD.notV ?_ | refine RD.andE ?_ | refine RD.orE ?_ | refine RD.notE ?_ | refine RD.lst ?_ | refine RD.tup ?_ | refine RD.cb ?_ | refine RD.call ?_ | refine RD.callS ?_ | refine RD.make ?_ | refine RD.makeK ?_ | refine RD.meth ?_ | refine RD.methK ?_ | refine RD.prop ?_ | refine RD.fld ?_ | refine RD.bm ?_ | refine RD.par ?_ | refine RD.forL ?_ | refine RD.v0 ?_ | refine RD.v1 ?_ | refine RD.v2 ?_ | refine RD.v3 ?_ | refine RD.v4 ?_ | refine RD.v5 ?_ | refine RD.v6 ?_ | refine RD.v7 ?_ | refine RD.v8 ?_ | refine RD.v9 ?_ | refine RD.v10 ?_ | refine RD.v11 ?_ | refine RD.g0 ?_ | refine RD.g1 ?_ | refine RD.g2 ?_ | refine RD.g3 ?_ | refine RD.g4 ?_ | refine RD.g5 ?_ | refine RD.g6 ?_ | refine RD.g7 ?_ | refine RD.g8 ?_ | refine RD.g9 ?_ | refine RD.g10 ?_ | refine RD.g11 ?_ | refine And.intro (Eq.refl V.non) ?_))
    refine RD.ixL (j := 1) (SqL.of e16) rfl ?_
    refine ⟨a1, _, dx1, _, rfl, f1, idc, .inl ⟨a2, dx2, _, rfl, f2, ?_⟩⟩
    rw [decide_eq_false n21]
    repeat (with_reducible (first | refine RD.seq ?_ | refine RD.asg ?_ | refine RD.ret ?_ | refine RD.retN ?_ | refine RD.next ?_ | refine RD.drop ?_ | refine RD.ifS ?_ | refine RD.con ?_ | refine RD.nil ?_ | refine RD.cons ?_ | refine RD.op ?_ | refine RD.un ?_ | refine RD.i0 ?_ | refine RD.iU ?_ | refine RD.test ?_ | refine RD.testE ?_ | refine RD.tb_ ?_ | refine RD.not_ ?_ | refine RD.and_ ?_ | refine RD.or_ ?_ | refine RD.if_ ?_ | refine RD.andV ?_ | refine RD.orV ?_ | refine RD.notV ?_ | refine RD.andE ?_ | refine RD.orE ?_ | refine RD.notE ?_ | refine RD.lst ?_ | refine RD.tup ?_ | refine RD.cb ?_ | refine RD.call ?_ | refine RD.callS ?_ | refine RD.make ?_ | refine RD.makeK ?_ | refine RD.meth ?_ | refine RD.methK ?_ | refine RD.prop ?_ | refine RD.fld ?_ | refine RD.bm ?_ | refine RD.par ?_ | refine RD.forL ?_ | refine RD.v0 ?_ | refine RD.v1 ?_ | refine RD.v2 ?_ | refine RD.v3 ?_ | refine RD.v4 ?_ | refine RD.v5 ?_ | refine RD.v6 ?_ | refine RD.v7 ?_ | refine RD.v8 ?_ | refine RD.v9 ?_ | refine RD.v10 ?_ | refine RD.v11 ?_ | refine RD.g0 ?_ | refine RD.g1 ?_ | refine RD.g2 ?_ | refine RD.g3 ?_ | refine RD.g4 ?_ | refine RD.g5 ?_ | refine RD.g6 ?_ | refine RD.g7 ?_ | refine RD.g8 ?_ | refine RD.g9 ?_ | refine RD.g10 ?_ | refine RD.g11 ?_ | refine And.intro (Eq.refl V.non) ?_))
    refine ite_f rfl ?_
    repeat (with_reducible (first | refine RD.seq ?_ | refine RD.asg ?_ | refine RD.ret ?_ | refine RD.retN ?_ | refine RD.next ?_ | refine RD.drop ?_ | refine RD.ifS ?_ | refine RD.con ?_ | refine RD.nil ?_ | refine RD.cons ?_ | refine RD.op ?_ | refine RD.un ?_ | refine RD.i0 ?_ | refine RD.iU ?_ | refine RD.test ?_ | refine RD.testE ?_ | refine RD.tb_ ?_ | refine RD.not_ ?_ | refine RD.and_ ?_ | refine RD.or_ ?_ | refine RD.if_ ?_ | refine RD.andV ?_ | refine RD.orV ?_ | refine RD.notV ?_ | refine RD.andE ?_ | refine RD.orE ?_ | refine RD.notE ?_ | refine RD.lst ?_ | refine RD.tup ?_ | refine RD.cb ?_ | refine RD.call ?_ | refine RD.callS ?_ | refine RD.make ?_ | refine RD.makeK ?_ | refine RD.meth ?_ | refine RD.methK ?_ | refine RD.prop ?_ | refine RD.fld ?_ | refine RD.bm ?_ | refine RD.par ?_ | refine RD.forL ?_ | refine RD.v0 ?_ | refine RD.v1 ?_ | refine RD.v2 ?_ | refine RD.v3 ?_ | refine RD.v4 ?_ | refine RD.v5 ?_ | refine RD.v6 ?_ | refine RD.v7 ?_ | refine RD.v8 ?_ | refine RD.v9 ?_ | refine RD.v10 ?_ | refine RD.v11 ?_ | refine RD.g0 ?_ | refine RD.g1 ?_ | refine RD.g2 ?_ | refine RD.g3 ?_ | refine RD.g4 ?_ | refine RD.g5 ?_ | refine RD.g6 ?_ | refine RD.g7 ?_ | refine RD.g8 ?_ | refine RD.g9 ?_ | refine RD.g10 ?_ | refine RD.g11 ?_ | refine And.intro (Eq.refl V.non) ?_))
    refine RD.ixL (j := 0) (SqL.of e16) rfl ?_
    repeat (with_reducible (first | refine RD.seq ?_ | refine RD.asg ?_ | refine RD.ret ?_ | refine RD.retN ?_ | refine RD.next ?_ | refine RD.drop ?_ | refine RD.ifS ?_ | refine RD.con ?_ | refine RD.nil ?_ | refine RD.cons ?_ | refine RD.op ?_ | refine RD.un ?_ | refine RD.i0 ?_ | refine RD.iU ?_ | refine RD.test ?_ | refine RD.testE ?_ | refine RD.tb_ ?_ | refine RD.not_ ?_ | refine RD.and_ ?_ | refine RD.or_ ?_ | refine RD.if_ ?_ | refine RD.andV ?_ | refine RD.orV ?_ | refine RD.notV ?_ | refine RD.andE ?_ | refine RD.orE ?_ | refine RD.notE ?_ | refine RD.lst ?_ | refine RD.tup ?_ | refine RD.cb ?_ | refine RD.call ?_ | refine RD.callS ?_ | refine RD.make ?_ | refine RD.makeK ?_ | refine RD.meth ?_ | refine RD.methK ?_ | refine RD.prop ?_ | refine RD.fld ?_ | refine RD.bm ?_ | refine RD.par ?_ | refine RD.forL ?_ | refine RD.v0 ?_ | refine RD.v1 ?_ | refine RD.v2 ?_ | refine RD.v3 ?_ | refine RD.v4 ?_ | refine RD.v5 ?_ | refine RD.v6 ?_ | refine RD.v7 ?_ | refine RD.v8 ?_ | refine RD.v9 ?_ | refine RD.v10 ?_ | refine RD.v11 ?_ | refine RD.g0 ?_ | refine RD.g1 ?_ | refine RD.g2 ?_ | refine RD.g3 ?_ | refine RD.g4 ?_ | refine RD.g5 ?_ | refine RD.g6 ?_ | refine RD.g7 ?_ | refine RD.g8 ?_ | refine RD.g9 ?_ | refine RD.g10 ?_ | refine RD.g11 ?_ | refine And.intro (Eq.refl V.non) ?_))
    refine RD.ixL (j := 0) (SqL.of e16) rfl ?_
    refine ⟨a1, _, dx1, _, rfl, rfl, f1, idc, ?_⟩
    repeat (with_reducible (first | refine RD.seq ?_ | refine RD.asg ?_ | refine RD.ret ?_ | refine RD.retN ?_ | refine RD.next ?_ | refine RD.drop ?_ | refine RD.ifS ?_ | refine RD.con ?_ | refine RD.nil ?_ | refine RD.cons ?_ | refine RD.op ?_ | refine RD.un ?_ | refine RD.i0 ?_ | refine RD.iU ?_ | refine RD.test ?_ | refine RD.testE ?_ | refine RD.tb_ ?_ | refine RD.not_ ?_ | refine RD.and_ ?_ | refine RD.or_ ?_ | refine RD.if_ ?_ | refine RD.andV ?_ | refine RD.orV ?_ | refine RD.notV ?_ | refine RD.andE ?_ | refine RD.orE ?_ | refine RD.notE ?_ | refine RD.lst ?_ | refine RD.tup ?_ | refine RD.cb ?_ | refine RD.call ?_ | refine RD.callS ?_ | refine RD.make ?_ | refine RD.makeK ?_ | refine RD.meth ?_ | refine RD.methK ?_ | refine RD.prop ?_ | refine RD.fld ?_ | refine RD.bm ?_ | refine RD.par ?_ | refine RD.forL ?_ | refine RD.v0 ?_ | refine RD.v1 ?_ | refine RD.v2 ?_ | refine RD.v3 ?_ | refine RD.v4 ?_ | refine RD.v5 ?_ | refine RD.v6 ?_ | refine RD.v7 ?_ | refine RD.v8 ?_ | refine RD.v9 ?_ | refine RD.v10 ?_ | refine RD.v11 ?_ | refine RD.g0 ?_ | refine RD.g1 ?_ | refine RD.g2 ?_ | refine RD.g3 ?_ | refine RD.g4 ?_ | refine RD.g5 ?_ | refine RD.g6 ?_ | refine RD.g7 ?_ | refine RD.g8 ?_ | refine RD.g9 ?_ | refine RD.g10 ?_ | refine RD.g11 ?_ | refine And.intro (Eq.refl V.non) ?_))
    refine ite_f rfl ?_
    repeat (with_reducible (first | refine RD.seq ?_ | refine RD.asg ?_ | refine RD.ret ?_ | refine RD.retN ?_ | refine RD.next ?_ | refine RD.drop ?_ | refine RD.ifS ?_ | refine RD.con ?_ | refine RD.nil ?_ | refine RD.cons ?_ | refine RD.op ?_ | refine RD.un ?_ | refine RD.i0 ?_ | refine RD.iU ?_ | refine RD.test ?_ | refine RD.testE ?_ | refine RD.tb_ ?_ | refine RD.not_ ?_ | refine RD.and_ ?_ | refine RD.or_ ?_ | refine RD.if_ ?_ | refine RD.andV ?_ | refine RD.orV ?_ | refine RD.notV ?_ | refine RD.andE ?_ | refine RD.orE ?_ | refine RD.notE ?_ | refine RD.lst ?_ | refine RD.tup ?_ | refine RD.cb ?_ | refine RD.call ?_ | refine RD.callS ?_ | refine RD.make ?_ | refine RD.makeK ?_ | refine RD.meth ?_ | refine RD.methK ?_ | refine RD.prop ?_ | refine RD.fld ?_ | refine RD.bm ?_ | refine RD.par ?_ | refine RD.forL ?_ | refine RD.v0 ?_ | refine RD.v1 ?_ | refine RD.v2 ?_ | refine RD.v3 ?_ | refine RD.v4 ?_ | refine RD.v5 ?_ | refine RD.v6 ?_ | refine RD.v7 ?_ | refine RD.v8 ?_ | refine RD.v9 ?_ | refine RD.v10 ?_ | refine RD.v11 ?_ | refine RD.g0 ?_ | refine RD.g1 ?_ | refine RD.g2 ?_ | refine RD.g3 ?_ | refine RD.g4 ?_ | refine RD.g5 ?_ | refine RD.g6 ?_ | refine RD.g7 ?_ | refine RD.g8 ?_ | refine RD.g9 ?_ | refine RD.g10 ?_ | refine RD.g11 ?_ | refine And.intro (Eq.refl V.non) ?_))
    have u4 : Sam H4 H15 := ((((((((((s5.tr s6).tr s7).tr s8).tr s9).tr s10).tr s11).tr s12).tr s13).tr s14).tr s15)
    have n4' : l4 ≠ l14 := fun z => by
      have := (((((((((s5.tr s6).tr s7).tr s8).tr s9).tr s10).tr s11).tr s12).tr s13) _ _ e4)
      rw [z, n14] at this
      cases this
    obtain ⟨m, hme, M⟩ := hm (.ref m1) (by simp) H15 u4
    cases hme
    have M' := M.sx (s15 _ _ e14) sx
    obtain ⟨dxm, wam, fm, _⟩ := M'
    refine RD.ixL (j := 0) (SqL.of (sx _ _ n4' (u4 _ _ e4))) rfl ?_
    repeat (with_reducible (first | refine RD.seq ?_ | refine RD.asg ?_ | refine RD.ret ?_ | refine RD.retN ?_ | refine RD.next ?_ | refine RD.drop ?_ | refine RD.ifS ?_ | refine RD.con ?_ | refine RD.nil ?_ | refine RD.cons ?_ | refine RD.op ?_ | refine RD.un ?_ | refine RD.i0 ?_ | refine RD.iU ?_ | refine RD.test ?_ | refine RD.testE ?_ | refine RD.tb_ ?_ | refine RD.not_ ?_ | refine RD.and_ ?_ | refine RD.or_ ?_ | refine RD.if_ ?_ | refine RD.andV ?_ | refine RD.orV ?_ | refine RD.notV ?_ | refine RD.andE ?_ | refine RD.orE ?_ | refine RD.notE ?_ | refine RD.lst ?_ | refine RD.tup ?_ | refine RD.cb ?_ | refine RD.call ?_ | refine RD.callS ?_ | refine RD.make ?_ | refine RD.makeK ?_ | refine RD.meth ?_ | refine RD.methK ?_ | refine RD.prop ?_ | refine RD.fld ?_ | refine RD.bm ?_ | refine RD.par ?_ | refine RD.forL ?_ | refine RD.v0 ?_ | refine RD.v1 ?_ | refine RD.v2 ?_ | refine RD.v3 ?_ | refine RD.v4 ?_ | refine RD.v5 ?_ | refine RD.v6 ?_ | refine RD.v7 ?_ | refine RD.v8 ?_ | refine RD.v9 ?_ | refine RD.v10 ?_ | refine RD.v11 ?_ | refine RD.g0 ?_ | refine RD.g1 ?_ | refine RD.g2 ?_ | refine RD.g3 ?_ | refine RD.g4 ?_ | refine RD.g5 ?_ | refine RD.g6 ?_ | refine RD.g7 ?_ | refine RD.g8 ?_ | refine RD.g9 ?_ | refine RD.g10 ?_ | refine RD.g11 ?_ | refine And.intro (Eq.refl V.non) ?_))
    refine ⟨m1, _, dxm, _, rfl, fm, idc, .inr ⟨r, rfl, ?_⟩⟩
    repeat (with_reducible (first | refine RD.seq ?_ | refine RD.asg ?_ | refine RD.ret ?_ | refine RD.retN ?_ | refine RD.next ?_ | refine RD.drop ?_ | refine RD.ifS ?_ | refine RD.con ?_ | refine RD.nil ?_ | refine RD.cons ?_ | refine RD.op ?_ | refine RD.un ?_ | refine RD.i0 ?_ | refine RD.iU ?_ | refine RD.test ?_ | refine RD.testE ?_ | refine RD.tb_ ?_ | refine RD.not_ ?_ | refine RD.and_ ?_ | refine RD.or_ ?_ | refine RD.if_ ?_ | refine RD.andV ?_ | refine RD.orV ?_ | refine RD.notV ?_ | refine RD.andE ?_ | refine RD.orE ?_ | refine RD.notE ?_ | refine RD.lst ?_ | refine RD.tup ?_ | refine RD.cb ?_ | refine RD.call ?_ | refine RD.callS ?_ | refine RD.make ?_ | refine RD.makeK ?_ | refine RD.meth ?_ | refine RD.methK ?_ | refine RD.prop ?_ | refine RD.fld ?_ | refine RD.bm ?_ | refine RD.par ?_ | refine RD.forL ?_ | refine RD.v0 ?_ | refine RD.v1 ?_ | refine RD.v2 ?_ | refine RD.v3 ?_ | refine RD.v4 ?_ | refine RD.v5 ?_ | refine RD.v6 ?_ | refine RD.v7 ?_ | refine RD.v8 ?_ | refine RD.v9 ?_ | refine RD.v10 ?_ | refine RD.v11 ?_ | refine RD.g0 ?_ | refine RD.g1 ?_ | refine RD.g2 ?_ | refine RD.g3 ?_ | refine RD.g4 ?_ | refine RD.g5 ?_ | refine RD.g6 ?_ | refine RD.g7 ?_ | refine RD.g8 ?_ | refine RD.g9 ?_ | refine RD.g10 ?_ | refine RD.g11 ?_ | refine And.intro (Eq.refl V.non) ?_))
    refine ite_f rfl ?_
    repeat (with_reducible (first | refine RD.seq ?_ | refine RD.asg ?_ | refine RD.ret ?_ | refine RD.retN ?_ | refine RD.next ?_ | refine RD.drop ?_ | refine RD.ifS ?_ | refine RD.con ?_ | refine RD.nil ?_ | refine RD.cons ?_ | refine RD.op ?_ | refine RD.un ?_ | refine RD.i0 ?_ | refine RD.iU ?_ | refine RD.test ?_ | refine RD.testE ?_ | refine RD.tb_ ?_ | refine RD.not_ ?_ | refine RD.and_ ?_ | refine RD.or_ ?_ | refine RD.if_ ?_ | refine RD.andV ?_ | refine RD.orV ?_ | refine RD.notV ?_ | refine RD.andE ?_ | refine RD.orE ?_ | refine RD.notE ?_ | refine RD.lst ?_ | refine RD.tup ?_ | refine RD.cb ?_ | refine RD.call ?_ | refine RD.callS ?_ | refine RD.make ?_ | refine RD.makeK ?_ | refine RD.meth ?_ | refine RD.methK ?_ | refine RD.prop ?_ | refine RD.fld ?_ | refine RD.bm ?_ | refine RD.par ?_ | refine RD.forL ?_ | refine RD.v0 ?_ | refine RD.v1 ?_ | refine RD.v2 ?_ | refine RD.v3 ?_ | refine RD.v4 ?_ | refine RD.v5 ?_ | refine RD.v6 ?_ | refine RD.v7 ?_ | refine RD.v8 ?_ | refine RD.v9 ?_ | refine RD.v10 ?_ | refine RD.v11 ?_ | refine RD.g0 ?_ | refine RD.g1 ?_ | refine RD.g2 ?_ | refine RD.g3 ?_ | refine RD.g4 ?_ | refine RD.g5 ?_ | refine RD.g6 ?_ | refine RD.g7 ?_ | refine RD.g8 ?_ | refine RD.g9 ?_ | refine RD.g10 ?_ | refine RD.g11 ?_ | refine And.intro (Eq.refl V.non) ?_))
    have hm2 : ∀ x, x ∈ [V.ref a1, V.ref a2, V.ref a3] → ∀ H', Sam H16 H' → ∃ m, x = .ref m ∧ MO K H' m r b := fun x hx H' sm => by
      simp only [List.mem_cons, List.not_mem_nil, or_false] at hx
      rcases hx with rfl | rfl | rfl
      · exact ⟨a1, rfl, A1'.same sm⟩
      · exact ⟨a2, rfl, A2'.same sm⟩
      · exact ⟨a3, rfl, A3'.same sm⟩
    refine RD.lcT (xs := [.ref a1, .ref a2, .ref a3]) (fun v => [some (.int r), some (.int b), some (.ref l4), some v, some (.ref l14)]) (fun _ => rfl) (fun _ => rfl) rfl (SqL.of e16) (Nat.le_of_ble_eq_true rfl) (fun x hx H' Q' sm k => ?_) (fun H17 D17 s17 e17 => ?_)
    · obtain ⟨m, rfl, M⟩ := hm2 x hx H' sm
      repeat (with_reducible (first | refine RD.seq ?_ | refine RD.asg ?_ | refine RD.ret ?_ | refine RD.retN ?_ | refine RD.next ?_ | refine RD.drop ?_ | refine RD.ifS ?_ | refine RD.con ?_ | refine RD.nil ?_ | refine RD.cons ?_ | refine RD.op ?_ | refine RD.un ?_ | refine RD.i0 ?_ | refine RD.iU ?_ | refine RD.test ?_ | refine RD.testE ?_ | refine RD.tb_ ?_ | refine RD.not_ ?_ | refine RD.and_ ?_ | refine RD.or_ ?_ | refine RD.if_ ?_ | refine RD.andV ?_ | refine RD.orV ?_ | refine RD.notV ?_ | refine RD.andE ?_ | refine RD.orE ?_ | refine RD.notE ?_ | refine RD.lst ?_ | refine RD.tup ?_ | refine RD.cb ?_ | refine RD.call ?_ | refine RD.callS ?_ | refine RD.make ?_ | refine RD.makeK ?_ | refine RD.meth ?_ | refine RD.methK ?_ | refine RD.prop ?_ | refine RD.fld ?_ | refine RD.bm ?_ | refine RD.par ?_ | refine RD.forL ?_ | refine RD.v0 ?_ | refine RD.v1 ?_ | refine RD.v2 ?_ | refine RD.v3 ?_ | refine RD.v4 ?_ | refine RD.v5 ?_ | refine RD.v6 ?_ | refine RD.v7 ?_ | refine RD.v8 ?_ | refine RD.v9 ?_ | refine RD.v10 ?_ | refine RD.v11 ?_ | refine RD.g0 ?_ | refine RD.g1 ?_ | refine RD.g2 ?_ | refine RD.g3 ?_ | refine RD.g4 ?_ | refine RD.g5 ?_ | refine RD.g6 ?_ | refine RD.g7 ?_ | refine RD.g8 ?_ | refine RD.g9 ?_ | refine RD.g10 ?_ | refine RD.g11 ?_ | refine And.intro (Eq.refl V.non) ?_))
      exact ⟨_, _, _, rfl, M, r0, r1, b0, b1, k⟩
    repeat (with_reducible (first | refine RD.seq ?_ | refine RD.asg ?_ | refine RD.ret ?_ | refine RD.retN ?_ | refine RD.next ?_ | refine RD.drop ?_ | refine RD.ifS ?_ | refine RD.con ?_ | refine RD.nil ?_ | refine RD.cons ?_ | refine RD.op ?_ | refine RD.un ?_ | refine RD.i0 ?_ | refine RD.iU ?_ | refine RD.test ?_ | refine RD.testE ?_ | refine RD.tb_ ?_ | refine RD.not_ ?_ | refine RD.and_ ?_ | refine RD.or_ ?_ | refine RD.if_ ?_ | refine RD.andV ?_ | refine RD.orV ?_ | refine RD.notV ?_ | refine RD.andE ?_ | refine RD.orE ?_ | refine RD.notE ?_ | refine RD.lst ?_ | refine RD.tup ?_ | refine RD.cb ?_ | refine RD.call ?_ | refine RD.callS ?_ | refine RD.make ?_ | refine RD.makeK ?_ | refine RD.meth ?_ | refine RD.methK ?_ | refine RD.prop ?_ | refine RD.fld ?_ | refine RD.bm ?_ | refine RD.par ?_ | refine RD.forL ?_ | refine RD.v0 ?_ | refine RD.v1 ?_ | refine RD.v2 ?_ | refine RD.v3 ?_ | refine RD.v4 ?_ | refine RD.v5 ?_ | refine RD.v6 ?_ | refine RD.v7 ?_ | refine RD.v8 ?_ | refine RD.v9 ?_ | refine RD.v10 ?_ | refine RD.v11 ?_ | refine RD.g0 ?_ | refine RD.g1 ?_ | refine RD.g2 ?_ | refine RD.g3 ?_ | refine RD.g4 ?_ | refine RD.g5 ?_ | refine RD.g6 ?_ | refine RD.g7 ?_ | refine RD.g8 ?_ | refine RD.g9 ?_ | refine RD.g10 ?_ | refine RD.g11 ?_ | refine And.intro (Eq.refl V.non) ?_))
    refine RD.lstE (Nat.le_of_ble_eq_true rfl) fun H18 l18 s18 n18 e18 => ?_
    repeat (with_reducible (first | refine RD.seq ?_ | refine RD.asg ?_ | refine RD.ret ?_ | refine RD.retN ?_ | refine RD.next ?_ | refine RD.drop ?_ | refine RD.ifS ?_ | refine RD.con ?_ | refine RD.nil ?_ | refine RD.cons ?_ | refine RD.op ?_ | refine RD.un ?_ | refine RD.i0 ?_ | refine RD.iU ?_ | refine RD.test ?_ | refine RD.testE ?_ | refine RD.tb_ ?_ | refine RD.not_ ?_ | refine RD.and_ ?_ | refine RD.or_ ?_ | refine RD.if_ ?_ | refine RD.andV ?_ | refine RD.orV ?_ | refine RD.notV ?_ | refine RD.andE ?_ | refine RD.orE ?_ | refine RD.notE ?_ | refine RD.lst ?_ | refine RD.tup ?_ | refine RD.cb ?_ | refine RD.call ?_ | refine RD.callS ?_ | refine RD.make ?_ | refine RD.makeK ?_ | refine RD.meth ?_ | refine RD.methK ?_ | refine RD.prop ?_ | refine RD.fld ?_ | refine RD.bm ?_ | refine RD.par ?_ | refine RD.forL ?_ | refine RD.v0 ?_ | refine RD.v1 ?_ | refine RD.v2 ?_ | refine RD.v3 ?_ | refine RD.v4 ?_ | refine RD.v5 ?_ | refine RD.v6 ?_ | refine RD.v7 ?_ | refine RD.v8 ?_ | refine RD.v9 ?_ | refine RD.v10 ?_ | refine RD.v11 ?_ | refine RD.g0 ?_ | refine RD.g1 ?_ | refine RD.g2 ?_ | refine RD.g3 ?_ | refine RD.g4 ?_ | refine RD.g5 ?_ | refine RD.g6 ?_ | refine RD.g7 ?_ | refine RD.g8 ?_ | refine RD.g9 ?_ | refine RD.g10 ?_ | refine RD.g11 ?_ | refine And.intro (Eq.refl V.non) ?_))
    refine RD.rep (k := 3) e18 (Nat.le_of_ble_eq_true rfl) (Nat.le_of_ble_eq_true rfl) fun H19 l19 s19 n19 e19 => ?_
    refine RD.eqD (.lst (SqL.of (s19 _ _ (s18 _ _ e17))) (.cons (.bl _) (.cons (.bl _) (.cons (.bl _) .nil)))) (.lst (SqL.of e19) (.cons (.bl _) (.cons (.bl _) (.cons (.bl _) .nil)))) rfl rfl ?_
    have fin : ∀ c o, H c = some o → H16 c = some o := fun c o e => sx _ _ (fun z => by
      have := ((t12.tr s13) _ _ e)
      rw [z, n14] at this
      cases this) ((((t12.tr s13).tr s14).tr s15) _ _ e)
    exact q _ (((Sam.tr fin s17).tr s18).tr s19)
end
end My
set_option Elab.async false
set_option linter.all false
set_option maxRecDepth 100000
set_option maxHeartbeats 4000000
/-! Lambdas that are told; what is refused, limits. -/
namespace My
open PySem PySem.Spec PyProof.Rows L2 He HL LD LX LL LQ

/-! ### tables -/
def cs (K : PySem.W.Frag) : List (Addr × Addr) := [cT K ("_law_refused_right", none), cT K ("_law_limits_right", none)]
def TL (K : PySem.W.Frag) : List (Addr × PySem.Str) := [((cT K ("_law_refused_right", none)).2, ("_law_refused_right" : PySem.Str) ++ ".<locals>." ++ "<lambda>"), ((cT K ("_law_limits_right", none)).2, ("_law_limits_right" : PySem.Str) ++ ".<locals>." ++ "<lambda>")]
theorem code_ref {K : PySem.W.Frag} {x y qual : PySem.Str} {params : Arguments} {body : List Stmt} {scope : Scope} {dvs : List V} {kws : List (PySem.Str × V)} {fd : FuncData} (F : FunD K y qual params body scope dvs kws (ga K x) fd) : fd.code = .ref (codeOf K (x, none)) := by
  obtain ⟨oc, od, dV, kV, doc, pm, an, cdv, ct, osl, e, lk, hcd, _, _⟩ := F.ex
  obtain ⟨c, hc⟩ : ∃ c, cdv = .ref c := by
    unfold PySem.W.codeIn at hcd
    split at hcd
    · exact ⟨_, rfl⟩
    · cases hcd
  have e2 : fd.code = .ref c := by rw [e, ← hc] <;> rfl
  rw [codeOf_eq (p := (x, none)) lk e2]
  exact e2
/-- a def that makes lambdas -/
structure LF (X : Cx) (T : List (Addr × PySem.Str)) : Prop where
  gu : X.A.guards = some []
  hr : Room 6 X.A
  i : ∃ c P, LamX.TabB X.base X.mg c P ∧ X.env.code = .ref c ∧ (P, X.env.qual ++ "<lambda>") ∈ T ∧ ∀ p ∈ T, p.1 = P → p.2 = X.env.qual ++ "<lambda>"
theorem pe_told {X : Cx} (T : Tx X.K X.mg X.base) {TT : List (Addr × PySem.Str)} (F : LF X TT) {params : Arguments} {body : Expr} {scope : Scope} {t : XK → TE} {p lpos pos : Pos} (L : LamX.LamS X.env.scope scope) (hdef : defaultsOf params X.env = ([], []))
    (hbind : ∀ (q : PySem.Str) (cl : List (PySem.Str × Addr)) (pm cv ctv : Value), bindArgs (PySem.W.kla_fn "<lambda>" q params body scope cl pm cv ctv) ⟨[], []⟩ = pure [])
    (hbody : ∀ (A : Around) (outer : List Env) (s : Shared) (H : Hp) (E : XK) (f c' : Addr), Room 4 (A.deeper (LamX.lamEnv X scope s.heap.objs.size f c')) → PE (lamCxN X A outer s H E scope f c') body (t E)) (hg : Gl X "_law_told" := by rfl) :
    PE X (.Call (.Name "_law_told" p) [.Lambda params body scope lpos] [] pos) (LamX.tLam TT (TTold X.K) t) := by
  obtain ⟨fd, Fg⟩ := T.f_law_told
  obtain ⟨c, P, h1, h2, h3, h4⟩ := F.i
  exact pe_lamG Fg T.g_law_told (Fg.bindsN fun _ _ _ _ _ _ us hl => match us, hl with | [_], _ => rfl) sc_law_told rfl (.inl rfl) (G_told T fd F.gu) h1 h2 h3 h4 F.hr L hdef hbind hbody hg
theorem lf1 {X : Cx} (T : Tx X.K X.mg X.base) (TB : ∀ p ∈ cs X.K, LamX.TabB X.base X.mg p.1 p.2) (gu : X.A.guards = some []) (hr : Room 6 X.A) (hc : X.env.code = .ref (codeOf X.K ("_law_refused_right", none))) (hq : X.env.qual = ("_law_refused_right" : PySem.Str) ++ ".<locals>.") : LF X (TL X.K) := by
  have ne := of_decide_eq_true T.e_tabne
  refine ⟨gu, hr, _, _, TB _ (List.mem_cons_self), hc, ?_, ?_⟩
  · rw [hq]
    exact List.mem_cons_self
  · rw [hq]
    intro p hp e
    simp only [TL, List.mem_cons, List.not_mem_nil, or_false] at hp
    rcases hp with rfl | rfl
    · rfl
    · exact absurd e.symm ne
theorem lf2 {X : Cx} (T : Tx X.K X.mg X.base) (TB : ∀ p ∈ cs X.K, LamX.TabB X.base X.mg p.1 p.2) (gu : X.A.guards = some []) (hr : Room 6 X.A) (hc : X.env.code = .ref (codeOf X.K ("_law_limits_right", none))) (hq : X.env.qual = ("_law_limits_right" : PySem.Str) ++ ".<locals>.") : LF X (TL X.K) := by
  have ne := of_decide_eq_true T.e_tabne
  refine ⟨gu, hr, _, _, TB _ (List.mem_cons_of_mem _ List.mem_cons_self), hc, ?_, ?_⟩
  · rw [hq]
    exact List.mem_cons_of_mem _ List.mem_cons_self
  · rw [hq]
    intro p hp e
    simp only [TL, List.mem_cons, List.not_mem_nil, or_false] at hp
    rcases hp with rfl | rfl
    · exact absurd e ne
    · rfl
section
variable {K : PySem.W.Frag} {H : Hp} {Q Q0 : VK} {E : XK} {TT : List (Addr × PySem.Str)} {t : XK → TE} {σ : L2.St} {x y : V} {D : PyData} {r b : Int} {m : Addr}
theorem told_ (hT : LamX.Tabs TT H) (k : ∀ H1 E Q0, LamX.ExtN H H1 → LamX.Tabs TT H1 → (∀ cls d H', Raised K Q cls d H' → E cls d H') → t E σ H1 Q0) : LamX.tLam TT (TTold K) t σ H Q :=
  ⟨hT, fun H1 e1 t1 E Q0 hE => k H1 E Q0 e1 t1 hE⟩
/-- what the error holds, at its heap -/
theorem raise_ {d : Addr} (hE : ∀ cls d H', Raised K Q cls d H' → E cls d H') {Hx : Hp} (ex : Sam H Hx) (hd : Hx d = none) (dr : LR.Dr K H x D) (sm : Sml D)
    (k : ∀ H'' l, Sam H H'' → H'' l = some (.lst [.str "number", .str (PyData.list [D]).shown]) → Q (.ref l) H'') : E (.ref (ga K "InvalidNumber")) (some d) (upd Hx d (.xd [("given", x)])) :=
  hE _ _ _ ⟨d, x, D, rfl, rfl, upd_same, LR.Dr.same (fun c o e _ => (ex.nw hd) c o e) _ _ dr, sm, fun H'' l s e => k H'' l ((ex.nw hd).tr s) e⟩
theorem sam2 {H : Hp} {a b : Addr} {o u : HO} (ha : H a = none) (hb : H b = none) : Sam H (upd (upd H b u) a o) := fun c z e => by
  rw [upd_ne (fun y => by rw [y, ha] at e; cases e), upd_ne (fun y => by rw [y, hb] at e; cases e)]
  exact e
theorem NotInt.same2 {H H' : Hp} {x : V} (h : Sam H H') (n : NotNum K H x) : NotNum K H' x := n.same h
theorem mach_bad {vs dvs : List V} (hv : vs ++ dvs = [x, y]) (n : NotNum K H x) (dr : LR.Dr K H x D) (sm : Sml D) (hE : ∀ cls d H', Raised K Q cls d H' → E cls d H')
    (k : ∀ H'' l, Sam H H'' → H'' l = some (.lst [.str "number", .str (PyData.list [D]).shown]) → Q (.ref l) H'') : RD.MakeE (ga K "Machine") (spMI K) dvs E vs H Q0 := by
  intro a dx na nd ne
  rw [hv]
  exact ⟨a, dx, _, _, rfl, upd_same, .inl ⟨n.same (sam2 na nd), fun d hd => raise_ hE (sam2 na nd) hd dr sm k⟩⟩
theorem mach_bad2 {vs dvs : List V} (hv : vs ++ dvs = [.int r, y]) (h0 : 0 ≤ r) (ny : y ≠ .non) (n : NotNum K H y) (dr : LR.Dr K H y D) (sm : Sml D) (hE : ∀ cls d H', Raised K Q cls d H' → E cls d H')
    (k : ∀ H'' l, Sam H H'' → H'' l = some (.lst [.str "number", .str (PyData.list [D]).shown]) → Q (.ref l) H'') : RD.MakeE (ga K "Machine") (spMI K) dvs E vs H Q0 := by
  intro a dx na nd ne
  rw [hv]
  exact ⟨a, dx, _, _, rfl, upd_same, .inr ⟨r, rfl, h0, .inl ⟨ny, n.same (sam2 na nd), fun d hd => raise_ hE (sam2 na nd) hd dr sm k⟩⟩⟩
theorem mach_badK {n1 n2 : Nat} {gV : List V → List V → List V} {vs zs : List V} (hn : vs.length = n1) (hk : zs.length = n2) (hv : ∀ a, gV (.ref a :: vs) zs = [.ref a, x, y]) (n : NotNum K H x) (dr : LR.Dr K H x D) (sm : Sml D) (hE : ∀ cls d H', Raised K Q cls d H' → E cls d H')
    (k : ∀ H'' l, Sam H H'' → H'' l = some (.lst [.str "number", .str (PyData.list [D]).shown]) → Q (.ref l) H'') : RD.MakeKE (ga K "Machine") n1 n2 (spMI K) gV E vs zs H Q0 := by
  refine ⟨hn, hk, fun a dx na nd ne => ?_⟩
  rw [hv]
  exact ⟨a, dx, _, _, rfl, upd_same, .inl ⟨n.same (sam2 na nd), fun d hd => raise_ hE (sam2 na nd) hd dr sm k⟩⟩
theorem mach_bad2K {n1 n2 : Nat} {gV : List V → List V → List V} {vs zs : List V} (hn : vs.length = n1) (hk : zs.length = n2) (hv : ∀ a, gV (.ref a :: vs) zs = [.ref a, .int r, y]) (h0 : 0 ≤ r) (ny : y ≠ .non) (n : NotNum K H y) (dr : LR.Dr K H y D) (sm : Sml D)
    (hE : ∀ cls d H', Raised K Q cls d H' → E cls d H') (k : ∀ H'' l, Sam H H'' → H'' l = some (.lst [.str "number", .str (PyData.list [D]).shown]) → Q (.ref l) H'') : RD.MakeKE (ga K "Machine") n1 n2 (spMI K) gV E vs zs H Q0 := by
  refine ⟨hn, hk, fun a dx na nd ne => ?_⟩
  rw [hv]
  exact ⟨a, dx, _, _, rfl, upd_same, .inr ⟨r, rfl, h0, .inl ⟨ny, n.same (sam2 na nd), fun d hd => raise_ hE (sam2 na nd) hd dr sm k⟩⟩⟩
end
/-! ### heaps where lambdas are made -/
section
variable {K : PySem.W.Frag} {H H' : Hp} {p : Addr}
theorem Pu.ne {o : HO} (u : Pu H p) {b : Addr} (e : H b = some o) (h : ∀ xs, o ≠ .lst xs) : b ≠ p := fun z => by
  obtain ⟨st, dg, c, ep, _⟩ := u
  rw [z, ep] at e
  cases e
  exact h _ rfl
theorem Pu.n (u : Pu H p) (h : LamX.ExtN H H') : Pu H' p := by
  obtain ⟨st, dg, c, ep, r⟩ := u
  exact ⟨st, dg, c, h _ _ ep (fun _ z => by cases z), r⟩
theorem Pu.sam (u : Pu H p) (h : Sam H H') : Pu H' p := u.n fun b o e _ => h b o e
theorem tabs_x {T : List (Addr × PySem.Str)} (u : Pu H p) (t : LamX.Tabs T H) (h : SamX p H H') : LamX.Tabs T H' := fun q hq => by
  obtain ⟨ps, h1, h2, h3⟩ := t q hq
  refine ⟨ps, h _ _ (u.ne h1 (fun _ z => by cases z)) h1, h2, fun pos cv hc => ?_⟩
  obtain ⟨c, e1, e2⟩ := h3 pos cv hc
  exact ⟨c, e1, h _ _ (u.ne e2 (fun _ z => by cases z)) e2⟩
theorem tabs_s {T : List (Addr × PySem.Str)} (t : LamX.Tabs T H) (h : Sam H H') : LamX.Tabs T H' := t.ext h
theorem st_at {H0 : Hp} {x : V} {d : PyData} {o : HO} (s : St K H0 H x d) (n : H0 p = some o) (h : ExtP p H H') : NotNum K H' x ∧ LR.Dr K H' x d := s _ fun b u n2 e z => h b u (fun y => by rw [y, n] at n2; cases n2) e z
theorem Pu.some (u : Pu H p) : ∃ o, H p = some o := by
  obtain ⟨st, dg, c, ep, r⟩ := u
  exact ⟨_, ep⟩
end
/-! ### tellings -/
theorem sam_en {H H' : Hp} (h : Sam H H') : LamX.ExtN H H' := fun b o e _ => h b o e
theorem ep_over {p l : Addr} {H B H' : Hp} (h : ExtP p H B) (n : B l = none) (k : ExtP l B H') : ExtP p H H' := fun b o nb e z => by
  have e5 := h b o nb e z
  exact k b o (fun y => by rw [y, n] at e5; cases e5) e5 z
theorem tabs_l {T : List (Addr × PySem.Str)} {H H' : Hp} {l : Addr} {xs : List V} (e : H l = some (.lst xs)) (t : LamX.Tabs T H) (h : SamX l H H') : LamX.Tabs T H' := fun q hq => by
  obtain ⟨ps, h1, h2, h3⟩ := t q hq
  refine ⟨ps, h _ _ (fun z => by rw [z, e] at h1; cases h1) h1, h2, fun pos cv hc => ?_⟩
  obtain ⟨c, e1, e2⟩ := h3 pos cv hc
  exact ⟨c, e1, h _ _ (fun z => by rw [z, e] at e2; cases e2) e2⟩
/-- what is told of an error with the data D -/
def told (D : PyData) : List V := [.str "number", .str (PyData.list [D]).shown]
def toldD (D : PyData) : PyData := .list [.str "number", .str (PyData.list [D]).shown]
def Bad (K : PySem.W.Frag) (t : XK → TE) (σ : L2.St) (R : Hp → Prop) (D : PyData) : Prop := ∀ H1 E Q0 Q, R H1 → (∀ cls d H', Raised K Q cls d H' → E cls d H') → (∀ H'' l, Sam H1 H'' → H'' l = some (.lst (told D)) → Q (.ref l) H'') → t E σ H1 Q0
section
variable {K : PySem.W.Frag} {H : Hp} {TT : List (Addr × PySem.Str)} {t : XK → TE} {σ : L2.St} {u : TS} {De : Ends} {D : PyData} {i j : Nat} {B : Hp} {L : Addr} {cur : List V}
theorem st_lst (σ' : V → L2.St) (hs : ∀ v, σ.set i (some v) = σ' v) (T : LamX.Tabs TT H) (bad : Bad K t σ (LamX.ExtN H) D)
    (k : ∀ B Hn L l, LamX.ExtN H B → B L = none → Sam B Hn → Hn L = some (.lst [.ref l]) → l ≠ L → Hn l = some (.lst (told D)) → LamX.Tabs TT Hn → u De (σ' (.ref L)) Hn) :
    tSeq (tAsg (tLst (tCons (LamX.tLam TT (TTold K) t) tNil)) (gName i)) u De σ H := by
  refine told_ T fun H1 E Q0 en T1 hE => bad H1 E Q0 _ en hE fun H2 l s2 e2 => ?_
  refine ⟨Nat.le_trans (Nat.le_of_ble_eq_true rfl : 1 ≤ 1000) (by rw [sizeLine_eq]; decide), fun p hp => ?_⟩
  show u De (σ.set i (some (.ref p))) _
  rw [hs]
  exact k H2 _ p l (en.trans (sam_en s2)) hp (.new hp) upd_same (fun z => by rw [z, hp] at e2; cases e2) (keep e2 hp) (tabs_s (tabs_s T1 s2) (.new hp))
theorem st_app (hv : σ[j]? = some (some (.ref L))) (R : ExtP L B H) (eL : H L = some (.lst cur)) (hc : ∀ v ∈ cur, ∃ a, v = .ref a) (hne : cur ≠ []) (hl : cur.length < 1000) (T : LamX.Tabs TT H) (bad : Bad K t σ (ExtP L B) D)
    (k : ∀ Hn l, ExtP L H Hn → Hn L = some (.lst (cur ++ [.ref l])) → l ≠ L → Hn l = some (.lst (told D)) → LamX.Tabs TT Hn → u De σ Hn) :
    tSeq (tDrop (tBM K "list" rAppend (tVar j) (tCons (LamX.tLam TT (TTold K) t) tNil))) u De σ H := by
  refine ⟨.ref L, hv, .inl ⟨rfl, cur, SqL.of eL⟩, told_ T fun H1 E Q0 en T1 hE => bad H1 E Q0 _ (R.tr (ExtP.en en)) hE fun H2 l s2 e2 => ?_⟩
  have eL2 := s2 _ _ (en _ _ eL (fun _ z => by cases z))
  have nl : l ≠ L := fun z => by
    rw [z, eL2] at e2
    cases cur with
    | nil => exact hne rfl
    | cons v r =>
      obtain ⟨a, rfl⟩ := hc v List.mem_cons_self
      cases e2
  have sx : SamX L H2 (upd H2 L (.lst (cur ++ [.ref l]))) := fun b o n e => by rw [upd_ne n]; exact e
  refine ⟨L, cur, .ref l, rfl, rfl, eL2, Nat.lt_of_lt_of_le hl (by rw [sizeLine_eq]; decide), ?_⟩
  exact k _ l ((ExtP.en en).tr (s2.ep.tr sx.ep)) upd_same nl (sx _ _ nl e2) (tabs_l eL2 (tabs_s T1 s2) sx)
end
theorem ref1 {l : Addr} : ∀ v ∈ [V.ref l], ∃ a, v = .ref a := fun v hv => by
  simp only [List.mem_cons, List.not_mem_nil, or_false] at hv
  exact ⟨_, hv⟩
theorem ref2 {l m : Addr} : ∀ v ∈ [V.ref l] ++ [V.ref m], ∃ a, v = .ref a := fun v hv => by
  simp only [List.mem_append, List.mem_cons, List.not_mem_nil, or_false] at hv
  rcases hv with rfl | rfl <;> exact ⟨_, rfl⟩
/-- repr([x]) -/
theorem repr1 {K : PySem.W.Frag} {H : Hp} {Q : VK} {l : Addr} {x : V} {D : PyData} (e : H l = some (.lst [x])) (dr : LR.Dr K H x D) (sm : Sml D) (h : Q (.str (PyData.list [D]).shown) H) : LR.rRepr K [.ref l] H Q :=
  ⟨l, .list [D], rfl, .lst (SqL.of e) (.cons dr .nil), sm.1, sm.2.1, Nat.le_trans sm.2.2.1 (by rw [sizeLine_eq]; decide), h⟩
theorem dtold {K : PySem.W.Frag} {H : Hp} {l : Addr} {D : PyData} (e : H l = some (.lst (told D))) : Dp K H (.ref l) (toldD D) := .lst (SqL.of e) (.cons (.str _) (.cons (.str _) .nil))
theorem can1 {D : PyData} (s : Sml D) : (toldD D).canLay0 = true := by
  have h := s.2.2.2
  simp only [toldD, PyData.canLay0, PyData.canLayAll0, Bool.and_true] at h ⊢
  rw [h]
  decide +kernel
theorem can3 {D : PyData} (s : Sml D) : (PyData.list [toldD D, toldD D, toldD D]).canLay0 = true := by
  have h := can1 s
  simp only [PyData.canLay0, PyData.canLayAll0, h, Bool.and_true]
theorem can2 {D : PyData} (s : Sml D) : (PyData.list [toldD D, toldD D]).canLay0 = true := by
  have h := can1 s
  simp only [PyData.canLay0, PyData.canLayAll0, h, Bool.and_true]
theorem shp {d : PyData} (c : d.canLay0 = true) (h : d.depth ≤ 64) : SeqAt.shaped d = true := by
  unfold SeqAt.shaped
  rw [c, decide_eq_true h]
  rfl
structure spRef (K : PySem.W.Frag) (vs : List V) (H : Hp) (Q : VK) (_E : XK) : Prop where
  h : ∃ (p : Addr) (r b : Int), vs = [.ref p, .int r, .int b] ∧ Pu H p ∧ LamX.Tabs (TL K) H ∧ 0 ≤ r ∧ r < big ∧ 0 ≤ b ∧ b < big ∧ ∀ H', ExtP p H H' → LamX.Tabs (TL K) H' → Pu H' p → Q (.bl true) H'
section
variable {P : Program} {w : World} {K : PySem.W.Frag} {mg : PySem.Str → Option Value} {base : Heap} (T : Tx K mg base) (TB : ∀ p ∈ cs K, LamX.TabB base mg p.1 p.2)
include T TB
theorem D_law_refused_right : Gn P w K mg base CX0 7 "_law_refused_right" ["_law_purse_here", "_law_room", "_law_bound"] (spRef K) := by
  obtain ⟨fd, F⟩ := T.f_law_refused_right
  have nd := sc_law_refused_right.nd
  have D_Machine_1 := D_Machine_1 (P := P) (w := w) T
  have D_Machine_2 := D_Machine_2 (P := P) (w := w) T
  have D_Machine_limit_frames := D_Machine_limit_frames (P := P) (w := w) T
  have D_law_thing := D_law_thing (P := P) (w := w) T
  refine ⟨_, fd, T.g_law_refused_right, F.kp, okG F sc_law_refused_right (fun vs H Q E h => ?_) (fun A outer s H vs Q E hr hgu h => ?_), F.bindsN fun _ _ _ _ _ _ us hl => match us, hl with | [_, _, _], _ => rfl⟩
  · obtain ⟨p, r, b, rfl, _⟩ := h
    rfl
  · have LFX : LF (cxOf CX0 P w K mg base N_law_refused_right "_law_refused_right" (defScope s_law_refused_right) (ga K "_law_refused_right") fd.code A outer s H E) (TL K) := lf1 T TB hgu hr (code_ref F) rfl
    refine ⟨_, (pss_cons (ps_asg (pe_tup (pa_cons (pe_callD D_law_thing (hr.mono (by decide)) pass0 (pa_cons (pv 0) pa_nil)) (pa_cons (pe_callD D_law_thing (hr.mono (by decide)) pass0 (pa_cons (pv 0) pa_nil)) pa_nil))) (pg_tup (by rfl) (pgs_cons (pg_name (i := 3) nd rfl (by first | exact Or.inl rfl | exact Or.inr rfl)) (pgs_cons (pg_name (i := 4) nd rfl (by first | exact Or.inl rfl | exact Or.inr rfl)) pgs_nil))))
      (pss_cons (ps_set (i := 5) nd rfl (by first | exact Or.inl rfl | exact Or.inr rfl) (pe_lst (pa_cons (pe_told T LFX (LamX.lamS_by (show LamX.lamSB (defScope s_law_refused_right) _ = true by decide +kernel)) rfl (fun _ _ _ _ _ => rfl) (fun A outer s H E f c hr4 => (pe_makeD D_Machine_1 (hr4.mono (by decide)) (passN takesL) (pa_cons (pv 3) pa_nil)))) pa_nil)))
      (pss_cons (ps_expr (pe_bm PySem.F.plainAttrs_list PySem.F.slot_list_append PySem.F.type_list_append mt_append (pv 5) (pa_cons (pe_told T LFX (LamX.lamS_by (show LamX.lamSB (defScope s_law_refused_right) _ = true by decide +kernel)) rfl (fun _ _ _ _ _ => rfl) (fun A outer s H E f c hr4 => (pe_makeD D_Machine_2 (hr4.mono (by decide)) (passN takesL) (pa_cons (pv 3) (pa_cons (pv 2) pa_nil))))) pa_nil)))
      (pss_cons (ps_expr (pe_bm PySem.F.plainAttrs_list PySem.F.slot_list_append PySem.F.type_list_append mt_append (pv 5) (pa_cons (pe_told T LFX (LamX.lamS_by (show LamX.lamSB (defScope s_law_refused_right) _ = true by decide +kernel)) rfl (fun _ _ _ _ _ => rfl) (fun A outer s H E f c hr4 => (pe_makeKD0 D_Machine_limit_frames (hr4.mono (by decide)) (passN takesL) (pk_cons (pv 4) (pk_cons (pv 3) pk_nil))))) pa_nil)))
      (pss_cons (ps_if (pt_cmpR (op_neD hr.units) (pv 5) (pe_op op_rep (pe_lst (pa_cons (pe_lst (pa_cons pe_str (pa_cons (pe_callB (LR.call_repr (LR.sysB_ok T.e_sys) hgu (u60 hr)) (by rfl) T.n_repr (by decide +kernel) (pa_cons (pe_lst (pa_cons (pv 3) pa_nil)) pa_nil)) pa_nil))) pa_nil)) pe_int) (nomark _)) (pss_one (ps_ret pe_bl)) pss_nil)
      (pss_cons (ps_set (i := 5) nd rfl (by first | exact Or.inl rfl | exact Or.inr rfl) (pe_lst (pa_cons (pe_told T LFX (LamX.lamS_by (show LamX.lamSB (defScope s_law_refused_right) _ = true by decide +kernel)) rfl (fun _ _ _ _ _ => rfl) (fun A outer s H E f c hr4 => (pe_makeD D_Machine_2 (hr4.mono (by decide)) (passN takesL) (pa_cons (pv 1) (pa_cons (pv 4) pa_nil))))) pa_nil)))
      (pss_cons (ps_expr (pe_bm PySem.F.plainAttrs_list PySem.F.slot_list_append PySem.F.type_list_append mt_append (pv 5) (pa_cons (pe_told T LFX (LamX.lamS_by (show LamX.lamSB (defScope s_law_refused_right) _ = true by decide +kernel)) rfl (fun _ _ _ _ _ => rfl) (fun A outer s H E f c hr4 => (pe_makeKD0 D_Machine_limit_frames (hr4.mono (by decide)) (passN takesL) (pk_cons (pv 4) (pk_cons (pv 1) pk_nil))))) pa_nil)))
      (pss_cons (ps_if (pt_cmpR (op_neD hr.units) (pv 5) (pe_op op_rep (pe_lst (pa_cons (pe_lst (pa_cons pe_str (pa_cons (pe_callB (LR.call_repr (LR.sysB_ok T.e_sys) hgu (u60 hr)) (by rfl) T.n_repr (by decide +kernel) (pa_cons (pe_lst (pa_cons (pv 4) pa_nil)) pa_nil)) pa_nil))) pa_nil)) pe_int) (nomark _)) (pss_one (ps_ret pe_bl)) pss_nil)
      (pss_cons (ps_set (i := 5) nd rfl (by first | exact Or.inl rfl | exact Or.inr rfl) (pe_lst (pa_cons (pe_told T LFX (LamX.lamS_by (show LamX.lamSB (defScope s_law_refused_right) _ = true by decide +kernel)) rfl (fun _ _ _ _ _ => rfl) (fun A outer s H E f c hr4 => (pe_makeD D_Machine_1 (hr4.mono (by decide)) (passN takesL) (pa_cons pe_non pa_nil)))) pa_nil)))
      (pss_cons (ps_expr (pe_bm PySem.F.plainAttrs_list PySem.F.slot_list_append PySem.F.type_list_append mt_append (pv 5) (pa_cons (pe_told T LFX (LamX.lamS_by (show LamX.lamSB (defScope s_law_refused_right) _ = true by decide +kernel)) rfl (fun _ _ _ _ _ => rfl) (fun A outer s H E f c hr4 => (pe_makeD D_Machine_2 (hr4.mono (by decide)) (passN takesL) (pa_cons pe_non (pa_cons (pv 4) pa_nil))))) pa_nil)))
      (pss_one (ps_ret (pe_cmpR (op_eqD hr.units) (pv 5) (pe_op op_rep (pe_lst (pa_cons (pe_lst (pa_cons pe_str (pa_cons pe_str pa_nil))) pa_nil)) pe_int) (nomark _)))))))))))))), ?_⟩
    obtain ⟨p, r, b, rfl, pu, tb, r0, r1, b0, b1, q⟩ := h
    refine sq_st [some (.ref p), some (.int r), some (.int b), none, none, none] rfl ?_
    repeat (with_reducible (first | refine RD.seq ?_ | refine RD.asg ?_ | refine RD.ret ?_ | refine RD.retN ?_ | refine RD.next ?_ | refine RD.drop ?_ | refine RD.ifS ?_ | refine RD.con ?_ | refine RD.nil ?_ | refine RD.cons ?_ | refine RD.op ?_ | refine RD.un ?_ | refine RD.i0 ?_ | refine RD.iU ?_ | refine RD.test ?_ | refine RD.testE ?_ | refine RD.tb_ ?_ | refine RD.not_ ?_ | refine RD.and_ ?_ | refine RD.or_ ?_ | refine RD.if_ ?_ | refine RD.andV ?_ | refine RD.orV ?_ | refine RD.notV ?_ | refine RD.andE ?_ | refine RD.orE ?_ | refine RD.notE ?_ | refine RD.lst ?_ | refine RD.tup ?_ | refine RD.cb ?_ | refine RD.call ?_ | refine RD.callS ?_ | refine RD.make ?_ | refine RD.makeK ?_ | refine RD.meth ?_ | refine RD.methK ?_ | refine RD.prop ?_ | refine RD.fld ?_ | refine RD.bm ?_ | refine RD.par ?_ | refine RD.forL ?_ | refine RD.v0 ?_ | refine RD.v1 ?_ | refine RD.v2 ?_ | refine RD.v3 ?_ | refine RD.v4 ?_ | refine RD.v5 ?_ | refine RD.v6 ?_ | refine RD.v7 ?_ | refine RD.v8 ?_ | refine RD.v9 ?_ | refine RD.v10 ?_ | refine RD.v11 ?_ | refine RD.g0 ?_ | refine RD.g1 ?_ | refine RD.g2 ?_ | refine RD.g3 ?_ | refine RD.g4 ?_ | refine RD.g5 ?_ | refine RD.g6 ?_ | refine RD.g7 ?_ | refine RD.g8 ?_ | refine RD.g9 ?_ | refine RD.g10 ?_ | refine RD.g11 ?_ | refine And.intro (Eq.refl V.non) ?_))
    refine ⟨p, rfl, pu, fun H1 x1 d1 S1 nn1 sm1 sx1 pu1 => ?_⟩
    repeat (with_reducible (first | refine RD.seq ?_ | refine RD.asg ?_ | refine RD.ret ?_ | refine RD.retN ?_ | refine RD.next ?_ | refine RD.drop ?_ | refine RD.ifS ?_ | refine RD.con ?_ | refine RD.nil ?_ | refine RD.cons ?_ | refine RD.op ?_ | refine RD.un ?_ | refine RD.i0 ?_ | refine RD.iU ?_ | refine RD.test ?_ | refine RD.testE ?_ | refine RD.tb_ ?_ | refine RD.not_ ?_ | refine RD.and_ ?_ | refine RD.or_ ?_ | refine RD.if_ ?_ | refine RD.andV ?_ | refine RD.orV ?_ | refine RD.notV ?_ | refine RD.andE ?_ | refine RD.orE ?_ | refine RD.notE ?_ | refine RD.lst ?_ | refine RD.tup ?_ | refine RD.cb ?_ | refine RD.call ?_ | refine RD.callS ?_ | refine RD.make ?_ | refine RD.makeK ?_ | refine RD.meth ?_ | refine RD.methK ?_ | refine RD.prop ?_ | refine RD.fld ?_ | refine RD.bm ?_ | refine RD.par ?_ | refine RD.forL ?_ | refine RD.v0 ?_ | refine RD.v1 ?_ | refine RD.v2 ?_ | refine RD.v3 ?_ | refine RD.v4 ?_ | refine RD.v5 ?_ | refine RD.v6 ?_ | refine RD.v7 ?_ | refine RD.v8 ?_ | refine RD.v9 ?_ | refine RD.v10 ?_ | refine RD.v11 ?_ | refine RD.g0 ?_ | refine RD.g1 ?_ | refine RD.g2 ?_ | refine RD.g3 ?_ | refine RD.g4 ?_ | refine RD.g5 ?_ | refine RD.g6 ?_ | refine RD.g7 ?_ | refine RD.g8 ?_ | refine RD.g9 ?_ | refine RD.g10 ?_ | refine RD.g11 ?_ | refine And.intro (Eq.refl V.non) ?_))
    refine ⟨p, rfl, pu1, fun H2 x2 d2 S2 nn2 sm2 sx2 pu2 => ?_⟩
    repeat (with_reducible (first | refine RD.seq ?_ | refine RD.asg ?_ | refine RD.ret ?_ | refine RD.retN ?_ | refine RD.next ?_ | refine RD.drop ?_ | refine RD.ifS ?_ | refine RD.con ?_ | refine RD.nil ?_ | refine RD.cons ?_ | refine RD.op ?_ | refine RD.un ?_ | refine RD.i0 ?_ | refine RD.iU ?_ | refine RD.test ?_ | refine RD.testE ?_ | refine RD.tb_ ?_ | refine RD.not_ ?_ | refine RD.and_ ?_ | refine RD.or_ ?_ | refine RD.if_ ?_ | refine RD.andV ?_ | refine RD.orV ?_ | refine RD.notV ?_ | refine RD.andE ?_ | refine RD.orE ?_ | refine RD.notE ?_ | refine RD.lst ?_ | refine RD.tup ?_ | refine RD.cb ?_ | refine RD.call ?_ | refine RD.callS ?_ | refine RD.make ?_ | refine RD.makeK ?_ | refine RD.meth ?_ | refine RD.methK ?_ | refine RD.prop ?_ | refine RD.fld ?_ | refine RD.bm ?_ | refine RD.par ?_ | refine RD.forL ?_ | refine RD.v0 ?_ | refine RD.v1 ?_ | refine RD.v2 ?_ | refine RD.v3 ?_ | refine RD.v4 ?_ | refine RD.v5 ?_ | refine RD.v6 ?_ | refine RD.v7 ?_ | refine RD.v8 ?_ | refine RD.v9 ?_ | refine RD.v10 ?_ | refine RD.v11 ?_ | refine RD.g0 ?_ | refine RD.g1 ?_ | refine RD.g2 ?_ | refine RD.g3 ?_ | refine RD.g4 ?_ | refine RD.g5 ?_ | refine RD.g6 ?_ | refine RD.g7 ?_ | refine RD.g8 ?_ | refine RD.g9 ?_ | refine RD.g10 ?_ | refine RD.g11 ?_ | refine And.intro (Eq.refl V.non) ?_))
    refine RD.tupE (Nat.le_of_ble_eq_true rfl) fun H3 t3 s3 n3 e3 => ?_
    refine ⟨t3, _, rfl, SqT.of e3, rfl, _, _, rfl, ?_⟩
    repeat (with_reducible (first | refine RD.seq ?_ | refine RD.asg ?_ | refine RD.ret ?_ | refine RD.retN ?_ | refine RD.next ?_ | refine RD.drop ?_ | refine RD.ifS ?_ | refine RD.con ?_ | refine RD.nil ?_ | refine RD.cons ?_ | refine RD.op ?_ | refine RD.un ?_ | refine RD.i0 ?_ | refine RD.iU ?_ | refine RD.test ?_ | refine RD.testE ?_ | refine RD.tb_ ?_ | refine RD.not_ ?_ | refine RD.and_ ?_ | refine RD.or_ ?_ | refine RD.if_ ?_ | refine RD.andV ?_ | refine RD.orV ?_ | refine RD.notV ?_ | refine RD.andE ?_ | refine RD.orE ?_ | refine RD.notE ?_ | refine RD.lst ?_ | refine RD.tup ?_ | refine RD.cb ?_ | refine RD.call ?_ | refine RD.callS ?_ | refine RD.make ?_ | refine RD.makeK ?_ | refine RD.meth ?_ | refine RD.methK ?_ | refine RD.prop ?_ | refine RD.fld ?_ | refine RD.bm ?_ | refine RD.par ?_ | refine RD.forL ?_ | refine RD.v0 ?_ | refine RD.v1 ?_ | refine RD.v2 ?_ | refine RD.v3 ?_ | refine RD.v4 ?_ | refine RD.v5 ?_ | refine RD.v6 ?_ | refine RD.v7 ?_ | refine RD.v8 ?_ | refine RD.v9 ?_ | refine RD.v10 ?_ | refine RD.v11 ?_ | refine RD.g0 ?_ | refine RD.g1 ?_ | refine RD.g2 ?_ | refine RD.g3 ?_ | refine RD.g4 ?_ | refine RD.g5 ?_ | refine RD.g6 ?_ | refine RD.g7 ?_ | refine RD.g8 ?_ | refine RD.g9 ?_ | refine RD.g10 ?_ | refine RD.g11 ?_ | refine And.intro (Eq.refl V.non) ?_))
    refine ⟨_, _, rfl, ?_⟩
    repeat (with_reducible (first | refine RD.seq ?_ | refine RD.asg ?_ | refine RD.ret ?_ | refine RD.retN ?_ | refine RD.next ?_ | refine RD.drop ?_ | refine RD.ifS ?_ | refine RD.con ?_ | refine RD.nil ?_ | refine RD.cons ?_ | refine RD.op ?_ | refine RD.un ?_ | refine RD.i0 ?_ | refine RD.iU ?_ | refine RD.test ?_ | refine RD.testE ?_ | refine RD.tb_ ?_ | refine RD.not_ ?_ | refine RD.and_ ?_ | refine RD.or_ ?_ | refine RD.if_ ?_ | refine RD.andV ?_ | refine RD.orV ?_ | refine RD.notV ?_ | refine RD.andE ?_ | refine RD.orE ?_ | refine RD.notE ?_ | refine RD.lst ?_ | refine RD.tup ?_ | refine RD.cb ?_ | refine RD.call ?_ | refine RD.callS ?_ | refine RD.make ?_ | refine RD.makeK ?_ | refine RD.meth ?_ | refine RD.methK ?_ | refine RD.prop ?_ | refine RD.fld ?_ | refine RD.bm ?_ | refine RD.par ?_ | refine RD.forL ?_ | refine RD.v0 ?_ | refine RD.v1 ?_ | refine RD.v2 ?_ | refine RD.v3 ?_ | refine RD.v4 ?_ | refine RD.v5 ?_ | refine RD.v6 ?_ | refine RD.v7 ?_ | refine RD.v8 ?_ | refine RD.v9 ?_ | refine RD.v10 ?_ | refine RD.v11 ?_ | refine RD.g0 ?_ | refine RD.g1 ?_ | refine RD.g2 ?_ | refine RD.g3 ?_ | refine RD.g4 ?_ | refine RD.g5 ?_ | refine RD.g6 ?_ | refine RD.g7 ?_ | refine RD.g8 ?_ | refine RD.g9 ?_ | refine RD.g10 ?_ | refine RD.g11 ?_ | refine And.intro (Eq.refl V.non) ?_))
    refine ⟨rfl, ?_⟩
    have T3 : LamX.Tabs (TL K) H3 := tabs_s (tabs_x pu1 (tabs_x pu tb sx1) sx2) s3
    have X1 : ExtP p H1 H3 := sx2.ep.tr s3.ep
    have X2 : ExtP p H2 H3 := s3.ep
    have P3 := pu2.sam s3
    have hS1 : ∀ {H'}, ExtP p H3 H' → NotNum K H' x1 ∧ LR.Dr K H' x1 d1 := fun e => st_at S1 pu.some.choose_spec (X1.tr e)
    have hS2 : ∀ {H'}, ExtP p H3 H' → NotNum K H' x2 ∧ LR.Dr K H' x2 d2 := fun e => st_at S2 pu1.some.choose_spec (X2.tr e)
    -- three with the first thing
    refine st_lst (D := d1) (fun v => [some (.ref p), some (.int r), some (.int b), some x1, some x2, some v]) (fun _ => rfl) T3 (fun Ha Ea Qa Qk ena hEa ka => ?_) (fun B1 G1 L1 a1 en1 nB1 sB1 eL1 nl1 el1 U1 => ?_)
    · repeat (with_reducible (first | refine RD.seq ?_ | refine RD.asg ?_ | refine RD.ret ?_ | refine RD.retN ?_ | refine RD.next ?_ | refine RD.drop ?_ | refine RD.ifS ?_ | refine RD.con ?_ | refine RD.nil ?_ | refine RD.cons ?_ | refine RD.op ?_ | refine RD.un ?_ | refine RD.i0 ?_ | refine RD.iU ?_ | refine RD.test ?_ | refine RD.testE ?_ | refine RD.tb_ ?_ | refine RD.not_ ?_ | refine RD.and_ ?_ | refine RD.or_ ?_ | refine RD.if_ ?_ | refine RD.andV ?_ | refine RD.orV ?_ | refine RD.notV ?_ | refine RD.andE ?_ | refine RD.orE ?_ | refine RD.notE ?_ | refine RD.lst ?_ | refine RD.tup ?_ | refine RD.cb ?_ | refine RD.call ?_ | refine RD.callS ?_ | refine RD.make ?_ | refine RD.makeK ?_ | refine RD.meth ?_ | refine RD.methK ?_ | refine RD.prop ?_ | refine RD.fld ?_ | refine RD.bm ?_ | refine RD.par ?_ | refine RD.forL ?_ | refine RD.v0 ?_ | refine RD.v1 ?_ | refine RD.v2 ?_ | refine RD.v3 ?_ | refine RD.v4 ?_ | refine RD.v5 ?_ | refine RD.v6 ?_ | refine RD.v7 ?_ | refine RD.v8 ?_ | refine RD.v9 ?_ | refine RD.v10 ?_ | refine RD.v11 ?_ | refine RD.g0 ?_ | refine RD.g1 ?_ | refine RD.g2 ?_ | refine RD.g3 ?_ | refine RD.g4 ?_ | refine RD.g5 ?_ | refine RD.g6 ?_ | refine RD.g7 ?_ | refine RD.g8 ?_ | refine RD.g9 ?_ | refine RD.g10 ?_ | refine RD.g11 ?_ | refine And.intro (Eq.refl V.non) ?_))
      exact mach_bad rfl (hS1 (ExtP.en ena)).1 (hS1 (ExtP.en ena)).2 sm1 hEa ka
    have o1 : ∀ {H'}, ExtP L1 B1 H' → ExtP p H3 H' := fun e => ep_over (ExtP.en en1) nB1 e
    refine st_app (D := d1) rfl sB1.ep eL1 ref1 (by simp) (Nat.le_of_ble_eq_true rfl) U1 (fun Ha Ea Qa Qk ena hEa ka => ?_) (fun G2 a2 xG2 eL2 nl2 el2 U2 => ?_)
    · repeat (with_reducible (first | refine RD.seq ?_ | refine RD.asg ?_ | refine RD.ret ?_ | refine RD.retN ?_ | refine RD.next ?_ | refine RD.drop ?_ | refine RD.ifS ?_ | refine RD.con ?_ | refine RD.nil ?_ | refine RD.cons ?_ | refine RD.op ?_ | refine RD.un ?_ | refine RD.i0 ?_ | refine RD.iU ?_ | refine RD.test ?_ | refine RD.testE ?_ | refine RD.tb_ ?_ | refine RD.not_ ?_ | refine RD.and_ ?_ | refine RD.or_ ?_ | refine RD.if_ ?_ | refine RD.andV ?_ | refine RD.orV ?_ | refine RD.notV ?_ | refine RD.andE ?_ | refine RD.orE ?_ | refine RD.notE ?_ | refine RD.lst ?_ | refine RD.tup ?_ | refine RD.cb ?_ | refine RD.call ?_ | refine RD.callS ?_ | refine RD.make ?_ | refine RD.makeK ?_ | refine RD.meth ?_ | refine RD.methK ?_ | refine RD.prop ?_ | refine RD.fld ?_ | refine RD.bm ?_ | refine RD.par ?_ | refine RD.forL ?_ | refine RD.v0 ?_ | refine RD.v1 ?_ | refine RD.v2 ?_ | refine RD.v3 ?_ | refine RD.v4 ?_ | refine RD.v5 ?_ | refine RD.v6 ?_ | refine RD.v7 ?_ | refine RD.v8 ?_ | refine RD.v9 ?_ | refine RD.v10 ?_ | refine RD.v11 ?_ | refine RD.g0 ?_ | refine RD.g1 ?_ | refine RD.g2 ?_ | refine RD.g3 ?_ | refine RD.g4 ?_ | refine RD.g5 ?_ | refine RD.g6 ?_ | refine RD.g7 ?_ | refine RD.g8 ?_ | refine RD.g9 ?_ | refine RD.g10 ?_ | refine RD.g11 ?_ | refine And.intro (Eq.refl V.non) ?_))
      exact mach_bad rfl (hS1 (o1 ena)).1 (hS1 (o1 ena)).2 sm1 hEa ka
    have R2 := sB1.ep.tr xG2
    have el1' := xG2 _ _ nl1 el1 (fun _ z => by cases z)
    refine st_app (D := d1) rfl R2 eL2 ref2 (by simp) (Nat.le_of_ble_eq_true rfl) U2 (fun Ha Ea Qa Qk ena hEa ka => ?_) (fun G3 a3 xG3 eL3 nl3 el3 U3 => ?_)
    · repeat (with_reducible (first | refine RD.seq ?_ | refine RD.asg ?_ | refine RD.ret ?_ | refine RD.retN ?_ | refine RD.next ?_ | refine RD.drop ?_ | refine RD.ifS ?_ | refine RD.con ?_ | refine RD.nil ?_ | refine RD.cons ?_ | refine RD.op ?_ | refine RD.un ?_ | refine RD.i0 ?_ | refine RD.iU ?_ | refine RD.test ?_ | refine RD.testE ?_ | refine RD.tb_ ?_ | refine RD.not_ ?_ | refine RD.and_ ?_ | refine RD.or_ ?_ | refine RD.if_ ?_ | refine RD.andV ?_ | refine RD.orV ?_ | refine RD.notV ?_ | refine RD.andE ?_ | refine RD.orE ?_ | refine RD.notE ?_ | refine RD.lst ?_ | refine RD.tup ?_ | refine RD.cb ?_ | refine RD.call ?_ | refine RD.callS ?_ | refine RD.make ?_ | refine RD.makeK ?_ | refine RD.meth ?_ | refine RD.methK ?_ | refine RD.prop ?_ | refine RD.fld ?_ | refine RD.bm ?_ | refine RD.par ?_ | refine RD.forL ?_ | refine RD.v0 ?_ | refine RD.v1 ?_ | refine RD.v2 ?_ | refine RD.v3 ?_ | refine RD.v4 ?_ | refine RD.v5 ?_ | refine RD.v6 ?_ | refine RD.v7 ?_ | refine RD.v8 ?_ | refine RD.v9 ?_ | refine RD.v10 ?_ | refine RD.v11 ?_ | refine RD.g0 ?_ | refine RD.g1 ?_ | refine RD.g2 ?_ | refine RD.g3 ?_ | refine RD.g4 ?_ | refine RD.g5 ?_ | refine RD.g6 ?_ | refine RD.g7 ?_ | refine RD.g8 ?_ | refine RD.g9 ?_ | refine RD.g10 ?_ | refine RD.g11 ?_ | refine And.intro (Eq.refl V.non) ?_))
      exact mach_badK rfl rfl (fun _ => rfl) (hS1 (o1 ena)).1 (hS1 (o1 ena)).2 sm1 hEa ka
    have R3 := R2.tr xG3
    have el1'' := xG3 _ _ nl1 el1' (fun _ z => by cases z)
    have el2' := xG3 _ _ nl2 el2 (fun _ z => by cases z)
    repeat (with_reducible (first | refine RD.seq ?_ | refine RD.asg ?_ | refine RD.ret ?_ | refine RD.retN ?_ | refine RD.next ?_ | refine RD.drop ?_ | refine RD.ifS ?_ | refine RD.con ?_ | refine RD.nil ?_ | refine RD.cons ?_ | refine RD.op ?_ | refine RD.un ?_ | refine RD.i0 ?_ | refine RD.iU ?_ | refine RD.test ?_ | refine RD.testE ?_ | refine RD.tb_ ?_ | refine RD.not_ ?_ | refine RD.and_ ?_ | refine RD.or_ ?_ | refine RD.if_ ?_ | refine RD.andV ?_ | refine RD.orV ?_ | refine RD.notV ?_ | refine RD.andE ?_ | refine RD.orE ?_ | refine RD.notE ?_ | refine RD.lst ?_ | refine RD.tup ?_ | refine RD.cb ?_ | refine RD.call ?_ | refine RD.callS ?_ | refine RD.make ?_ | refine RD.makeK ?_ | refine RD.meth ?_ | refine RD.methK ?_ | refine RD.prop ?_ | refine RD.fld ?_ | refine RD.bm ?_ | refine RD.par ?_ | refine RD.forL ?_ | refine RD.v0 ?_ | refine RD.v1 ?_ | refine RD.v2 ?_ | refine RD.v3 ?_ | refine RD.v4 ?_ | refine RD.v5 ?_ | refine RD.v6 ?_ | refine RD.v7 ?_ | refine RD.v8 ?_ | refine RD.v9 ?_ | refine RD.v10 ?_ | refine RD.v11 ?_ | refine RD.g0 ?_ | refine RD.g1 ?_ | refine RD.g2 ?_ | refine RD.g3 ?_ | refine RD.g4 ?_ | refine RD.g5 ?_ | refine RD.g6 ?_ | refine RD.g7 ?_ | refine RD.g8 ?_ | refine RD.g9 ?_ | refine RD.g10 ?_ | refine RD.g11 ?_ | refine And.intro (Eq.refl V.non) ?_))
    refine RD.lstE (Nat.le_of_ble_eq_true rfl) fun G4 l4 s4 n4 e4 => ?_
    repeat (with_reducible (first | refine RD.seq ?_ | refine RD.asg ?_ | refine RD.ret ?_ | refine RD.retN ?_ | refine RD.next ?_ | refine RD.drop ?_ | refine RD.ifS ?_ | refine RD.con ?_ | refine RD.nil ?_ | refine RD.cons ?_ | refine RD.op ?_ | refine RD.un ?_ | refine RD.i0 ?_ | refine RD.iU ?_ | refine RD.test ?_ | refine RD.testE ?_ | refine RD.tb_ ?_ | refine RD.not_ ?_ | refine RD.and_ ?_ | refine RD.or_ ?_ | refine RD.if_ ?_ | refine RD.andV ?_ | refine RD.orV ?_ | refine RD.notV ?_ | refine RD.andE ?_ | refine RD.orE ?_ | refine RD.notE ?_ | refine RD.lst ?_ | refine RD.tup ?_ | refine RD.cb ?_ | refine RD.call ?_ | refine RD.callS ?_ | refine RD.make ?_ | refine RD.makeK ?_ | refine RD.meth ?_ | refine RD.methK ?_ | refine RD.prop ?_ | refine RD.fld ?_ | refine RD.bm ?_ | refine RD.par ?_ | refine RD.forL ?_ | refine RD.v0 ?_ | refine RD.v1 ?_ | refine RD.v2 ?_ | refine RD.v3 ?_ | refine RD.v4 ?_ | refine RD.v5 ?_ | refine RD.v6 ?_ | refine RD.v7 ?_ | refine RD.v8 ?_ | refine RD.v9 ?_ | refine RD.v10 ?_ | refine RD.v11 ?_ | refine RD.g0 ?_ | refine RD.g1 ?_ | refine RD.g2 ?_ | refine RD.g3 ?_ | refine RD.g4 ?_ | refine RD.g5 ?_ | refine RD.g6 ?_ | refine RD.g7 ?_ | refine RD.g8 ?_ | refine RD.g9 ?_ | refine RD.g10 ?_ | refine RD.g11 ?_ | refine And.intro (Eq.refl V.non) ?_))
    refine repr1 e4 (hS1 ((o1 R3).tr s4.ep)).2 sm1 ?_
    repeat (with_reducible (first | refine RD.seq ?_ | refine RD.asg ?_ | refine RD.ret ?_ | refine RD.retN ?_ | refine RD.next ?_ | refine RD.drop ?_ | refine RD.ifS ?_ | refine RD.con ?_ | refine RD.nil ?_ | refine RD.cons ?_ | refine RD.op ?_ | refine RD.un ?_ | refine RD.i0 ?_ | refine RD.iU ?_ | refine RD.test ?_ | refine RD.testE ?_ | refine RD.tb_ ?_ | refine RD.not_ ?_ | refine RD.and_ ?_ | refine RD.or_ ?_ | refine RD.if_ ?_ | refine RD.andV ?_ | refine RD.orV ?_ | refine RD.notV ?_ | refine RD.andE ?_ | refine RD.orE ?_ | refine RD.notE ?_ | refine RD.lst ?_ | refine RD.tup ?_ | refine RD.cb ?_ | refine RD.call ?_ | refine RD.callS ?_ | refine RD.make ?_ | refine RD.makeK ?_ | refine RD.meth ?_ | refine RD.methK ?_ | refine RD.prop ?_ | refine RD.fld ?_ | refine RD.bm ?_ | refine RD.par ?_ | refine RD.forL ?_ | refine RD.v0 ?_ | refine RD.v1 ?_ | refine RD.v2 ?_ | refine RD.v3 ?_ | refine RD.v4 ?_ | refine RD.v5 ?_ | refine RD.v6 ?_ | refine RD.v7 ?_ | refine RD.v8 ?_ | refine RD.v9 ?_ | refine RD.v10 ?_ | refine RD.v11 ?_ | refine RD.g0 ?_ | refine RD.g1 ?_ | refine RD.g2 ?_ | refine RD.g3 ?_ | refine RD.g4 ?_ | refine RD.g5 ?_ | refine RD.g6 ?_ | refine RD.g7 ?_ | refine RD.g8 ?_ | refine RD.g9 ?_ | refine RD.g10 ?_ | refine RD.g11 ?_ | refine And.intro (Eq.refl V.non) ?_))
    refine RD.lstE (Nat.le_of_ble_eq_true rfl) fun G5 l5 s5 n5 e5 => ?_
    repeat (with_reducible (first | refine RD.seq ?_ | refine RD.asg ?_ | refine RD.ret ?_ | refine RD.retN ?_ | refine RD.next ?_ | refine RD.drop ?_ | refine RD.ifS ?_ | refine RD.con ?_ | refine RD.nil ?_ | refine RD.cons ?_ | refine RD.op ?_ | refine RD.un ?_ | refine RD.i0 ?_ | refine RD.iU ?_ | refine RD.test ?_ | refine RD.testE ?_ | refine RD.tb_ ?_ | refine RD.not_ ?_ | refine RD.and_ ?_ | refine RD.or_ ?_ | refine RD.if_ ?_ | refine RD.andV ?_ | refine RD.orV ?_ | refine RD.notV ?_ | refine RD.andE ?_ | refine RD.orE ?_ | refine RD.notE ?_ | refine RD.lst ?_ | refine RD.tup ?_ | refine RD.cb ?_ | refine RD.call ?_ | refine RD.callS ?_ | refine RD.make ?_ | refine RD.makeK ?_ | refine RD.meth ?_ | refine RD.methK ?_ | refine RD.prop ?_ | refine RD.fld ?_ | refine RD.bm ?_ | refine RD.par ?_ | refine RD.forL ?_ | refine RD.v0 ?_ | refine RD.v1 ?_ | refine RD.v2 ?_ | refine RD.v3 ?_ | refine RD.v4 ?_ | refine RD.v5 ?_ | refine RD.v6 ?_ | refine RD.v7 ?_ | refine RD.v8 ?_ | refine RD.v9 ?_ | refine RD.v10 ?_ | refine RD.v11 ?_ | refine RD.g0 ?_ | refine RD.g1 ?_ | refine RD.g2 ?_ | refine RD.g3 ?_ | refine RD.g4 ?_ | refine RD.g5 ?_ | refine RD.g6 ?_ | refine RD.g7 ?_ | refine RD.g8 ?_ | refine RD.g9 ?_ | refine RD.g10 ?_ | refine RD.g11 ?_ | refine And.intro (Eq.refl V.non) ?_))
    refine RD.lstE (Nat.le_of_ble_eq_true rfl) fun G6 l6 s6 n6 e6 => ?_
    repeat (with_reducible (first | refine RD.seq ?_ | refine RD.asg ?_ | refine RD.ret ?_ | refine RD.retN ?_ | refine RD.next ?_ | refine RD.drop ?_ | refine RD.ifS ?_ | refine RD.con ?_ | refine RD.nil ?_ | refine RD.cons ?_ | refine RD.op ?_ | refine RD.un ?_ | refine RD.i0 ?_ | refine RD.iU ?_ | refine RD.test ?_ | refine RD.testE ?_ | refine RD.tb_ ?_ | refine RD.not_ ?_ | refine RD.and_ ?_ | refine RD.or_ ?_ | refine RD.if_ ?_ | refine RD.andV ?_ | refine RD.orV ?_ | refine RD.notV ?_ | refine RD.andE ?_ | refine RD.orE ?_ | refine RD.notE ?_ | refine RD.lst ?_ | refine RD.tup ?_ | refine RD.cb ?_ | refine RD.call ?_ | refine RD.callS ?_ | refine RD.make ?_ | refine RD.makeK ?_ | refine RD.meth ?_ | refine RD.methK ?_ | refine RD.prop ?_ | refine RD.fld ?_ | refine RD.bm ?_ | refine RD.par ?_ | refine RD.forL ?_ | refine RD.v0 ?_ | refine RD.v1 ?_ | refine RD.v2 ?_ | refine RD.v3 ?_ | refine RD.v4 ?_ | refine RD.v5 ?_ | refine RD.v6 ?_ | refine RD.v7 ?_ | refine RD.v8 ?_ | refine RD.v9 ?_ | refine RD.v10 ?_ | refine RD.v11 ?_ | refine RD.g0 ?_ | refine RD.g1 ?_ | refine RD.g2 ?_ | refine RD.g3 ?_ | refine RD.g4 ?_ | refine RD.g5 ?_ | refine RD.g6 ?_ | refine RD.g7 ?_ | refine RD.g8 ?_ | refine RD.g9 ?_ | refine RD.g10 ?_ | refine RD.g11 ?_ | refine And.intro (Eq.refl V.non) ?_))
    refine RD.rep (k := 3) e6 (Nat.le_of_ble_eq_true rfl) (Nat.le_of_ble_eq_true rfl) fun G7 l7 s7 n7 e7 => ?_
    have k37 := ((s4.tr s5).tr s6).tr s7
    refine RD.neD (.lst (SqL.of (k37 _ _ eL3)) (.cons (dtold (k37 _ _ el1'')) (.cons (dtold (k37 _ _ el2')) (.cons (dtold (k37 _ _ el3)) .nil)))) (.lst (SqL.of e7) (.cons (dtold (s7 _ _ (s6 _ _ e5))) (.cons (dtold (s7 _ _ (s6 _ _ e5))) (.cons (dtold (s7 _ _ (s6 _ _ e5))) .nil)))) (shp (can3 sm1) (by show 2 ≤ 64; decide)) (shp (can3 sm1) (by show 2 ≤ 64; decide)) ?_
    repeat (with_reducible (first | refine RD.seq ?_ | refine RD.asg ?_ | refine RD.ret ?_ | refine RD.retN ?_ | refine RD.next ?_ | refine RD.drop ?_ | refine RD.ifS ?_ | refine RD.con ?_ | refine RD.nil ?_ | refine RD.cons ?_ | refine RD.op ?_ | refine RD.un ?_ | refine RD.i0 ?_ | refine RD.iU ?_ | refine RD.test ?_ | refine RD.testE ?_ | refine RD.tb_ ?_ | refine RD.not_ ?_ | refine RD.and_ ?_ | refine RD.or_ ?_ | refine RD.if_ ?_ | refine RD.andV ?_ | refine RD.orV ?_ | refine RD.notV ?_ | refine RD.andE ?_ | refine RD.orE ?_ | refine RD.notE ?_ | refine RD.lst ?_ | refine RD.tup ?_ | refine RD.cb ?_ | refine RD.call ?_ | refine RD.callS ?_ | refine RD.make ?_ | refine RD.makeK ?_ | refine RD.meth ?_ | refine RD.methK ?_ | refine RD.prop ?_ | refine RD.fld ?_ | refine RD.bm ?_ | refine RD.par ?_ | refine RD.forL ?_ | refine RD.v0 ?_ | refine RD.v1 ?_ | refine RD.v2 ?_ | refine RD.v3 ?_ | refine RD.v4 ?_ | refine RD.v5 ?_ | refine RD.v6 ?_ | refine RD.v7 ?_ | refine RD.v8 ?_ | refine RD.v9 ?_ | refine RD.v10 ?_ | refine RD.v11 ?_ | refine RD.g0 ?_ | refine RD.g1 ?_ | refine RD.g2 ?_ | refine RD.g3 ?_ | refine RD.g4 ?_ | refine RD.g5 ?_ | refine RD.g6 ?_ | refine RD.g7 ?_ | refine RD.g8 ?_ | refine RD.g9 ?_ | refine RD.g10 ?_ | refine RD.g11 ?_ | refine And.intro (Eq.refl V.non) ?_))
    refine ite_f (by rw [SeqAt.eqv_refl _ (can3 sm1)]; rfl) ?_
    repeat (with_reducible (first | refine RD.seq ?_ | refine RD.asg ?_ | refine RD.ret ?_ | refine RD.retN ?_ | refine RD.next ?_ | refine RD.drop ?_ | refine RD.ifS ?_ | refine RD.con ?_ | refine RD.nil ?_ | refine RD.cons ?_ | refine RD.op ?_ | refine RD.un ?_ | refine RD.i0 ?_ | refine RD.iU ?_ | refine RD.test ?_ | refine RD.testE ?_ | refine RD.tb_ ?_ | refine RD.not_ ?_ | refine RD.and_ ?_ | refine RD.or_ ?_ | refine RD.if_ ?_ | refine RD.andV ?_ | refine RD.orV ?_ | refine RD.notV ?_ | refine RD.andE ?_ | refine RD.orE ?_ | refine RD.notE ?_ | refine RD.lst ?_ | refine RD.tup ?_ | refine RD.cb ?_ | refine RD.call ?_ | refine RD.callS ?_ | refine RD.make ?_ | refine RD.makeK ?_ | refine RD.meth ?_ | refine RD.methK ?_ | refine RD.prop ?_ | refine RD.fld ?_ | refine RD.bm ?_ | refine RD.par ?_ | refine RD.forL ?_ | refine RD.v0 ?_ | refine RD.v1 ?_ | refine RD.v2 ?_ | refine RD.v3 ?_ | refine RD.v4 ?_ | refine RD.v5 ?_ | refine RD.v6 ?_ | refine RD.v7 ?_ | refine RD.v8 ?_ | refine RD.v9 ?_ | refine RD.v10 ?_ | refine RD.v11 ?_ | refine RD.g0 ?_ | refine RD.g1 ?_ | refine RD.g2 ?_ | refine RD.g3 ?_ | refine RD.g4 ?_ | refine RD.g5 ?_ | refine RD.g6 ?_ | refine RD.g7 ?_ | refine RD.g8 ?_ | refine RD.g9 ?_ | refine RD.g10 ?_ | refine RD.g11 ?_ | refine And.intro (Eq.refl V.non) ?_))
    have xA := (o1 R3).tr k37.ep
    have UA := tabs_s U3 k37
    -- two with the second thing
    refine st_lst (D := d2) (fun v => [some (.ref p), some (.int r), some (.int b), some x1, some x2, some v]) (fun _ => rfl) UA (fun Ha Ea Qa Qk ena hEa ka => ?_) (fun B4 G8 L4 a4 en4 nB4 sB4 eL4 nl4 el4 U4 => ?_)
    · have hb := hS2 (xA.tr (ExtP.en ena))
      repeat (with_reducible (first | refine RD.seq ?_ | refine RD.asg ?_ | refine RD.ret ?_ | refine RD.retN ?_ | refine RD.next ?_ | refine RD.drop ?_ | refine RD.ifS ?_ | refine RD.con ?_ | refine RD.nil ?_ | refine RD.cons ?_ | refine RD.op ?_ | refine RD.un ?_ | refine RD.i0 ?_ | refine RD.iU ?_ | refine RD.test ?_ | refine RD.testE ?_ | refine RD.tb_ ?_ | refine RD.not_ ?_ | refine RD.and_ ?_ | refine RD.or_ ?_ | refine RD.if_ ?_ | refine RD.andV ?_ | refine RD.orV ?_ | refine RD.notV ?_ | refine RD.andE ?_ | refine RD.orE ?_ | refine RD.notE ?_ | refine RD.lst ?_ | refine RD.tup ?_ | refine RD.cb ?_ | refine RD.call ?_ | refine RD.callS ?_ | refine RD.make ?_ | refine RD.makeK ?_ | refine RD.meth ?_ | refine RD.methK ?_ | refine RD.prop ?_ | refine RD.fld ?_ | refine RD.bm ?_ | refine RD.par ?_ | refine RD.forL ?_ | refine RD.v0 ?_ | refine RD.v1 ?_ | refine RD.v2 ?_ | refine RD.v3 ?_ | refine RD.v4 ?_ | refine RD.v5 ?_ | refine RD.v6 ?_ | refine RD.v7 ?_ | refine RD.v8 ?_ | refine RD.v9 ?_ | refine RD.v10 ?_ | refine RD.v11 ?_ | refine RD.g0 ?_ | refine RD.g1 ?_ | refine RD.g2 ?_ | refine RD.g3 ?_ | refine RD.g4 ?_ | refine RD.g5 ?_ | refine RD.g6 ?_ | refine RD.g7 ?_ | refine RD.g8 ?_ | refine RD.g9 ?_ | refine RD.g10 ?_ | refine RD.g11 ?_ | refine And.intro (Eq.refl V.non) ?_))
      exact mach_bad2 rfl r0 nn2 hb.1 hb.2 sm2 hEa ka
    have o4 : ∀ {H'}, ExtP L4 B4 H' → ExtP p H3 H' := fun e => ep_over (xA.tr (ExtP.en en4)) nB4 e
    refine st_app (D := d2) rfl sB4.ep eL4 ref1 (by simp) (Nat.le_of_ble_eq_true rfl) U4 (fun Ha Ea Qa Qk ena hEa ka => ?_) (fun G9 a5 xG9 eL5 nl5 el5 U5 => ?_)
    · have hb := hS2 (o4 ena)
      repeat (with_reducible (first | refine RD.seq ?_ | refine RD.asg ?_ | refine RD.ret ?_ | refine RD.retN ?_ | refine RD.next ?_ | refine RD.drop ?_ | refine RD.ifS ?_ | refine RD.con ?_ | refine RD.nil ?_ | refine RD.cons ?_ | refine RD.op ?_ | refine RD.un ?_ | refine RD.i0 ?_ | refine RD.iU ?_ | refine RD.test ?_ | refine RD.testE ?_ | refine RD.tb_ ?_ | refine RD.not_ ?_ | refine RD.and_ ?_ | refine RD.or_ ?_ | refine RD.if_ ?_ | refine RD.andV ?_ | refine RD.orV ?_ | refine RD.notV ?_ | refine RD.andE ?_ | refine RD.orE ?_ | refine RD.notE ?_ | refine RD.lst ?_ | refine RD.tup ?_ | refine RD.cb ?_ | refine RD.call ?_ | refine RD.callS ?_ | refine RD.make ?_ | refine RD.makeK ?_ | refine RD.meth ?_ | refine RD.methK ?_ | refine RD.prop ?_ | refine RD.fld ?_ | refine RD.bm ?_ | refine RD.par ?_ | refine RD.forL ?_ | refine RD.v0 ?_ | refine RD.v1 ?_ | refine RD.v2 ?_ | refine RD.v3 ?_ | refine RD.v4 ?_ | refine RD.v5 ?_ | refine RD.v6 ?_ | refine RD.v7 ?_ | refine RD.v8 ?_ | refine RD.v9 ?_ | refine RD.v10 ?_ | refine RD.v11 ?_ | refine RD.g0 ?_ | refine RD.g1 ?_ | refine RD.g2 ?_ | refine RD.g3 ?_ | refine RD.g4 ?_ | refine RD.g5 ?_ | refine RD.g6 ?_ | refine RD.g7 ?_ | refine RD.g8 ?_ | refine RD.g9 ?_ | refine RD.g10 ?_ | refine RD.g11 ?_ | refine And.intro (Eq.refl V.non) ?_))
      exact mach_bad2K rfl rfl (fun _ => rfl) r0 nn2 hb.1 hb.2 sm2 hEa ka
    have R5 := sB4.ep.tr xG9
    have el4' := xG9 _ _ nl4 el4 (fun _ z => by cases z)
    repeat (with_reducible (first | refine RD.seq ?_ | refine RD.asg ?_ | refine RD.ret ?_ | refine RD.retN ?_ | refine RD.next ?_ | refine RD.drop ?_ | refine RD.ifS ?_ | refine RD.con ?_ | refine RD.nil ?_ | refine RD.cons ?_ | refine RD.op ?_ | refine RD.un ?_ | refine RD.i0 ?_ | refine RD.iU ?_ | refine RD.test ?_ | refine RD.testE ?_ | refine RD.tb_ ?_ | refine RD.not_ ?_ | refine RD.and_ ?_ | refine RD.or_ ?_ | refine RD.if_ ?_ | refine RD.andV ?_ | refine RD.orV ?_ | refine RD.notV ?_ | refine RD.andE ?_ | refine RD.orE ?_ | refine RD.notE ?_ | refine RD.lst ?_ | refine RD.tup ?_ | refine RD.cb ?_ | refine RD.call ?_ | refine RD.callS ?_ | refine RD.make ?_ | refine RD.makeK ?_ | refine RD.meth ?_ | refine RD.methK ?_ | refine RD.prop ?_ | refine RD.fld ?_ | refine RD.bm ?_ | refine RD.par ?_ | refine RD.forL ?_ | refine RD.v0 ?_ | refine RD.v1 ?_ | refine RD.v2 ?_ | refine RD.v3 ?_ | refine RD.v4 ?_ | refine RD.v5 ?_ | refine RD.v6 ?_ | refine RD.v7 ?_ | refine RD.v8 ?_ | refine RD.v9 ?_ | refine RD.v10 ?_ | refine RD.v11 ?_ | refine RD.g0 ?_ | refine RD.g1 ?_ | refine RD.g2 ?_ | refine RD.g3 ?_ | refine RD.g4 ?_ | refine RD.g5 ?_ | refine RD.g6 ?_ | refine RD.g7 ?_ | refine RD.g8 ?_ | refine RD.g9 ?_ | refine RD.g10 ?_ | refine RD.g11 ?_ | refine And.intro (Eq.refl V.non) ?_))
    refine RD.lstE (Nat.le_of_ble_eq_true rfl) fun J4 j4 s4 n4 e4 => ?_
    repeat (with_reducible (first | refine RD.seq ?_ | refine RD.asg ?_ | refine RD.ret ?_ | refine RD.retN ?_ | refine RD.next ?_ | refine RD.drop ?_ | refine RD.ifS ?_ | refine RD.con ?_ | refine RD.nil ?_ | refine RD.cons ?_ | refine RD.op ?_ | refine RD.un ?_ | refine RD.i0 ?_ | refine RD.iU ?_ | refine RD.test ?_ | refine RD.testE ?_ | refine RD.tb_ ?_ | refine RD.not_ ?_ | refine RD.and_ ?_ | refine RD.or_ ?_ | refine RD.if_ ?_ | refine RD.andV ?_ | refine RD.orV ?_ | refine RD.notV ?_ | refine RD.andE ?_ | refine RD.orE ?_ | refine RD.notE ?_ | refine RD.lst ?_ | refine RD.tup ?_ | refine RD.cb ?_ | refine RD.call ?_ | refine RD.callS ?_ | refine RD.make ?_ | refine RD.makeK ?_ | refine RD.meth ?_ | refine RD.methK ?_ | refine RD.prop ?_ | refine RD.fld ?_ | refine RD.bm ?_ | refine RD.par ?_ | refine RD.forL ?_ | refine RD.v0 ?_ | refine RD.v1 ?_ | refine RD.v2 ?_ | refine RD.v3 ?_ | refine RD.v4 ?_ | refine RD.v5 ?_ | refine RD.v6 ?_ | refine RD.v7 ?_ | refine RD.v8 ?_ | refine RD.v9 ?_ | refine RD.v10 ?_ | refine RD.v11 ?_ | refine RD.g0 ?_ | refine RD.g1 ?_ | refine RD.g2 ?_ | refine RD.g3 ?_ | refine RD.g4 ?_ | refine RD.g5 ?_ | refine RD.g6 ?_ | refine RD.g7 ?_ | refine RD.g8 ?_ | refine RD.g9 ?_ | refine RD.g10 ?_ | refine RD.g11 ?_ | refine And.intro (Eq.refl V.non) ?_))
    refine repr1 e4 (hS2 ((o4 R5).tr s4.ep)).2 sm2 ?_
    repeat (with_reducible (first | refine RD.seq ?_ | refine RD.asg ?_ | refine RD.ret ?_ | refine RD.retN ?_ | refine RD.next ?_ | refine RD.drop ?_ | refine RD.ifS ?_ | refine RD.con ?_ | refine RD.nil ?_ | refine RD.cons ?_ | refine RD.op ?_ | refine RD.un ?_ | refine RD.i0 ?_ | refine RD.iU ?_ | refine RD.test ?_ | refine RD.testE ?_ | refine RD.tb_ ?_ | refine RD.not_ ?_ | refine RD.and_ ?_ | refine RD.or_ ?_ | refine RD.if_ ?_ | refine RD.andV ?_ | refine RD.orV ?_ | refine RD.notV ?_ | refine RD.andE ?_ | refine RD.orE ?_ | refine RD.notE ?_ | refine RD.lst ?_ | refine RD.tup ?_ | refine RD.cb ?_ | refine RD.call ?_ | refine RD.callS ?_ | refine RD.make ?_ | refine RD.makeK ?_ | refine RD.meth ?_ | refine RD.methK ?_ | refine RD.prop ?_ | refine RD.fld ?_ | refine RD.bm ?_ | refine RD.par ?_ | refine RD.forL ?_ | refine RD.v0 ?_ | refine RD.v1 ?_ | refine RD.v2 ?_ | refine RD.v3 ?_ | refine RD.v4 ?_ | refine RD.v5 ?_ | refine RD.v6 ?_ | refine RD.v7 ?_ | refine RD.v8 ?_ | refine RD.v9 ?_ | refine RD.v10 ?_ | refine RD.v11 ?_ | refine RD.g0 ?_ | refine RD.g1 ?_ | refine RD.g2 ?_ | refine RD.g3 ?_ | refine RD.g4 ?_ | refine RD.g5 ?_ | refine RD.g6 ?_ | refine RD.g7 ?_ | refine RD.g8 ?_ | refine RD.g9 ?_ | refine RD.g10 ?_ | refine RD.g11 ?_ | refine And.intro (Eq.refl V.non) ?_))
    refine RD.lstE (Nat.le_of_ble_eq_true rfl) fun J5 j5 s5 n5 e5 => ?_
    repeat (with_reducible (first | refine RD.seq ?_ | refine RD.asg ?_ | refine RD.ret ?_ | refine RD.retN ?_ | refine RD.next ?_ | refine RD.drop ?_ | refine RD.ifS ?_ | refine RD.con ?_ | refine RD.nil ?_ | refine RD.cons ?_ | refine RD.op ?_ | refine RD.un ?_ | refine RD.i0 ?_ | refine RD.iU ?_ | refine RD.test ?_ | refine RD.testE ?_ | refine RD.tb_ ?_ | refine RD.not_ ?_ | refine RD.and_ ?_ | refine RD.or_ ?_ | refine RD.if_ ?_ | refine RD.andV ?_ | refine RD.orV ?_ | refine RD.notV ?_ | refine RD.andE ?_ | refine RD.orE ?_ | refine RD.notE ?_ | refine RD.lst ?_ | refine RD.tup ?_ | refine RD.cb ?_ | refine RD.call ?_ | refine RD.callS ?_ | refine RD.make ?_ | refine RD.makeK ?_ | refine RD.meth ?_ | refine RD.methK ?_ | refine RD.prop ?_ | refine RD.fld ?_ | refine RD.bm ?_ | refine RD.par ?_ | refine RD.forL ?_ | refine RD.v0 ?_ | refine RD.v1 ?_ | refine RD.v2 ?_ | refine RD.v3 ?_ | refine RD.v4 ?_ | refine RD.v5 ?_ | refine RD.v6 ?_ | refine RD.v7 ?_ | refine RD.v8 ?_ | refine RD.v9 ?_ | refine RD.v10 ?_ | refine RD.v11 ?_ | refine RD.g0 ?_ | refine RD.g1 ?_ | refine RD.g2 ?_ | refine RD.g3 ?_ | refine RD.g4 ?_ | refine RD.g5 ?_ | refine RD.g6 ?_ | refine RD.g7 ?_ | refine RD.g8 ?_ | refine RD.g9 ?_ | refine RD.g10 ?_ | refine RD.g11 ?_ | refine And.intro (Eq.refl V.non) ?_))
    refine RD.lstE (Nat.le_of_ble_eq_true rfl) fun J6 j6 s6 n6 e6 => ?_
    repeat (with_reducible (first | refine RD.seq ?_ | refine RD.asg ?_ | refine RD.ret ?_ | refine RD.retN ?_ | refine RD.next ?_ | refine RD.drop ?_ | refine RD.ifS ?_ | refine RD.con ?_ | refine RD.nil ?_ | refine RD.cons ?_ | refine RD.op ?_ | refine RD.un ?_ | refine RD.i0 ?_ | refine RD.iU ?_ | refine RD.test ?_ | refine RD.testE ?_ | refine RD.tb_ ?_ | refine RD.not_ ?_ | refine RD.and_ ?_ | refine RD.or_ ?_ | refine RD.if_ ?_ | refine RD.andV ?_ | refine RD.orV ?_ | refine RD.notV ?_ | refine RD.andE ?_ | refine RD.orE ?_ | refine RD.notE ?_ | refine RD.lst ?_ | refine RD.tup ?_ | refine RD.cb ?_ | refine RD.call ?_ | refine RD.callS ?_ | refine RD.make ?_ | refine RD.makeK ?_ | refine RD.meth ?_ | refine RD.methK ?_ | refine RD.prop ?_ | refine RD.fld ?_ | refine RD.bm ?_ | refine RD.par ?_ | refine RD.forL ?_ | refine RD.v0 ?_ | refine RD.v1 ?_ | refine RD.v2 ?_ | refine RD.v3 ?_ | refine RD.v4 ?_ | refine RD.v5 ?_ | refine RD.v6 ?_ | refine RD.v7 ?_ | refine RD.v8 ?_ | refine RD.v9 ?_ | refine RD.v10 ?_ | refine RD.v11 ?_ | refine RD.g0 ?_ | refine RD.g1 ?_ | refine RD.g2 ?_ | refine RD.g3 ?_ | refine RD.g4 ?_ | refine RD.g5 ?_ | refine RD.g6 ?_ | refine RD.g7 ?_ | refine RD.g8 ?_ | refine RD.g9 ?_ | refine RD.g10 ?_ | refine RD.g11 ?_ | refine And.intro (Eq.refl V.non) ?_))
    refine RD.rep (k := 2) e6 (Nat.le_of_ble_eq_true rfl) (Nat.le_of_ble_eq_true rfl) fun J7 j7 s7 n7 e7 => ?_
    have k9 := ((s4.tr s5).tr s6).tr s7
    refine RD.neD (.lst (SqL.of (k9 _ _ eL5)) (.cons (dtold (k9 _ _ el4')) (.cons (dtold (k9 _ _ el5)) .nil))) (.lst (SqL.of e7) (.cons (dtold (s7 _ _ (s6 _ _ e5))) (.cons (dtold (s7 _ _ (s6 _ _ e5))) .nil))) (shp (can2 sm2) (by show 2 ≤ 64; decide)) (shp (can2 sm2) (by show 2 ≤ 64; decide)) ?_
    repeat (with_reducible (first | refine RD.seq ?_ | refine RD.asg ?_ | refine RD.ret ?_ | refine RD.retN ?_ | refine RD.next ?_ | refine RD.drop ?_ | refine RD.ifS ?_ | refine RD.con ?_ | refine RD.nil ?_ | refine RD.cons ?_ | refine RD.op ?_ | refine RD.un ?_ | refine RD.i0 ?_ | refine RD.iU ?_ | refine RD.test ?_ | refine RD.testE ?_ | refine RD.tb_ ?_ | refine RD.not_ ?_ | refine RD.and_ ?_ | refine RD.or_ ?_ | refine RD.if_ ?_ | refine RD.andV ?_ | refine RD.orV ?_ | refine RD.notV ?_ | refine RD.andE ?_ | refine RD.orE ?_ | refine RD.notE ?_ | refine RD.lst ?_ | refine RD.tup ?_ | refine RD.cb ?_ | refine RD.call ?_ | refine RD.callS ?_ | refine RD.make ?_ | refine RD.makeK ?_ | refine RD.meth ?_ | refine RD.methK ?_ | refine RD.prop ?_ | refine RD.fld ?_ | refine RD.bm ?_ | refine RD.par ?_ | refine RD.forL ?_ | refine RD.v0 ?_ | refine RD.v1 ?_ | refine RD.v2 ?_ | refine RD.v3 ?_ | refine RD.v4 ?_ | refine RD.v5 ?_ | refine RD.v6 ?_ | refine RD.v7 ?_ | refine RD.v8 ?_ | refine RD.v9 ?_ | refine RD.v10 ?_ | refine RD.v11 ?_ | refine RD.g0 ?_ | refine RD.g1 ?_ | refine RD.g2 ?_ | refine RD.g3 ?_ | refine RD.g4 ?_ | refine RD.g5 ?_ | refine RD.g6 ?_ | refine RD.g7 ?_ | refine RD.g8 ?_ | refine RD.g9 ?_ | refine RD.g10 ?_ | refine RD.g11 ?_ | refine And.intro (Eq.refl V.non) ?_))
    refine ite_f (by rw [SeqAt.eqv_refl _ (can2 sm2)]; rfl) ?_
    repeat (with_reducible (first | refine RD.seq ?_ | refine RD.asg ?_ | refine RD.ret ?_ | refine RD.retN ?_ | refine RD.next ?_ | refine RD.drop ?_ | refine RD.ifS ?_ | refine RD.con ?_ | refine RD.nil ?_ | refine RD.cons ?_ | refine RD.op ?_ | refine RD.un ?_ | refine RD.i0 ?_ | refine RD.iU ?_ | refine RD.test ?_ | refine RD.testE ?_ | refine RD.tb_ ?_ | refine RD.not_ ?_ | refine RD.and_ ?_ | refine RD.or_ ?_ | refine RD.if_ ?_ | refine RD.andV ?_ | refine RD.orV ?_ | refine RD.notV ?_ | refine RD.andE ?_ | refine RD.orE ?_ | refine RD.notE ?_ | refine RD.lst ?_ | refine RD.tup ?_ | refine RD.cb ?_ | refine RD.call ?_ | refine RD.callS ?_ | refine RD.make ?_ | refine RD.makeK ?_ | refine RD.meth ?_ | refine RD.methK ?_ | refine RD.prop ?_ | refine RD.fld ?_ | refine RD.bm ?_ | refine RD.par ?_ | refine RD.forL ?_ | refine RD.v0 ?_ | refine RD.v1 ?_ | refine RD.v2 ?_ | refine RD.v3 ?_ | refine RD.v4 ?_ | refine RD.v5 ?_ | refine RD.v6 ?_ | refine RD.v7 ?_ | refine RD.v8 ?_ | refine RD.v9 ?_ | refine RD.v10 ?_ | refine RD.v11 ?_ | refine RD.g0 ?_ | refine RD.g1 ?_ | refine RD.g2 ?_ | refine RD.g3 ?_ | refine RD.g4 ?_ | refine RD.g5 ?_ | refine RD.g6 ?_ | refine RD.g7 ?_ | refine RD.g8 ?_ | refine RD.g9 ?_ | refine RD.g10 ?_ | refine RD.g11 ?_ | refine And.intro (Eq.refl V.non) ?_))
    have xB := (o4 R5).tr k9.ep
    have UB := tabs_s U5 k9
    -- two with None
    have smn : Sml .none := ⟨by decide +kernel, by decide +kernel, by decide +kernel, by decide +kernel⟩
    have nn : ∀ {H' : Hp}, NotNum K H' .non := fun {_} => .inr (.inr (.inl (.base .non)))
    refine st_lst (D := .none) (fun v => [some (.ref p), some (.int r), some (.int b), some x1, some x2, some v]) (fun _ => rfl) UB (fun Ha Ea Qa Qk ena hEa ka => ?_) (fun B6 M1 L6 a6 en6 nB6 sB6 eL6 nl6 el6 U6 => ?_)
    · repeat (with_reducible (first | refine RD.seq ?_ | refine RD.asg ?_ | refine RD.ret ?_ | refine RD.retN ?_ | refine RD.next ?_ | refine RD.drop ?_ | refine RD.ifS ?_ | refine RD.con ?_ | refine RD.nil ?_ | refine RD.cons ?_ | refine RD.op ?_ | refine RD.un ?_ | refine RD.i0 ?_ | refine RD.iU ?_ | refine RD.test ?_ | refine RD.testE ?_ | refine RD.tb_ ?_ | refine RD.not_ ?_ | refine RD.and_ ?_ | refine RD.or_ ?_ | refine RD.if_ ?_ | refine RD.andV ?_ | refine RD.orV ?_ | refine RD.notV ?_ | refine RD.andE ?_ | refine RD.orE ?_ | refine RD.notE ?_ | refine RD.lst ?_ | refine RD.tup ?_ | refine RD.cb ?_ | refine RD.call ?_ | refine RD.callS ?_ | refine RD.make ?_ | refine RD.makeK ?_ | refine RD.meth ?_ | refine RD.methK ?_ | refine RD.prop ?_ | refine RD.fld ?_ | refine RD.bm ?_ | refine RD.par ?_ | refine RD.forL ?_ | refine RD.v0 ?_ | refine RD.v1 ?_ | refine RD.v2 ?_ | refine RD.v3 ?_ | refine RD.v4 ?_ | refine RD.v5 ?_ | refine RD.v6 ?_ | refine RD.v7 ?_ | refine RD.v8 ?_ | refine RD.v9 ?_ | refine RD.v10 ?_ | refine RD.v11 ?_ | refine RD.g0 ?_ | refine RD.g1 ?_ | refine RD.g2 ?_ | refine RD.g3 ?_ | refine RD.g4 ?_ | refine RD.g5 ?_ | refine RD.g6 ?_ | refine RD.g7 ?_ | refine RD.g8 ?_ | refine RD.g9 ?_ | refine RD.g10 ?_ | refine RD.g11 ?_ | refine And.intro (Eq.refl V.non) ?_))
      exact mach_bad rfl nn .non smn hEa ka
    have o6 : ∀ {H'}, ExtP L6 B6 H' → ExtP p H3 H' := fun e => ep_over (xB.tr (ExtP.en en6)) nB6 e
    refine st_app (D := .none) rfl sB6.ep eL6 ref1 (by simp) (Nat.le_of_ble_eq_true rfl) U6 (fun Ha Ea Qa Qk ena hEa ka => ?_) (fun M2 a7 xM2 eL7 nl7 el7 U7 => ?_)
    · repeat (with_reducible (first | refine RD.seq ?_ | refine RD.asg ?_ | refine RD.ret ?_ | refine RD.retN ?_ | refine RD.next ?_ | refine RD.drop ?_ | refine RD.ifS ?_ | refine RD.con ?_ | refine RD.nil ?_ | refine RD.cons ?_ | refine RD.op ?_ | refine RD.un ?_ | refine RD.i0 ?_ | refine RD.iU ?_ | refine RD.test ?_ | refine RD.testE ?_ | refine RD.tb_ ?_ | refine RD.not_ ?_ | refine RD.and_ ?_ | refine RD.or_ ?_ | refine RD.if_ ?_ | refine RD.andV ?_ | refine RD.orV ?_ | refine RD.notV ?_ | refine RD.andE ?_ | refine RD.orE ?_ | refine RD.notE ?_ | refine RD.lst ?_ | refine RD.tup ?_ | refine RD.cb ?_ | refine RD.call ?_ | refine RD.callS ?_ | refine RD.make ?_ | refine RD.makeK ?_ | refine RD.meth ?_ | refine RD.methK ?_ | refine RD.prop ?_ | refine RD.fld ?_ | refine RD.bm ?_ | refine RD.par ?_ | refine RD.forL ?_ | refine RD.v0 ?_ | refine RD.v1 ?_ | refine RD.v2 ?_ | refine RD.v3 ?_ | refine RD.v4 ?_ | refine RD.v5 ?_ | refine RD.v6 ?_ | refine RD.v7 ?_ | refine RD.v8 ?_ | refine RD.v9 ?_ | refine RD.v10 ?_ | refine RD.v11 ?_ | refine RD.g0 ?_ | refine RD.g1 ?_ | refine RD.g2 ?_ | refine RD.g3 ?_ | refine RD.g4 ?_ | refine RD.g5 ?_ | refine RD.g6 ?_ | refine RD.g7 ?_ | refine RD.g8 ?_ | refine RD.g9 ?_ | refine RD.g10 ?_ | refine RD.g11 ?_ | refine And.intro (Eq.refl V.non) ?_))
      exact mach_bad rfl nn .non smn hEa ka
    have R7 := sB6.ep.tr xM2
    have el6' := xM2 _ _ nl6 el6 (fun _ z => by cases z)
    repeat (with_reducible (first | refine RD.seq ?_ | refine RD.asg ?_ | refine RD.ret ?_ | refine RD.retN ?_ | refine RD.next ?_ | refine RD.drop ?_ | refine RD.ifS ?_ | refine RD.con ?_ | refine RD.nil ?_ | refine RD.cons ?_ | refine RD.op ?_ | refine RD.un ?_ | refine RD.i0 ?_ | refine RD.iU ?_ | refine RD.test ?_ | refine RD.testE ?_ | refine RD.tb_ ?_ | refine RD.not_ ?_ | refine RD.and_ ?_ | refine RD.or_ ?_ | refine RD.if_ ?_ | refine RD.andV ?_ | refine RD.orV ?_ | refine RD.notV ?_ | refine RD.andE ?_ | refine RD.orE ?_ | refine RD.notE ?_ | refine RD.lst ?_ | refine RD.tup ?_ | refine RD.cb ?_ | refine RD.call ?_ | refine RD.callS ?_ | refine RD.make ?_ | refine RD.makeK ?_ | refine RD.meth ?_ | refine RD.methK ?_ | refine RD.prop ?_ | refine RD.fld ?_ | refine RD.bm ?_ | refine RD.par ?_ | refine RD.forL ?_ | refine RD.v0 ?_ | refine RD.v1 ?_ | refine RD.v2 ?_ | refine RD.v3 ?_ | refine RD.v4 ?_ | refine RD.v5 ?_ | refine RD.v6 ?_ | refine RD.v7 ?_ | refine RD.v8 ?_ | refine RD.v9 ?_ | refine RD.v10 ?_ | refine RD.v11 ?_ | refine RD.g0 ?_ | refine RD.g1 ?_ | refine RD.g2 ?_ | refine RD.g3 ?_ | refine RD.g4 ?_ | refine RD.g5 ?_ | refine RD.g6 ?_ | refine RD.g7 ?_ | refine RD.g8 ?_ | refine RD.g9 ?_ | refine RD.g10 ?_ | refine RD.g11 ?_ | refine And.intro (Eq.refl V.non) ?_))
    refine RD.lstE (Nat.le_of_ble_eq_true rfl) fun M3 z3 t5 z5 f5 => ?_
    repeat (with_reducible (first | refine RD.seq ?_ | refine RD.asg ?_ | refine RD.ret ?_ | refine RD.retN ?_ | refine RD.next ?_ | refine RD.drop ?_ | refine RD.ifS ?_ | refine RD.con ?_ | refine RD.nil ?_ | refine RD.cons ?_ | refine RD.op ?_ | refine RD.un ?_ | refine RD.i0 ?_ | refine RD.iU ?_ | refine RD.test ?_ | refine RD.testE ?_ | refine RD.tb_ ?_ | refine RD.not_ ?_ | refine RD.and_ ?_ | refine RD.or_ ?_ | refine RD.if_ ?_ | refine RD.andV ?_ | refine RD.orV ?_ | refine RD.notV ?_ | refine RD.andE ?_ | refine RD.orE ?_ | refine RD.notE ?_ | refine RD.lst ?_ | refine RD.tup ?_ | refine RD.cb ?_ | refine RD.call ?_ | refine RD.callS ?_ | refine RD.make ?_ | refine RD.makeK ?_ | refine RD.meth ?_ | refine RD.methK ?_ | refine RD.prop ?_ | refine RD.fld ?_ | refine RD.bm ?_ | refine RD.par ?_ | refine RD.forL ?_ | refine RD.v0 ?_ | refine RD.v1 ?_ | refine RD.v2 ?_ | refine RD.v3 ?_ | refine RD.v4 ?_ | refine RD.v5 ?_ | refine RD.v6 ?_ | refine RD.v7 ?_ | refine RD.v8 ?_ | refine RD.v9 ?_ | refine RD.v10 ?_ | refine RD.v11 ?_ | refine RD.g0 ?_ | refine RD.g1 ?_ | refine RD.g2 ?_ | refine RD.g3 ?_ | refine RD.g4 ?_ | refine RD.g5 ?_ | refine RD.g6 ?_ | refine RD.g7 ?_ | refine RD.g8 ?_ | refine RD.g9 ?_ | refine RD.g10 ?_ | refine RD.g11 ?_ | refine And.intro (Eq.refl V.non) ?_))
    refine RD.lstE (Nat.le_of_ble_eq_true rfl) fun M4 z4 t6 z6 f6 => ?_
    repeat (with_reducible (first | refine RD.seq ?_ | refine RD.asg ?_ | refine RD.ret ?_ | refine RD.retN ?_ | refine RD.next ?_ | refine RD.drop ?_ | refine RD.ifS ?_ | refine RD.con ?_ | refine RD.nil ?_ | refine RD.cons ?_ | refine RD.op ?_ | refine RD.un ?_ | refine RD.i0 ?_ | refine RD.iU ?_ | refine RD.test ?_ | refine RD.testE ?_ | refine RD.tb_ ?_ | refine RD.not_ ?_ | refine RD.and_ ?_ | refine RD.or_ ?_ | refine RD.if_ ?_ | refine RD.andV ?_ | refine RD.orV ?_ | refine RD.notV ?_ | refine RD.andE ?_ | refine RD.orE ?_ | refine RD.notE ?_ | refine RD.lst ?_ | refine RD.tup ?_ | refine RD.cb ?_ | refine RD.call ?_ | refine RD.callS ?_ | refine RD.make ?_ | refine RD.makeK ?_ | refine RD.meth ?_ | refine RD.methK ?_ | refine RD.prop ?_ | refine RD.fld ?_ | refine RD.bm ?_ | refine RD.par ?_ | refine RD.forL ?_ | refine RD.v0 ?_ | refine RD.v1 ?_ | refine RD.v2 ?_ | refine RD.v3 ?_ | refine RD.v4 ?_ | refine RD.v5 ?_ | refine RD.v6 ?_ | refine RD.v7 ?_ | refine RD.v8 ?_ | refine RD.v9 ?_ | refine RD.v10 ?_ | refine RD.v11 ?_ | refine RD.g0 ?_ | refine RD.g1 ?_ | refine RD.g2 ?_ | refine RD.g3 ?_ | refine RD.g4 ?_ | refine RD.g5 ?_ | refine RD.g6 ?_ | refine RD.g7 ?_ | refine RD.g8 ?_ | refine RD.g9 ?_ | refine RD.g10 ?_ | refine RD.g11 ?_ | refine And.intro (Eq.refl V.non) ?_))
    refine RD.rep (k := 2) f6 (Nat.le_of_ble_eq_true rfl) (Nat.le_of_ble_eq_true rfl) fun M5 z8 t7 z7 f7 => ?_
    have k5 := (t5.tr t6).tr t7
    have dl : Dp K M5 (.ref z3) (toldD .none) := .lst (SqL.of (t7 _ _ (t6 _ _ f5))) (.cons (.str _) (.cons (.str _) .nil))
    refine RD.eqD (.lst (SqL.of (k5 _ _ eL7)) (.cons (dtold (k5 _ _ el6')) (.cons (dtold (k5 _ _ el7)) .nil))) (.lst (SqL.of f7) (.cons dl (.cons dl .nil))) (shp (can2 smn) (by show 2 ≤ 64; decide)) (shp (can2 smn) (by show 2 ≤ 64; decide)) ?_
    rw [SeqAt.eqv_refl _ (can2 smn)]
    have xC := (o6 R7).tr k5.ep
    have x03 : ExtP p H H3 := sx1.ep.tr (sx2.ep.tr s3.ep)
    refine q M5 (x03.tr xC) (tabs_s U7 k5) ?_
    have n1 : ∀ {Hb : Hp} {L : Addr}, ExtP p H3 Hb → Hb L = none → Pu Hb p → p ≠ L := fun _ n u z => by
      obtain ⟨st, dg, c, ep, _⟩ := u
      rw [← z, ep] at n
      cases n
    have mv : ∀ {Hb Hc : Hp} {L : Addr}, Pu Hb p → Hb L = none → ExtP L Hb Hc → Pu Hc p := fun u n x => by
      obtain ⟨st, dg, c, ep, r⟩ := u
      exact ⟨st, dg, c, x _ _ (fun y => by rw [← y, ep] at n; cases n) ep (fun _ z => by cases z), r⟩
    exact (mv ((((mv ((((mv (P3.n en1) nB1 R3)).sam k37).n en4) nB4 R5)).sam k9).n en6) nB6 R7).sam k5
end
end My
set_option Elab.async false
set_option linter.all false
set_option maxRecDepth 100000
set_option maxHeartbeats 4000000
/-! Limits; the law. -/
namespace My
open PySem PySem.Spec PyProof.Rows L2 He HL LD LX LL LQ
theorem set_bad {K : PySem.W.Frag} {H : Hp} {Q Q0 : VK} {E : XK} {m : Addr} {r b : Int} {x : V} {D : PyData} {vs : List V} (hv : vs = [.ref m, x]) (M : MO K H m r b) (n : NotNum K H x) (dr : LR.Dr K H x D) (sm : Sml D) (hE : ∀ cls d H', Raised K Q cls d H' → E cls d H')
    (k : ∀ H'' l, Sam H H'' → H'' l = some (.lst (told D)) → Q (.ref l) H'') : spSet K vs H Q0 E := by
  subst hv
  exact ⟨m, x, r, b, rfl, M, .inl ⟨n, fun d hd => raise_ hE Sam.rf hd dr sm k⟩⟩
theorem MO.en {K : PySem.W.Frag} {H H' : Hp} {m : Addr} {r b : Int} (M : MO K H m r b) (h : LamX.ExtN H H') : MO K H' m r b := by
  obtain ⟨dx, wa, e1, wx, d1, d2, e2, e3⟩ := M
  exact ⟨dx, wa, h _ _ e1 (fun _ z => by cases z), wx, d1, d2, h _ _ e2 (fun _ z => by cases z), h _ _ e3 (fun _ z => by cases z)⟩
theorem MO.at {K : PySem.W.Frag} {H : Hp} {m : Addr} {r b : Int} (M : MO K H m r b) : ∃ dx wa, H m = some (.ins (ga K "Machine") dx [("room", .int r), ("bound", .int b), ("world", .ref wa)]) := by
  obtain ⟨dx, wa, e, _⟩ := M
  exact ⟨dx, wa, e⟩
theorem mo_pu {K : PySem.W.Frag} {H H' : Hp} {p m : Addr} {r b : Int} (u : Pu H p) (h : SamX p H H') (M : MO K H m r b) : MO K H' m r b := by
  obtain ⟨st, dg, c, ep, _⟩ := u
  exact M.sx ep h
theorem pu_mo {K : PySem.W.Frag} {H H' : Hp} {p m : Addr} {r b : Int} (M : MO K H m r b) (h : SamX m H H') (u : Pu H p) : Pu H' p := by
  obtain ⟨st, dg, c, ep, q⟩ := u
  obtain ⟨dx, wa, e⟩ := M.at
  exact ⟨st, dg, c, h _ _ (fun z => by rw [z, e] at ep; cases ep) ep, q⟩
theorem tabs_m {T : List (Addr × PySem.Str)} {K : PySem.W.Frag} {H H' : Hp} {m : Addr} {r b : Int} (M : MO K H m r b) (t : LamX.Tabs T H) (h : SamX m H H') : LamX.Tabs T H' := fun q hq => by
  obtain ⟨dx, wa, e⟩ := M.at
  obtain ⟨ps, h1, h2, h3⟩ := t q hq
  refine ⟨ps, h _ _ (fun z => by rw [z, e] at h1; cases h1) h1, h2, fun pos cv hc => ?_⟩
  obtain ⟨c, e1, e2⟩ := h3 pos cv hc
  exact ⟨c, e1, h _ _ (fun z => by rw [z, e] at e2; cases e2) e2⟩
/-- what changes: p and m -/
def Ext2 (p m : Addr) (H H' : Hp) : Prop := ∀ b o, b ≠ p → b ≠ m → H b = some o → (∀ ps, o ≠ .tbl ps) → H' b = some o
theorem Ext2.tr {p m : Addr} {H H' H'' : Hp} (h : Ext2 p m H H') (k : Ext2 p m H' H'') : Ext2 p m H H'' := fun b o n1 n2 e z => k b o n1 n2 (h b o n1 n2 e z) z
theorem Ext2.p {p m : Addr} {H H' : Hp} (h : ExtP p H H') : Ext2 p m H H' := fun b o n1 _ e z => h b o n1 e z
theorem Ext2.m {p m : Addr} {H H' : Hp} (h : ExtP m H H') : Ext2 p m H H' := fun b o _ n2 e z => h b o n2 e z
structure spLim (K : PySem.W.Frag) (vs : List V) (H : Hp) (Q : VK) (_E : XK) : Prop where
  h : ∃ (p m : Addr) (r b : Int), vs = [.ref p, .ref m, .int r] ∧ Pu H p ∧ MO K H m r b ∧ LamX.Tabs (TL K) H ∧ 0 ≤ r ∧ r < big ∧ ∀ H', Ext2 p m H H' → LamX.Tabs (TL K) H' → Pu H' p → Q (.bl true) H'
section
variable {P : Program} {w : World} {K : PySem.W.Frag} {mg : PySem.Str → Option Value} {base : Heap} (T : Tx K mg base) (TB : ∀ p ∈ cs K, LamX.TabB base mg p.1 p.2)
include T TB
theorem D_law_limits_right : Gn P w K mg base CX0 7 "_law_limits_right" ["_law_purse_here", "_law_mine", "_law_room"] (spLim K) := by
  obtain ⟨fd, F⟩ := T.f_law_limits_right
  have nd := sc_law_limits_right.nd
  have D_law_thing := D_law_thing (P := P) (w := w) T
  have D_law_number := D_law_number (P := P) (w := w) T
  have D_law_fresh := D_law_fresh (P := P) (w := w) T
  have D_m_set_limit := D_m_set_limit (P := P) (w := w) T
  have D_m_set_limit_K := D_m_set_limit_K (P := P) (w := w) T
  refine ⟨_, fd, T.g_law_limits_right, F.kp, okG F sc_law_limits_right (fun vs H Q E h => ?_) (fun A outer s H vs Q E hr hgu h => ?_), F.bindsN fun _ _ _ _ _ _ us hl => match us, hl with | [_, _, _], _ => rfl⟩
  · obtain ⟨p, m, r, b, rfl, _⟩ := h
    rfl
  · have LFX : LF (cxOf CX0 P w K mg base N_law_limits_right "_law_limits_right" (defScope s_law_limits_right) (ga K "_law_limits_right") fd.code A outer s H E) (TL K) := lf2 T TB hgu hr (code_ref F) rfl
    refine ⟨_, (pss_cons (ps_par (i := 3) (j := 4) (by rfl) nd rfl rfl (by decide) rfl rfl (pa_cons (pe_callD D_law_number (hr.mono (by decide)) pass0 (pa_cons (pv 0) pa_nil)) (pa_cons (pe_callD D_law_number (hr.mono (by decide)) pass0 (pa_cons (pv 0) pa_nil)) pa_nil)) (by rfl))
      (pss_cons (ps_set (i := 5) nd rfl (by first | exact Or.inl rfl | exact Or.inr rfl) (pe_callD D_law_thing (hr.mono (by decide)) pass0 (pa_cons (pv 0) pa_nil)))
      (pss_cons (ps_set (i := 6) nd rfl (by first | exact Or.inl rfl | exact Or.inr rfl) (pe_methD (pv 1) D_m_set_limit (hr.mono (by decide)) passN0 (pa_cons (pv 3) pa_nil)))
      (pss_cons (ps_if (PW.pt (pw_or (pt_cmpR op_notN (pv 6) pe_non (nomark _)) (pw_or1 (pt_not (pt_val (pe_callGD D_law_fresh (hr.mono (by decide)) hgu pass0 (pa_cons (pv 1) (pa_cons (pv 2) (pa_cons (pv 3) pa_nil))))))))) (pss_one (ps_ret pe_bl)) pss_nil)
      (pss_cons (ps_for passB rfl (pi_list (pe_lst (pa_cons (pv 5) (pa_cons pe_non pa_nil)))) (pg_name (i := 7) nd rfl (by first | exact Or.inl rfl | exact Or.inr rfl)) (pss_cons (ps_set (i := 8) nd rfl (by first | exact Or.inl rfl | exact Or.inr rfl) (pe_lst (pa_cons pe_str (pa_cons (pe_callB (LR.call_repr (LR.sysB_ok T.e_sys) hgu (u60 hr)) (by rfl) T.n_repr (by decide +kernel) (pa_cons (pe_lst (pa_cons (pv 7) pa_nil)) pa_nil)) pa_nil))))
      (pss_cons (ps_if (pt_cmpR (op_neD hr.units) (pe_told T LFX (LamX.lamS_by (show LamX.lamSB (defScope s_law_limits_right) _ = true by decide +kernel)) rfl (fun _ _ _ _ _ => rfl) (fun A outer s H E f c hr4 => (pe_methD (pv 1) D_m_set_limit (hr4.mono (by decide)) (passN takesL) (pa_cons (pv 7) pa_nil)))) (pv 8) (nomark _)) (pss_one (ps_ret pe_bl)) pss_nil)
      (pss_cons (ps_if (pt_cmpR (op_neD hr.units) (pe_told T LFX (LamX.lamS_by (show LamX.lamSB (defScope s_law_limits_right) _ = true by decide +kernel)) rfl (fun _ _ _ _ _ => rfl) (fun A outer s H E f c hr4 => (pe_methKD (pv 1) D_m_set_limit_K (hr4.mono (by decide)) (passN takesL) (pk_cons (pv 7) pk_nil)))) (pv 8) (nomark _)) (pss_one (ps_ret pe_bl)) pss_nil)
      (pss_one (ps_if (pt_not (pt_val (pe_callGD D_law_fresh (hr.mono (by decide)) hgu pass0 (pa_cons (pv 1) (pa_cons (pv 2) (pa_cons (pv 3) pa_nil)))))) (pss_one (ps_ret pe_bl)) pss_nil))))))
      (pss_cons (ps_set (i := 6) nd rfl (by first | exact Or.inl rfl | exact Or.inr rfl) (pe_methKD (pv 1) D_m_set_limit_K (hr.mono (by decide)) passN0 (pk_cons (pv 4) pk_nil)))
      (pss_cons (ps_if (PW.pt (pw_or (pt_cmpR op_notN (pv 6) pe_non (nomark _)) (pw_or1 (pt_not (pt_val (pe_callGD D_law_fresh (hr.mono (by decide)) hgu pass0 (pa_cons (pv 1) (pa_cons (pv 2) (pa_cons (pv 4) pa_nil))))))))) (pss_one (ps_ret pe_bl)) pss_nil)
      (pss_one (ps_ret (pe_and (pe_cmpR op_isN (pe_methD (pv 1) D_m_set_limit (hr.mono (by decide)) passN0 (pa_cons pe_int pa_nil)) pe_non (nomark _)) (pe_one (pe_callGD D_law_fresh (hr.mono (by decide)) hgu pass0 (pa_cons (pv 1) (pa_cons (pv 2) (pa_cons pe_int pa_nil))))))))))))))), ?_⟩
    obtain ⟨p, m, r, b, rfl, pu, M, tb, r0, r1, q⟩ := h
    refine sq_st [some (.ref p), some (.ref m), some (.int r), none, none, none, none, none, none] rfl ?_
    repeat (with_reducible (first | refine RD.seq ?_ | refine RD.asg ?_ | refine RD.ret ?_ | refine RD.retN ?_ | refine RD.next ?_ | refine RD.drop ?_ | refine RD.ifS ?_ | refine RD.con ?_ | refine RD.nil ?_ | refine RD.cons ?_ | refine RD.op ?_ | refine RD.un ?_ | refine RD.i0 ?_ | refine RD.iU ?_ | refine RD.test ?_ | refine RD.testE ?_ | refine RD.tb_ ?_ | refine RD.not_ ?_ | refine RD.and_ ?_ | refine RD.or_ ?_ | refine RD.if_ ?_ | refine RD.andV ?_ | refine RD.orV ?_ | refine RD.notV ?_ | refine RD.andE ?_ | refine RD.orE ?_ | refine RD.notE ?_ | refine RD.lst ?_ | refine RD.tup ?_ | refine RD.cb ?_ | refine RD.call ?_ | refine RD.callS ?_ | refine RD.make ?_ | refine RD.makeK ?_ | refine RD.meth ?_ | refine RD.methK ?_ | refine RD.prop ?_ | refine RD.fld ?_ | refine RD.bm ?_ | refine RD.par ?_ | refine RD.forL ?_ | refine RD.v0 ?_ | refine RD.v1 ?_ | refine RD.v2 ?_ | refine RD.v3 ?_ | refine RD.v4 ?_ | refine RD.v5 ?_ | refine RD.v6 ?_ | refine RD.v7 ?_ | refine RD.v8 ?_ | refine RD.v9 ?_ | refine RD.v10 ?_ | refine RD.v11 ?_ | refine RD.g0 ?_ | refine RD.g1 ?_ | refine RD.g2 ?_ | refine RD.g3 ?_ | refine RD.g4 ?_ | refine RD.g5 ?_ | refine RD.g6 ?_ | refine RD.g7 ?_ | refine RD.g8 ?_ | refine RD.g9 ?_ | refine RD.g10 ?_ | refine RD.g11 ?_ | refine And.intro (Eq.refl V.non) ?_))
    refine ⟨p, rfl, pu, fun H1 v1 a0 a1 sx1 pu1 => ?_⟩
    repeat (with_reducible (first | refine RD.seq ?_ | refine RD.asg ?_ | refine RD.ret ?_ | refine RD.retN ?_ | refine RD.next ?_ | refine RD.drop ?_ | refine RD.ifS ?_ | refine RD.con ?_ | refine RD.nil ?_ | refine RD.cons ?_ | refine RD.op ?_ | refine RD.un ?_ | refine RD.i0 ?_ | refine RD.iU ?_ | refine RD.test ?_ | refine RD.testE ?_ | refine RD.tb_ ?_ | refine RD.not_ ?_ | refine RD.and_ ?_ | refine RD.or_ ?_ | refine RD.if_ ?_ | refine RD.andV ?_ | refine RD.orV ?_ | refine RD.notV ?_ | refine RD.andE ?_ | refine RD.orE ?_ | refine RD.notE ?_ | refine RD.lst ?_ | refine RD.tup ?_ | refine RD.cb ?_ | refine RD.call ?_ | refine RD.callS ?_ | refine RD.make ?_ | refine RD.makeK ?_ | refine RD.meth ?_ | refine RD.methK ?_ | refine RD.prop ?_ | refine RD.fld ?_ | refine RD.bm ?_ | refine RD.par ?_ | refine RD.forL ?_ | refine RD.v0 ?_ | refine RD.v1 ?_ | refine RD.v2 ?_ | refine RD.v3 ?_ | refine RD.v4 ?_ | refine RD.v5 ?_ | refine RD.v6 ?_ | refine RD.v7 ?_ | refine RD.v8 ?_ | refine RD.v9 ?_ | refine RD.v10 ?_ | refine RD.v11 ?_ | refine RD.g0 ?_ | refine RD.g1 ?_ | refine RD.g2 ?_ | refine RD.g3 ?_ | refine RD.g4 ?_ | refine RD.g5 ?_ | refine RD.g6 ?_ | refine RD.g7 ?_ | refine RD.g8 ?_ | refine RD.g9 ?_ | refine RD.g10 ?_ | refine RD.g11 ?_ | refine And.intro (Eq.refl V.non) ?_))
    refine ⟨p, rfl, pu1, fun H2 v2 c0 c1 sx2 pu2 => ?_⟩
    repeat (with_reducible (first | refine RD.seq ?_ | refine RD.asg ?_ | refine RD.ret ?_ | refine RD.retN ?_ | refine RD.next ?_ | refine RD.drop ?_ | refine RD.ifS ?_ | refine RD.con ?_ | refine RD.nil ?_ | refine RD.cons ?_ | refine RD.op ?_ | refine RD.un ?_ | refine RD.i0 ?_ | refine RD.iU ?_ | refine RD.test ?_ | refine RD.testE ?_ | refine RD.tb_ ?_ | refine RD.not_ ?_ | refine RD.and_ ?_ | refine RD.or_ ?_ | refine RD.if_ ?_ | refine RD.andV ?_ | refine RD.orV ?_ | refine RD.notV ?_ | refine RD.andE ?_ | refine RD.orE ?_ | refine RD.notE ?_ | refine RD.lst ?_ | refine RD.tup ?_ | refine RD.cb ?_ | refine RD.call ?_ | refine RD.callS ?_ | refine RD.make ?_ | refine RD.makeK ?_ | refine RD.meth ?_ | refine RD.methK ?_ | refine RD.prop ?_ | refine RD.fld ?_ | refine RD.bm ?_ | refine RD.par ?_ | refine RD.forL ?_ | refine RD.v0 ?_ | refine RD.v1 ?_ | refine RD.v2 ?_ | refine RD.v3 ?_ | refine RD.v4 ?_ | refine RD.v5 ?_ | refine RD.v6 ?_ | refine RD.v7 ?_ | refine RD.v8 ?_ | refine RD.v9 ?_ | refine RD.v10 ?_ | refine RD.v11 ?_ | refine RD.g0 ?_ | refine RD.g1 ?_ | refine RD.g2 ?_ | refine RD.g3 ?_ | refine RD.g4 ?_ | refine RD.g5 ?_ | refine RD.g6 ?_ | refine RD.g7 ?_ | refine RD.g8 ?_ | refine RD.g9 ?_ | refine RD.g10 ?_ | refine RD.g11 ?_ | refine And.intro (Eq.refl V.non) ?_))
    refine RD.parE [some (.ref p), some (.ref m), some (.int r), some (.int v1), some (.int v2), none, none, none, none] rfl ?_
    repeat (with_reducible (first | refine RD.seq ?_ | refine RD.asg ?_ | refine RD.ret ?_ | refine RD.retN ?_ | refine RD.next ?_ | refine RD.drop ?_ | refine RD.ifS ?_ | refine RD.con ?_ | refine RD.nil ?_ | refine RD.cons ?_ | refine RD.op ?_ | refine RD.un ?_ | refine RD.i0 ?_ | refine RD.iU ?_ | refine RD.test ?_ | refine RD.testE ?_ | refine RD.tb_ ?_ | refine RD.not_ ?_ | refine RD.and_ ?_ | refine RD.or_ ?_ | refine RD.if_ ?_ | refine RD.andV ?_ | refine RD.orV ?_ | refine RD.notV ?_ | refine RD.andE ?_ | refine RD.orE ?_ | refine RD.notE ?_ | refine RD.lst ?_ | refine RD.tup ?_ | refine RD.cb ?_ | refine RD.call ?_ | refine RD.callS ?_ | refine RD.make ?_ | refine RD.makeK ?_ | refine RD.meth ?_ | refine RD.methK ?_ | refine RD.prop ?_ | refine RD.fld ?_ | refine RD.bm ?_ | refine RD.par ?_ | refine RD.forL ?_ | refine RD.v0 ?_ | refine RD.v1 ?_ | refine RD.v2 ?_ | refine RD.v3 ?_ | refine RD.v4 ?_ | refine RD.v5 ?_ | refine RD.v6 ?_ | refine RD.v7 ?_ | refine RD.v8 ?_ | refine RD.v9 ?_ | refine RD.v10 ?_ | refine RD.v11 ?_ | refine RD.g0 ?_ | refine RD.g1 ?_ | refine RD.g2 ?_ | refine RD.g3 ?_ | refine RD.g4 ?_ | refine RD.g5 ?_ | refine RD.g6 ?_ | refine RD.g7 ?_ | refine RD.g8 ?_ | refine RD.g9 ?_ | refine RD.g10 ?_ | refine RD.g11 ?_ | refine And.intro (Eq.refl V.non) ?_))
    refine ⟨p, rfl, pu2, fun H3 x d S nx sm sx3 pu3 => ?_⟩
    repeat (with_reducible (first | refine RD.seq ?_ | refine RD.asg ?_ | refine RD.ret ?_ | refine RD.retN ?_ | refine RD.next ?_ | refine RD.drop ?_ | refine RD.ifS ?_ | refine RD.con ?_ | refine RD.nil ?_ | refine RD.cons ?_ | refine RD.op ?_ | refine RD.un ?_ | refine RD.i0 ?_ | refine RD.iU ?_ | refine RD.test ?_ | refine RD.testE ?_ | refine RD.tb_ ?_ | refine RD.not_ ?_ | refine RD.and_ ?_ | refine RD.or_ ?_ | refine RD.if_ ?_ | refine RD.andV ?_ | refine RD.orV ?_ | refine RD.notV ?_ | refine RD.andE ?_ | refine RD.orE ?_ | refine RD.notE ?_ | refine RD.lst ?_ | refine RD.tup ?_ | refine RD.cb ?_ | refine RD.call ?_ | refine RD.callS ?_ | refine RD.make ?_ | refine RD.makeK ?_ | refine RD.meth ?_ | refine RD.methK ?_ | refine RD.prop ?_ | refine RD.fld ?_ | refine RD.bm ?_ | refine RD.par ?_ | refine RD.forL ?_ | refine RD.v0 ?_ | refine RD.v1 ?_ | refine RD.v2 ?_ | refine RD.v3 ?_ | refine RD.v4 ?_ | refine RD.v5 ?_ | refine RD.v6 ?_ | refine RD.v7 ?_ | refine RD.v8 ?_ | refine RD.v9 ?_ | refine RD.v10 ?_ | refine RD.v11 ?_ | refine RD.g0 ?_ | refine RD.g1 ?_ | refine RD.g2 ?_ | refine RD.g3 ?_ | refine RD.g4 ?_ | refine RD.g5 ?_ | refine RD.g6 ?_ | refine RD.g7 ?_ | refine RD.g8 ?_ | refine RD.g9 ?_ | refine RD.g10 ?_ | refine RD.g11 ?_ | refine And.intro (Eq.refl V.non) ?_))
    have M2 := mo_pu pu1 sx2 (mo_pu pu sx1 M)
    have M3 := mo_pu pu2 sx3 M2
    have T3 : LamX.Tabs (TL K) H3 := tabs_x pu2 (tabs_x pu1 (tabs_x pu tb sx1) sx2) sx3
    have x03 : ExtP p H H3 := sx1.ep.tr (sx2.ep.tr sx3.ep)
    have hS : ∀ {H'}, ExtP m H3 H' → NotNum K H' x ∧ LR.Dr K H' x d := fun e => by
      obtain ⟨dx, wa, em⟩ := M2.at
      exact st_at S em e
    obtain ⟨dx3, wa3, em3⟩ := M3.at
    refine RD.methE em3 rfl ?_
    repeat (with_reducible (first | refine RD.seq ?_ | refine RD.asg ?_ | refine RD.ret ?_ | refine RD.retN ?_ | refine RD.next ?_ | refine RD.drop ?_ | refine RD.ifS ?_ | refine RD.con ?_ | refine RD.nil ?_ | refine RD.cons ?_ | refine RD.op ?_ | refine RD.un ?_ | refine RD.i0 ?_ | refine RD.iU ?_ | refine RD.test ?_ | refine RD.testE ?_ | refine RD.tb_ ?_ | refine RD.not_ ?_ | refine RD.and_ ?_ | refine RD.or_ ?_ | refine RD.if_ ?_ | refine RD.andV ?_ | refine RD.orV ?_ | refine RD.notV ?_ | refine RD.andE ?_ | refine RD.orE ?_ | refine RD.notE ?_ | refine RD.lst ?_ | refine RD.tup ?_ | refine RD.cb ?_ | refine RD.call ?_ | refine RD.callS ?_ | refine RD.make ?_ | refine RD.makeK ?_ | refine RD.meth ?_ | refine RD.methK ?_ | refine RD.prop ?_ | refine RD.fld ?_ | refine RD.bm ?_ | refine RD.par ?_ | refine RD.forL ?_ | refine RD.v0 ?_ | refine RD.v1 ?_ | refine RD.v2 ?_ | refine RD.v3 ?_ | refine RD.v4 ?_ | refine RD.v5 ?_ | refine RD.v6 ?_ | refine RD.v7 ?_ | refine RD.v8 ?_ | refine RD.v9 ?_ | refine RD.v10 ?_ | refine RD.v11 ?_ | refine RD.g0 ?_ | refine RD.g1 ?_ | refine RD.g2 ?_ | refine RD.g3 ?_ | refine RD.g4 ?_ | refine RD.g5 ?_ | refine RD.g6 ?_ | refine RD.g7 ?_ | refine RD.g8 ?_ | refine RD.g9 ?_ | refine RD.g10 ?_ | refine RD.g11 ?_ | refine And.intro (Eq.refl V.non) ?_))
    refine ⟨m, .int v1, r, b, rfl, M3, .inr ⟨v1, rfl, a0, fun H4 sx4 M4 => ?_⟩⟩
    repeat (with_reducible (first | refine RD.seq ?_ | refine RD.asg ?_ | refine RD.ret ?_ | refine RD.retN ?_ | refine RD.next ?_ | refine RD.drop ?_ | refine RD.ifS ?_ | refine RD.con ?_ | refine RD.nil ?_ | refine RD.cons ?_ | refine RD.op ?_ | refine RD.un ?_ | refine RD.i0 ?_ | refine RD.iU ?_ | refine RD.test ?_ | refine RD.testE ?_ | refine RD.tb_ ?_ | refine RD.not_ ?_ | refine RD.and_ ?_ | refine RD.or_ ?_ | refine RD.if_ ?_ | refine RD.andV ?_ | refine RD.orV ?_ | refine RD.notV ?_ | refine RD.andE ?_ | refine RD.orE ?_ | refine RD.notE ?_ | refine RD.lst ?_ | refine RD.tup ?_ | refine RD.cb ?_ | refine RD.call ?_ | refine RD.callS ?_ | refine RD.make ?_ | refine RD.makeK ?_ | refine RD.meth ?_ | refine RD.methK ?_ | refine RD.prop ?_ | refine RD.fld ?_ | refine RD.bm ?_ | refine RD.par ?_ | refine RD.forL ?_ | refine RD.v0 ?_ | refine RD.v1 ?_ | refine RD.v2 ?_ | refine RD.v3 ?_ | refine RD.v4 ?_ | refine RD.v5 ?_ | refine RD.v6 ?_ | refine RD.v7 ?_ | refine RD.v8 ?_ | refine RD.v9 ?_ | refine RD.v10 ?_ | refine RD.v11 ?_ | refine RD.g0 ?_ | refine RD.g1 ?_ | refine RD.g2 ?_ | refine RD.g3 ?_ | refine RD.g4 ?_ | refine RD.g5 ?_ | refine RD.g6 ?_ | refine RD.g7 ?_ | refine RD.g8 ?_ | refine RD.g9 ?_ | refine RD.g10 ?_ | refine RD.g11 ?_ | refine And.intro (Eq.refl V.non) ?_))
    refine ite_f rfl ?_
    repeat (with_reducible (first | refine RD.seq ?_ | refine RD.asg ?_ | refine RD.ret ?_ | refine RD.retN ?_ | refine RD.next ?_ | refine RD.drop ?_ | refine RD.ifS ?_ | refine RD.con ?_ | refine RD.nil ?_ | refine RD.cons ?_ | refine RD.op ?_ | refine RD.un ?_ | refine RD.i0 ?_ | refine RD.iU ?_ | refine RD.test ?_ | refine RD.testE ?_ | refine RD.tb_ ?_ | refine RD.not_ ?_ | refine RD.and_ ?_ | refine RD.or_ ?_ | refine RD.if_ ?_ | refine RD.andV ?_ | refine RD.orV ?_ | refine RD.notV ?_ | refine RD.andE ?_ | refine RD.orE ?_ | refine RD.notE ?_ | refine RD.lst ?_ | refine RD.tup ?_ | refine RD.cb ?_ | refine RD.call ?_ | refine RD.callS ?_ | refine RD.make ?_ | refine RD.makeK ?_ | refine RD.meth ?_ | refine RD.methK ?_ | refine RD.prop ?_ | refine RD.fld ?_ | refine RD.bm ?_ | refine RD.par ?_ | refine RD.forL ?_ | refine RD.v0 ?_ | refine RD.v1 ?_ | refine RD.v2 ?_ | refine RD.v3 ?_ | refine RD.v4 ?_ | refine RD.v5 ?_ | refine RD.v6 ?_ | refine RD.v7 ?_ | refine RD.v8 ?_ | refine RD.v9 ?_ | refine RD.v10 ?_ | refine RD.v11 ?_ | refine RD.g0 ?_ | refine RD.g1 ?_ | refine RD.g2 ?_ | refine RD.g3 ?_ | refine RD.g4 ?_ | refine RD.g5 ?_ | refine RD.g6 ?_ | refine RD.g7 ?_ | refine RD.g8 ?_ | refine RD.g9 ?_ | refine RD.g10 ?_ | refine RD.g11 ?_ | refine And.intro (Eq.refl V.non) ?_))
    refine ⟨_, _, _, rfl, M4, r0, r1, a0, a1, fun H5 s5 => ?_⟩
    repeat (with_reducible (first | refine RD.seq ?_ | refine RD.asg ?_ | refine RD.ret ?_ | refine RD.retN ?_ | refine RD.next ?_ | refine RD.drop ?_ | refine RD.ifS ?_ | refine RD.con ?_ | refine RD.nil ?_ | refine RD.cons ?_ | refine RD.op ?_ | refine RD.un ?_ | refine RD.i0 ?_ | refine RD.iU ?_ | refine RD.test ?_ | refine RD.testE ?_ | refine RD.tb_ ?_ | refine RD.not_ ?_ | refine RD.and_ ?_ | refine RD.or_ ?_ | refine RD.if_ ?_ | refine RD.andV ?_ | refine RD.orV ?_ | refine RD.notV ?_ | refine RD.andE ?_ | refine RD.orE ?_ | refine RD.notE ?_ | refine RD.lst ?_ | refine RD.tup ?_ | refine RD.cb ?_ | refine RD.call ?_ | refine RD.callS ?_ | refine RD.make ?_ | refine RD.makeK ?_ | refine RD.meth ?_ | refine RD.methK ?_ | refine RD.prop ?_ | refine RD.fld ?_ | refine RD.bm ?_ | refine RD.par ?_ | refine RD.forL ?_ | refine RD.v0 ?_ | refine RD.v1 ?_ | refine RD.v2 ?_ | refine RD.v3 ?_ | refine RD.v4 ?_ | refine RD.v5 ?_ | refine RD.v6 ?_ | refine RD.v7 ?_ | refine RD.v8 ?_ | refine RD.v9 ?_ | refine RD.v10 ?_ | refine RD.v11 ?_ | refine RD.g0 ?_ | refine RD.g1 ?_ | refine RD.g2 ?_ | refine RD.g3 ?_ | refine RD.g4 ?_ | refine RD.g5 ?_ | refine RD.g6 ?_ | refine RD.g7 ?_ | refine RD.g8 ?_ | refine RD.g9 ?_ | refine RD.g10 ?_ | refine RD.g11 ?_ | refine And.intro (Eq.refl V.non) ?_))
    refine ite_f rfl ?_
    repeat (with_reducible (first | refine RD.seq ?_ | refine RD.asg ?_ | refine RD.ret ?_ | refine RD.retN ?_ | refine RD.next ?_ | refine RD.drop ?_ | refine RD.ifS ?_ | refine RD.con ?_ | refine RD.nil ?_ | refine RD.cons ?_ | refine RD.op ?_ | refine RD.un ?_ | refine RD.i0 ?_ | refine RD.iU ?_ | refine RD.test ?_ | refine RD.testE ?_ | refine RD.tb_ ?_ | refine RD.not_ ?_ | refine RD.and_ ?_ | refine RD.or_ ?_ | refine RD.if_ ?_ | refine RD.andV ?_ | refine RD.orV ?_ | refine RD.notV ?_ | refine RD.andE ?_ | refine RD.orE ?_ | refine RD.notE ?_ | refine RD.lst ?_ | refine RD.tup ?_ | refine RD.cb ?_ | refine RD.call ?_ | refine RD.callS ?_ | refine RD.make ?_ | refine RD.makeK ?_ | refine RD.meth ?_ | refine RD.methK ?_ | refine RD.prop ?_ | refine RD.fld ?_ | refine RD.bm ?_ | refine RD.par ?_ | refine RD.forL ?_ | refine RD.v0 ?_ | refine RD.v1 ?_ | refine RD.v2 ?_ | refine RD.v3 ?_ | refine RD.v4 ?_ | refine RD.v5 ?_ | refine RD.v6 ?_ | refine RD.v7 ?_ | refine RD.v8 ?_ | refine RD.v9 ?_ | refine RD.v10 ?_ | refine RD.v11 ?_ | refine RD.g0 ?_ | refine RD.g1 ?_ | refine RD.g2 ?_ | refine RD.g3 ?_ | refine RD.g4 ?_ | refine RD.g5 ?_ | refine RD.g6 ?_ | refine RD.g7 ?_ | refine RD.g8 ?_ | refine RD.g9 ?_ | refine RD.g10 ?_ | refine RD.g11 ?_ | refine And.intro (Eq.refl V.non) ?_))
    refine RD.lstE (Nat.le_of_ble_eq_true rfl) fun H6 l6 s6 n6 e6 => ?_
    have s46 := s5.tr s6
    have M6 := M4.same s46
    have T6 := tabs_s (tabs_m M3 T3 sx4) s46
    have x36 : ExtP m H3 H6 := sx4.ep.tr s46.ep
    have pu6 := (pu_mo M3 sx4 pu3).sam s46
    refine RD.forE (xs := [x, .non]) (SqL.of e6) (fun i σ H' => ∃ a7 a8, σ = [some (.ref p), some (.ref m), some (.int r), some (.int v1), some (.int v2), some x, some .non, a7, a8] ∧ LamX.ExtN H6 H' ∧ LamX.Tabs (TL K) H') ⟨_, _, rfl, .refl _, T6⟩ ?_ ?_ ?_
    · rintro i σ H' _ ⟨a7, a8, _, en, _⟩
      exact SqL.of (en _ _ e6 (fun _ z => by cases z))
    · rintro i y σ H' hy ⟨a7, a8, rfl, en, Tn⟩
      have hb : ∃ D, Sml D ∧ ∀ {Hx}, LamX.ExtN H6 Hx → NotNum K Hx y ∧ LR.Dr K Hx y D := by
        have hy := List.mem_of_getElem? hy
        simp only [List.mem_cons, List.not_mem_nil, or_false] at hy
        rcases hy with rfl | rfl
        · exact ⟨d, sm, fun e => hS (x36.tr (ExtP.en e))⟩
        · exact ⟨.none, ⟨by decide +kernel, by decide +kernel, by decide +kernel, by decide +kernel⟩, fun _ => ⟨.inr (.inr (.inl (.base .non))), .non⟩⟩
      obtain ⟨D, smD, hD⟩ := hb
      repeat (with_reducible (first | refine RD.seq ?_ | refine RD.asg ?_ | refine RD.ret ?_ | refine RD.retN ?_ | refine RD.next ?_ | refine RD.drop ?_ | refine RD.ifS ?_ | refine RD.con ?_ | refine RD.nil ?_ | refine RD.cons ?_ | refine RD.op ?_ | refine RD.un ?_ | refine RD.i0 ?_ | refine RD.iU ?_ | refine RD.test ?_ | refine RD.testE ?_ | refine RD.tb_ ?_ | refine RD.not_ ?_ | refine RD.and_ ?_ | refine RD.or_ ?_ | refine RD.if_ ?_ | refine RD.andV ?_ | refine RD.orV ?_ | refine RD.notV ?_ | refine RD.andE ?_ | refine RD.orE ?_ | refine RD.notE ?_ | refine RD.lst ?_ | refine RD.tup ?_ | refine RD.cb ?_ | refine RD.call ?_ | refine RD.callS ?_ | refine RD.make ?_ | refine RD.makeK ?_ | refine RD.meth ?_ | refine RD.methK ?_ | refine RD.prop ?_ | refine RD.fld ?_ | refine RD.bm ?_ | refine RD.par ?_ | refine RD.forL ?_ | refine RD.v0 ?_ | refine RD.v1 ?_ | refine RD.v2 ?_ | refine RD.v3 ?_ | refine RD.v4 ?_ | refine RD.v5 ?_ | refine RD.v6 ?_ | refine RD.v7 ?_ | refine RD.v8 ?_ | refine RD.v9 ?_ | refine RD.v10 ?_ | refine RD.v11 ?_ | refine RD.g0 ?_ | refine RD.g1 ?_ | refine RD.g2 ?_ | refine RD.g3 ?_ | refine RD.g4 ?_ | refine RD.g5 ?_ | refine RD.g6 ?_ | refine RD.g7 ?_ | refine RD.g8 ?_ | refine RD.g9 ?_ | refine RD.g10 ?_ | refine RD.g11 ?_ | refine And.intro (Eq.refl V.non) ?_))
      refine RD.lstE (Nat.le_of_ble_eq_true rfl) fun G1 l1 s1 n1 e1 => ?_
      repeat (with_reducible (first | refine RD.seq ?_ | refine RD.asg ?_ | refine RD.ret ?_ | refine RD.retN ?_ | refine RD.next ?_ | refine RD.drop ?_ | refine RD.ifS ?_ | refine RD.con ?_ | refine RD.nil ?_ | refine RD.cons ?_ | refine RD.op ?_ | refine RD.un ?_ | refine RD.i0 ?_ | refine RD.iU ?_ | refine RD.test ?_ | refine RD.testE ?_ | refine RD.tb_ ?_ | refine RD.not_ ?_ | refine RD.and_ ?_ | refine RD.or_ ?_ | refine RD.if_ ?_ | refine RD.andV ?_ | refine RD.orV ?_ | refine RD.notV ?_ | refine RD.andE ?_ | refine RD.orE ?_ | refine RD.notE ?_ | refine RD.lst ?_ | refine RD.tup ?_ | refine RD.cb ?_ | refine RD.call ?_ | refine RD.callS ?_ | refine RD.make ?_ | refine RD.makeK ?_ | refine RD.meth ?_ | refine RD.methK ?_ | refine RD.prop ?_ | refine RD.fld ?_ | refine RD.bm ?_ | refine RD.par ?_ | refine RD.forL ?_ | refine RD.v0 ?_ | refine RD.v1 ?_ | refine RD.v2 ?_ | refine RD.v3 ?_ | refine RD.v4 ?_ | refine RD.v5 ?_ | refine RD.v6 ?_ | refine RD.v7 ?_ | refine RD.v8 ?_ | refine RD.v9 ?_ | refine RD.v10 ?_ | refine RD.v11 ?_ | refine RD.g0 ?_ | refine RD.g1 ?_ | refine RD.g2 ?_ | refine RD.g3 ?_ | refine RD.g4 ?_ | refine RD.g5 ?_ | refine RD.g6 ?_ | refine RD.g7 ?_ | refine RD.g8 ?_ | refine RD.g9 ?_ | refine RD.g10 ?_ | refine RD.g11 ?_ | refine And.intro (Eq.refl V.non) ?_))
      have g1 := en.trans (sam_en s1)
      refine repr1 e1 (hD g1).2 smD ?_
      repeat (with_reducible (first | refine RD.seq ?_ | refine RD.asg ?_ | refine RD.ret ?_ | refine RD.retN ?_ | refine RD.next ?_ | refine RD.drop ?_ | refine RD.ifS ?_ | refine RD.con ?_ | refine RD.nil ?_ | refine RD.cons ?_ | refine RD.op ?_ | refine RD.un ?_ | refine RD.i0 ?_ | refine RD.iU ?_ | refine RD.test ?_ | refine RD.testE ?_ | refine RD.tb_ ?_ | refine RD.not_ ?_ | refine RD.and_ ?_ | refine RD.or_ ?_ | refine RD.if_ ?_ | refine RD.andV ?_ | refine RD.orV ?_ | refine RD.notV ?_ | refine RD.andE ?_ | refine RD.orE ?_ | refine RD.notE ?_ | refine RD.lst ?_ | refine RD.tup ?_ | refine RD.cb ?_ | refine RD.call ?_ | refine RD.callS ?_ | refine RD.make ?_ | refine RD.makeK ?_ | refine RD.meth ?_ | refine RD.methK ?_ | refine RD.prop ?_ | refine RD.fld ?_ | refine RD.bm ?_ | refine RD.par ?_ | refine RD.forL ?_ | refine RD.v0 ?_ | refine RD.v1 ?_ | refine RD.v2 ?_ | refine RD.v3 ?_ | refine RD.v4 ?_ | refine RD.v5 ?_ | refine RD.v6 ?_ | refine RD.v7 ?_ | refine RD.v8 ?_ | refine RD.v9 ?_ | refine RD.v10 ?_ | refine RD.v11 ?_ | refine RD.g0 ?_ | refine RD.g1 ?_ | refine RD.g2 ?_ | refine RD.g3 ?_ | refine RD.g4 ?_ | refine RD.g5 ?_ | refine RD.g6 ?_ | refine RD.g7 ?_ | refine RD.g8 ?_ | refine RD.g9 ?_ | refine RD.g10 ?_ | refine RD.g11 ?_ | refine And.intro (Eq.refl V.non) ?_))
      refine RD.lstE (Nat.le_of_ble_eq_true rfl) fun G2 l2 s2 n2 e2 => ?_
      repeat (with_reducible (first | refine RD.seq ?_ | refine RD.asg ?_ | refine RD.ret ?_ | refine RD.retN ?_ | refine RD.next ?_ | refine RD.drop ?_ | refine RD.ifS ?_ | refine RD.con ?_ | refine RD.nil ?_ | refine RD.cons ?_ | refine RD.op ?_ | refine RD.un ?_ | refine RD.i0 ?_ | refine RD.iU ?_ | refine RD.test ?_ | refine RD.testE ?_ | refine RD.tb_ ?_ | refine RD.not_ ?_ | refine RD.and_ ?_ | refine RD.or_ ?_ | refine RD.if_ ?_ | refine RD.andV ?_ | refine RD.orV ?_ | refine RD.notV ?_ | refine RD.andE ?_ | refine RD.orE ?_ | refine RD.notE ?_ | refine RD.lst ?_ | refine RD.tup ?_ | refine RD.cb ?_ | refine RD.call ?_ | refine RD.callS ?_ | refine RD.make ?_ | refine RD.makeK ?_ | refine RD.meth ?_ | refine RD.methK ?_ | refine RD.prop ?_ | refine RD.fld ?_ | refine RD.bm ?_ | refine RD.par ?_ | refine RD.forL ?_ | refine RD.v0 ?_ | refine RD.v1 ?_ | refine RD.v2 ?_ | refine RD.v3 ?_ | refine RD.v4 ?_ | refine RD.v5 ?_ | refine RD.v6 ?_ | refine RD.v7 ?_ | refine RD.v8 ?_ | refine RD.v9 ?_ | refine RD.v10 ?_ | refine RD.v11 ?_ | refine RD.g0 ?_ | refine RD.g1 ?_ | refine RD.g2 ?_ | refine RD.g3 ?_ | refine RD.g4 ?_ | refine RD.g5 ?_ | refine RD.g6 ?_ | refine RD.g7 ?_ | refine RD.g8 ?_ | refine RD.g9 ?_ | refine RD.g10 ?_ | refine RD.g11 ?_ | refine And.intro (Eq.refl V.non) ?_))
      have g2 := g1.trans (sam_en s2)
      refine told_ (tabs_s Tn (s1.tr s2)) fun G3 E3 Q3 n3 T3' hE3 => ?_
      repeat (with_reducible (first | refine RD.seq ?_ | refine RD.asg ?_ | refine RD.ret ?_ | refine RD.retN ?_ | refine RD.next ?_ | refine RD.drop ?_ | refine RD.ifS ?_ | refine RD.con ?_ | refine RD.nil ?_ | refine RD.cons ?_ | refine RD.op ?_ | refine RD.un ?_ | refine RD.i0 ?_ | refine RD.iU ?_ | refine RD.test ?_ | refine RD.testE ?_ | refine RD.tb_ ?_ | refine RD.not_ ?_ | refine RD.and_ ?_ | refine RD.or_ ?_ | refine RD.if_ ?_ | refine RD.andV ?_ | refine RD.orV ?_ | refine RD.notV ?_ | refine RD.andE ?_ | refine RD.orE ?_ | refine RD.notE ?_ | refine RD.lst ?_ | refine RD.tup ?_ | refine RD.cb ?_ | refine RD.call ?_ | refine RD.callS ?_ | refine RD.make ?_ | refine RD.makeK ?_ | refine RD.meth ?_ | refine RD.methK ?_ | refine RD.prop ?_ | refine RD.fld ?_ | refine RD.bm ?_ | refine RD.par ?_ | refine RD.forL ?_ | refine RD.v0 ?_ | refine RD.v1 ?_ | refine RD.v2 ?_ | refine RD.v3 ?_ | refine RD.v4 ?_ | refine RD.v5 ?_ | refine RD.v6 ?_ | refine RD.v7 ?_ | refine RD.v8 ?_ | refine RD.v9 ?_ | refine RD.v10 ?_ | refine RD.v11 ?_ | refine RD.g0 ?_ | refine RD.g1 ?_ | refine RD.g2 ?_ | refine RD.g3 ?_ | refine RD.g4 ?_ | refine RD.g5 ?_ | refine RD.g6 ?_ | refine RD.g7 ?_ | refine RD.g8 ?_ | refine RD.g9 ?_ | refine RD.g10 ?_ | refine RD.g11 ?_ | refine And.intro (Eq.refl V.non) ?_))
      have g3 := g2.trans n3
      obtain ⟨dxa, waa, ema⟩ := (M6.en g3).at
      refine RD.methE ema rfl ?_
      repeat (with_reducible (first | refine RD.seq ?_ | refine RD.asg ?_ | refine RD.ret ?_ | refine RD.retN ?_ | refine RD.next ?_ | refine RD.drop ?_ | refine RD.ifS ?_ | refine RD.con ?_ | refine RD.nil ?_ | refine RD.cons ?_ | refine RD.op ?_ | refine RD.un ?_ | refine RD.i0 ?_ | refine RD.iU ?_ | refine RD.test ?_ | refine RD.testE ?_ | refine RD.tb_ ?_ | refine RD.not_ ?_ | refine RD.and_ ?_ | refine RD.or_ ?_ | refine RD.if_ ?_ | refine RD.andV ?_ | refine RD.orV ?_ | refine RD.notV ?_ | refine RD.andE ?_ | refine RD.orE ?_ | refine RD.notE ?_ | refine RD.lst ?_ | refine RD.tup ?_ | refine RD.cb ?_ | refine RD.call ?_ | refine RD.callS ?_ | refine RD.make ?_ | refine RD.makeK ?_ | refine RD.meth ?_ | refine RD.methK ?_ | refine RD.prop ?_ | refine RD.fld ?_ | refine RD.bm ?_ | refine RD.par ?_ | refine RD.forL ?_ | refine RD.v0 ?_ | refine RD.v1 ?_ | refine RD.v2 ?_ | refine RD.v3 ?_ | refine RD.v4 ?_ | refine RD.v5 ?_ | refine RD.v6 ?_ | refine RD.v7 ?_ | refine RD.v8 ?_ | refine RD.v9 ?_ | refine RD.v10 ?_ | refine RD.v11 ?_ | refine RD.g0 ?_ | refine RD.g1 ?_ | refine RD.g2 ?_ | refine RD.g3 ?_ | refine RD.g4 ?_ | refine RD.g5 ?_ | refine RD.g6 ?_ | refine RD.g7 ?_ | refine RD.g8 ?_ | refine RD.g9 ?_ | refine RD.g10 ?_ | refine RD.g11 ?_ | refine And.intro (Eq.refl V.non) ?_))
      refine set_bad rfl (M6.en g3) (hD g3).1 (hD g3).2 smD hE3 fun G4 l4 s4 e4 => ?_
      repeat (with_reducible (first | refine RD.seq ?_ | refine RD.asg ?_ | refine RD.ret ?_ | refine RD.retN ?_ | refine RD.next ?_ | refine RD.drop ?_ | refine RD.ifS ?_ | refine RD.con ?_ | refine RD.nil ?_ | refine RD.cons ?_ | refine RD.op ?_ | refine RD.un ?_ | refine RD.i0 ?_ | refine RD.iU ?_ | refine RD.test ?_ | refine RD.testE ?_ | refine RD.tb_ ?_ | refine RD.not_ ?_ | refine RD.and_ ?_ | refine RD.or_ ?_ | refine RD.if_ ?_ | refine RD.andV ?_ | refine RD.orV ?_ | refine RD.notV ?_ | refine RD.andE ?_ | refine RD.orE ?_ | refine RD.notE ?_ | refine RD.lst ?_ | refine RD.tup ?_ | refine RD.cb ?_ | refine RD.call ?_ | refine RD.callS ?_ | refine RD.make ?_ | refine RD.makeK ?_ | refine RD.meth ?_ | refine RD.methK ?_ | refine RD.prop ?_ | refine RD.fld ?_ | refine RD.bm ?_ | refine RD.par ?_ | refine RD.forL ?_ | refine RD.v0 ?_ | refine RD.v1 ?_ | refine RD.v2 ?_ | refine RD.v3 ?_ | refine RD.v4 ?_ | refine RD.v5 ?_ | refine RD.v6 ?_ | refine RD.v7 ?_ | refine RD.v8 ?_ | refine RD.v9 ?_ | refine RD.v10 ?_ | refine RD.v11 ?_ | refine RD.g0 ?_ | refine RD.g1 ?_ | refine RD.g2 ?_ | refine RD.g3 ?_ | refine RD.g4 ?_ | refine RD.g5 ?_ | refine RD.g6 ?_ | refine RD.g7 ?_ | refine RD.g8 ?_ | refine RD.g9 ?_ | refine RD.g10 ?_ | refine RD.g11 ?_ | refine And.intro (Eq.refl V.non) ?_))
      have e24 : G4 l2 = some (.lst (told D)) := s4 _ _ (n3 _ _ e2 (fun _ z => by cases z))
      refine RD.neD (dtold e4) (dtold e24) (shp (can1 smD) (by show 1 ≤ 64; decide)) (shp (can1 smD) (by show 1 ≤ 64; decide)) ?_
      repeat (with_reducible (first | refine RD.seq ?_ | refine RD.asg ?_ | refine RD.ret ?_ | refine RD.retN ?_ | refine RD.next ?_ | refine RD.drop ?_ | refine RD.ifS ?_ | refine RD.con ?_ | refine RD.nil ?_ | refine RD.cons ?_ | refine RD.op ?_ | refine RD.un ?_ | refine RD.i0 ?_ | refine RD.iU ?_ | refine RD.test ?_ | refine RD.testE ?_ | refine RD.tb_ ?_ | refine RD.not_ ?_ | refine RD.and_ ?_ | refine RD.or_ ?_ | refine RD.if_ ?_ | refine RD.andV ?_ | refine RD.orV ?_ | refine RD.notV ?_ | refine RD.andE ?_ | refine RD.orE ?_ | refine RD.notE ?_ | refine RD.lst ?_ | refine RD.tup ?_ | refine RD.cb ?_ | refine RD.call ?_ | refine RD.callS ?_ | refine RD.make ?_ | refine RD.makeK ?_ | refine RD.meth ?_ | refine RD.methK ?_ | refine RD.prop ?_ | refine RD.fld ?_ | refine RD.bm ?_ | refine RD.par ?_ | refine RD.forL ?_ | refine RD.v0 ?_ | refine RD.v1 ?_ | refine RD.v2 ?_ | refine RD.v3 ?_ | refine RD.v4 ?_ | refine RD.v5 ?_ | refine RD.v6 ?_ | refine RD.v7 ?_ | refine RD.v8 ?_ | refine RD.v9 ?_ | refine RD.v10 ?_ | refine RD.v11 ?_ | refine RD.g0 ?_ | refine RD.g1 ?_ | refine RD.g2 ?_ | refine RD.g3 ?_ | refine RD.g4 ?_ | refine RD.g5 ?_ | refine RD.g6 ?_ | refine RD.g7 ?_ | refine RD.g8 ?_ | refine RD.g9 ?_ | refine RD.g10 ?_ | refine RD.g11 ?_ | refine And.intro (Eq.refl V.non) ?_))
      refine ite_f (by rw [SeqAt.eqv_refl _ (can1 smD)]; rfl) ?_
      repeat (with_reducible (first | refine RD.seq ?_ | refine RD.asg ?_ | refine RD.ret ?_ | refine RD.retN ?_ | refine RD.next ?_ | refine RD.drop ?_ | refine RD.ifS ?_ | refine RD.con ?_ | refine RD.nil ?_ | refine RD.cons ?_ | refine RD.op ?_ | refine RD.un ?_ | refine RD.i0 ?_ | refine RD.iU ?_ | refine RD.test ?_ | refine RD.testE ?_ | refine RD.tb_ ?_ | refine RD.not_ ?_ | refine RD.and_ ?_ | refine RD.or_ ?_ | refine RD.if_ ?_ | refine RD.andV ?_ | refine RD.orV ?_ | refine RD.notV ?_ | refine RD.andE ?_ | refine RD.orE ?_ | refine RD.notE ?_ | refine RD.lst ?_ | refine RD.tup ?_ | refine RD.cb ?_ | refine RD.call ?_ | refine RD.callS ?_ | refine RD.make ?_ | refine RD.makeK ?_ | refine RD.meth ?_ | refine RD.methK ?_ | refine RD.prop ?_ | refine RD.fld ?_ | refine RD.bm ?_ | refine RD.par ?_ | refine RD.forL ?_ | refine RD.v0 ?_ | refine RD.v1 ?_ | refine RD.v2 ?_ | refine RD.v3 ?_ | refine RD.v4 ?_ | refine RD.v5 ?_ | refine RD.v6 ?_ | refine RD.v7 ?_ | refine RD.v8 ?_ | refine RD.v9 ?_ | refine RD.v10 ?_ | refine RD.v11 ?_ | refine RD.g0 ?_ | refine RD.g1 ?_ | refine RD.g2 ?_ | refine RD.g3 ?_ | refine RD.g4 ?_ | refine RD.g5 ?_ | refine RD.g6 ?_ | refine RD.g7 ?_ | refine RD.g8 ?_ | refine RD.g9 ?_ | refine RD.g10 ?_ | refine RD.g11 ?_ | refine And.intro (Eq.refl V.non) ?_))
      have g4 := g3.trans (sam_en s4)
      refine told_ (tabs_s T3' s4) fun G5 E5 Q5 n5 T5' hE5 => ?_
      repeat (with_reducible (first | refine RD.seq ?_ | refine RD.asg ?_ | refine RD.ret ?_ | refine RD.retN ?_ | refine RD.next ?_ | refine RD.drop ?_ | refine RD.ifS ?_ | refine RD.con ?_ | refine RD.nil ?_ | refine RD.cons ?_ | refine RD.op ?_ | refine RD.un ?_ | refine RD.i0 ?_ | refine RD.iU ?_ | refine RD.test ?_ | refine RD.testE ?_ | refine RD.tb_ ?_ | refine RD.not_ ?_ | refine RD.and_ ?_ | refine RD.or_ ?_ | refine RD.if_ ?_ | refine RD.andV ?_ | refine RD.orV ?_ | refine RD.notV ?_ | refine RD.andE ?_ | refine RD.orE ?_ | refine RD.notE ?_ | refine RD.lst ?_ | refine RD.tup ?_ | refine RD.cb ?_ | refine RD.call ?_ | refine RD.callS ?_ | refine RD.make ?_ | refine RD.makeK ?_ | refine RD.meth ?_ | refine RD.methK ?_ | refine RD.prop ?_ | refine RD.fld ?_ | refine RD.bm ?_ | refine RD.par ?_ | refine RD.forL ?_ | refine RD.v0 ?_ | refine RD.v1 ?_ | refine RD.v2 ?_ | refine RD.v3 ?_ | refine RD.v4 ?_ | refine RD.v5 ?_ | refine RD.v6 ?_ | refine RD.v7 ?_ | refine RD.v8 ?_ | refine RD.v9 ?_ | refine RD.v10 ?_ | refine RD.v11 ?_ | refine RD.g0 ?_ | refine RD.g1 ?_ | refine RD.g2 ?_ | refine RD.g3 ?_ | refine RD.g4 ?_ | refine RD.g5 ?_ | refine RD.g6 ?_ | refine RD.g7 ?_ | refine RD.g8 ?_ | refine RD.g9 ?_ | refine RD.g10 ?_ | refine RD.g11 ?_ | refine And.intro (Eq.refl V.non) ?_))
      have g5 := g4.trans n5
      obtain ⟨dxb, wab, emb⟩ := (M6.en g5).at
      refine RD.methKE emb rfl ?_
      repeat (with_reducible (first | refine RD.seq ?_ | refine RD.asg ?_ | refine RD.ret ?_ | refine RD.retN ?_ | refine RD.next ?_ | refine RD.drop ?_ | refine RD.ifS ?_ | refine RD.con ?_ | refine RD.nil ?_ | refine RD.cons ?_ | refine RD.op ?_ | refine RD.un ?_ | refine RD.i0 ?_ | refine RD.iU ?_ | refine RD.test ?_ | refine RD.testE ?_ | refine RD.tb_ ?_ | refine RD.not_ ?_ | refine RD.and_ ?_ | refine RD.or_ ?_ | refine RD.if_ ?_ | refine RD.andV ?_ | refine RD.orV ?_ | refine RD.notV ?_ | refine RD.andE ?_ | refine RD.orE ?_ | refine RD.notE ?_ | refine RD.lst ?_ | refine RD.tup ?_ | refine RD.cb ?_ | refine RD.call ?_ | refine RD.callS ?_ | refine RD.make ?_ | refine RD.makeK ?_ | refine RD.meth ?_ | refine RD.methK ?_ | refine RD.prop ?_ | refine RD.fld ?_ | refine RD.bm ?_ | refine RD.par ?_ | refine RD.forL ?_ | refine RD.v0 ?_ | refine RD.v1 ?_ | refine RD.v2 ?_ | refine RD.v3 ?_ | refine RD.v4 ?_ | refine RD.v5 ?_ | refine RD.v6 ?_ | refine RD.v7 ?_ | refine RD.v8 ?_ | refine RD.v9 ?_ | refine RD.v10 ?_ | refine RD.v11 ?_ | refine RD.g0 ?_ | refine RD.g1 ?_ | refine RD.g2 ?_ | refine RD.g3 ?_ | refine RD.g4 ?_ | refine RD.g5 ?_ | refine RD.g6 ?_ | refine RD.g7 ?_ | refine RD.g8 ?_ | refine RD.g9 ?_ | refine RD.g10 ?_ | refine RD.g11 ?_ | refine And.intro (Eq.refl V.non) ?_))
      refine ⟨rfl, set_bad rfl (M6.en g5) (hD g5).1 (hD g5).2 smD hE5 fun G6 l6' s6' e6' => ?_⟩
      repeat (with_reducible (first | refine RD.seq ?_ | refine RD.asg ?_ | refine RD.ret ?_ | refine RD.retN ?_ | refine RD.next ?_ | refine RD.drop ?_ | refine RD.ifS ?_ | refine RD.con ?_ | refine RD.nil ?_ | refine RD.cons ?_ | refine RD.op ?_ | refine RD.un ?_ | refine RD.i0 ?_ | refine RD.iU ?_ | refine RD.test ?_ | refine RD.testE ?_ | refine RD.tb_ ?_ | refine RD.not_ ?_ | refine RD.and_ ?_ | refine RD.or_ ?_ | refine RD.if_ ?_ | refine RD.andV ?_ | refine RD.orV ?_ | refine RD.notV ?_ | refine RD.andE ?_ | refine RD.orE ?_ | refine RD.notE ?_ | refine RD.lst ?_ | refine RD.tup ?_ | refine RD.cb ?_ | refine RD.call ?_ | refine RD.callS ?_ | refine RD.make ?_ | refine RD.makeK ?_ | refine RD.meth ?_ | refine RD.methK ?_ | refine RD.prop ?_ | refine RD.fld ?_ | refine RD.bm ?_ | refine RD.par ?_ | refine RD.forL ?_ | refine RD.v0 ?_ | refine RD.v1 ?_ | refine RD.v2 ?_ | refine RD.v3 ?_ | refine RD.v4 ?_ | refine RD.v5 ?_ | refine RD.v6 ?_ | refine RD.v7 ?_ | refine RD.v8 ?_ | refine RD.v9 ?_ | refine RD.v10 ?_ | refine RD.v11 ?_ | refine RD.g0 ?_ | refine RD.g1 ?_ | refine RD.g2 ?_ | refine RD.g3 ?_ | refine RD.g4 ?_ | refine RD.g5 ?_ | refine RD.g6 ?_ | refine RD.g7 ?_ | refine RD.g8 ?_ | refine RD.g9 ?_ | refine RD.g10 ?_ | refine RD.g11 ?_ | refine And.intro (Eq.refl V.non) ?_))
      have e26 : G6 l2 = some (.lst (told D)) := s6' _ _ (n5 _ _ e24 (fun _ z => by cases z))
      refine RD.neD (dtold e6') (dtold e26) (shp (can1 smD) (by show 1 ≤ 64; decide)) (shp (can1 smD) (by show 1 ≤ 64; decide)) ?_
      repeat (with_reducible (first | refine RD.seq ?_ | refine RD.asg ?_ | refine RD.ret ?_ | refine RD.retN ?_ | refine RD.next ?_ | refine RD.drop ?_ | refine RD.ifS ?_ | refine RD.con ?_ | refine RD.nil ?_ | refine RD.cons ?_ | refine RD.op ?_ | refine RD.un ?_ | refine RD.i0 ?_ | refine RD.iU ?_ | refine RD.test ?_ | refine RD.testE ?_ | refine RD.tb_ ?_ | refine RD.not_ ?_ | refine RD.and_ ?_ | refine RD.or_ ?_ | refine RD.if_ ?_ | refine RD.andV ?_ | refine RD.orV ?_ | refine RD.notV ?_ | refine RD.andE ?_ | refine RD.orE ?_ | refine RD.notE ?_ | refine RD.lst ?_ | refine RD.tup ?_ | refine RD.cb ?_ | refine RD.call ?_ | refine RD.callS ?_ | refine RD.make ?_ | refine RD.makeK ?_ | refine RD.meth ?_ | refine RD.methK ?_ | refine RD.prop ?_ | refine RD.fld ?_ | refine RD.bm ?_ | refine RD.par ?_ | refine RD.forL ?_ | refine RD.v0 ?_ | refine RD.v1 ?_ | refine RD.v2 ?_ | refine RD.v3 ?_ | refine RD.v4 ?_ | refine RD.v5 ?_ | refine RD.v6 ?_ | refine RD.v7 ?_ | refine RD.v8 ?_ | refine RD.v9 ?_ | refine RD.v10 ?_ | refine RD.v11 ?_ | refine RD.g0 ?_ | refine RD.g1 ?_ | refine RD.g2 ?_ | refine RD.g3 ?_ | refine RD.g4 ?_ | refine RD.g5 ?_ | refine RD.g6 ?_ | refine RD.g7 ?_ | refine RD.g8 ?_ | refine RD.g9 ?_ | refine RD.g10 ?_ | refine RD.g11 ?_ | refine And.intro (Eq.refl V.non) ?_))
      refine ite_f (by rw [SeqAt.eqv_refl _ (can1 smD)]; rfl) ?_
      repeat (with_reducible (first | refine RD.seq ?_ | refine RD.asg ?_ | refine RD.ret ?_ | refine RD.retN ?_ | refine RD.next ?_ | refine RD.drop ?_ | refine RD.ifS ?_ | refine RD.con ?_ | refine RD.nil ?_ | refine RD.cons ?_ | refine RD.op ?_ | refine RD.un ?_ | refine RD.i0 ?_ | refine RD.iU ?_ | refine RD.test ?_ | refine RD.testE ?_ | refine RD.tb_ ?_ | refine RD.not_ ?_ | refine RD.and_ ?_ | refine RD.or_ ?_ | refine RD.if_ ?_ | refine RD.andV ?_ | refine RD.orV ?_ | refine RD.notV ?_ | refine RD.andE ?_ | refine RD.orE ?_ | refine RD.notE ?_ | refine RD.lst ?_ | refine RD.tup ?_ | refine RD.cb ?_ | refine RD.call ?_ | refine RD.callS ?_ | refine RD.make ?_ | refine RD.makeK ?_ | refine RD.meth ?_ | refine RD.methK ?_ | refine RD.prop ?_ | refine RD.fld ?_ | refine RD.bm ?_ | refine RD.par ?_ | refine RD.forL ?_ | refine RD.v0 ?_ | refine RD.v1 ?_ | refine RD.v2 ?_ | refine RD.v3 ?_ | refine RD.v4 ?_ | refine RD.v5 ?_ | refine RD.v6 ?_ | refine RD.v7 ?_ | refine RD.v8 ?_ | refine RD.v9 ?_ | refine RD.v10 ?_ | refine RD.v11 ?_ | refine RD.g0 ?_ | refine RD.g1 ?_ | refine RD.g2 ?_ | refine RD.g3 ?_ | refine RD.g4 ?_ | refine RD.g5 ?_ | refine RD.g6 ?_ | refine RD.g7 ?_ | refine RD.g8 ?_ | refine RD.g9 ?_ | refine RD.g10 ?_ | refine RD.g11 ?_ | refine And.intro (Eq.refl V.non) ?_))
      have g6 := g5.trans (sam_en s6')
      refine ⟨_, _, _, rfl, M6.en g6, r0, r1, a0, a1, fun G7 s7 => ?_⟩
      repeat (with_reducible (first | refine RD.seq ?_ | refine RD.asg ?_ | refine RD.ret ?_ | refine RD.retN ?_ | refine RD.next ?_ | refine RD.drop ?_ | refine RD.ifS ?_ | refine RD.con ?_ | refine RD.nil ?_ | refine RD.cons ?_ | refine RD.op ?_ | refine RD.un ?_ | refine RD.i0 ?_ | refine RD.iU ?_ | refine RD.test ?_ | refine RD.testE ?_ | refine RD.tb_ ?_ | refine RD.not_ ?_ | refine RD.and_ ?_ | refine RD.or_ ?_ | refine RD.if_ ?_ | refine RD.andV ?_ | refine RD.orV ?_ | refine RD.notV ?_ | refine RD.andE ?_ | refine RD.orE ?_ | refine RD.notE ?_ | refine RD.lst ?_ | refine RD.tup ?_ | refine RD.cb ?_ | refine RD.call ?_ | refine RD.callS ?_ | refine RD.make ?_ | refine RD.makeK ?_ | refine RD.meth ?_ | refine RD.methK ?_ | refine RD.prop ?_ | refine RD.fld ?_ | refine RD.bm ?_ | refine RD.par ?_ | refine RD.forL ?_ | refine RD.v0 ?_ | refine RD.v1 ?_ | refine RD.v2 ?_ | refine RD.v3 ?_ | refine RD.v4 ?_ | refine RD.v5 ?_ | refine RD.v6 ?_ | refine RD.v7 ?_ | refine RD.v8 ?_ | refine RD.v9 ?_ | refine RD.v10 ?_ | refine RD.v11 ?_ | refine RD.g0 ?_ | refine RD.g1 ?_ | refine RD.g2 ?_ | refine RD.g3 ?_ | refine RD.g4 ?_ | refine RD.g5 ?_ | refine RD.g6 ?_ | refine RD.g7 ?_ | refine RD.g8 ?_ | refine RD.g9 ?_ | refine RD.g10 ?_ | refine RD.g11 ?_ | refine And.intro (Eq.refl V.non) ?_))
      refine ite_f rfl ?_
      repeat (with_reducible (first | refine RD.seq ?_ | refine RD.asg ?_ | refine RD.ret ?_ | refine RD.retN ?_ | refine RD.next ?_ | refine RD.drop ?_ | refine RD.ifS ?_ | refine RD.con ?_ | refine RD.nil ?_ | refine RD.cons ?_ | refine RD.op ?_ | refine RD.un ?_ | refine RD.i0 ?_ | refine RD.iU ?_ | refine RD.test ?_ | refine RD.testE ?_ | refine RD.tb_ ?_ | refine RD.not_ ?_ | refine RD.and_ ?_ | refine RD.or_ ?_ | refine RD.if_ ?_ | refine RD.andV ?_ | refine RD.orV ?_ | refine RD.notV ?_ | refine RD.andE ?_ | refine RD.orE ?_ | refine RD.notE ?_ | refine RD.lst ?_ | refine RD.tup ?_ | refine RD.cb ?_ | refine RD.call ?_ | refine RD.callS ?_ | refine RD.make ?_ | refine RD.makeK ?_ | refine RD.meth ?_ | refine RD.methK ?_ | refine RD.prop ?_ | refine RD.fld ?_ | refine RD.bm ?_ | refine RD.par ?_ | refine RD.forL ?_ | refine RD.v0 ?_ | refine RD.v1 ?_ | refine RD.v2 ?_ | refine RD.v3 ?_ | refine RD.v4 ?_ | refine RD.v5 ?_ | refine RD.v6 ?_ | refine RD.v7 ?_ | refine RD.v8 ?_ | refine RD.v9 ?_ | refine RD.v10 ?_ | refine RD.v11 ?_ | refine RD.g0 ?_ | refine RD.g1 ?_ | refine RD.g2 ?_ | refine RD.g3 ?_ | refine RD.g4 ?_ | refine RD.g5 ?_ | refine RD.g6 ?_ | refine RD.g7 ?_ | refine RD.g8 ?_ | refine RD.g9 ?_ | refine RD.g10 ?_ | refine RD.g11 ?_ | refine And.intro (Eq.refl V.non) ?_))
      exact ⟨_, _, rfl, g6.trans (sam_en s7), tabs_s (tabs_s T5' s6') s7⟩
    · rintro σ H7 ⟨a7, a8, rfl, en, T7⟩
      repeat (with_reducible (first | refine RD.seq ?_ | refine RD.asg ?_ | refine RD.ret ?_ | refine RD.retN ?_ | refine RD.next ?_ | refine RD.drop ?_ | refine RD.ifS ?_ | refine RD.con ?_ | refine RD.nil ?_ | refine RD.cons ?_ | refine RD.op ?_ | refine RD.un ?_ | refine RD.i0 ?_ | refine RD.iU ?_ | refine RD.test ?_ | refine RD.testE ?_ | refine RD.tb_ ?_ | refine RD.not_ ?_ | refine RD.and_ ?_ | refine RD.or_ ?_ | refine RD.if_ ?_ | refine RD.andV ?_ | refine RD.orV ?_ | refine RD.notV ?_ | refine RD.andE ?_ | refine RD.orE ?_ | refine RD.notE ?_ | refine RD.lst ?_ | refine RD.tup ?_ | refine RD.cb ?_ | refine RD.call ?_ | refine RD.callS ?_ | refine RD.make ?_ | refine RD.makeK ?_ | refine RD.meth ?_ | refine RD.methK ?_ | refine RD.prop ?_ | refine RD.fld ?_ | refine RD.bm ?_ | refine RD.par ?_ | refine RD.forL ?_ | refine RD.v0 ?_ | refine RD.v1 ?_ | refine RD.v2 ?_ | refine RD.v3 ?_ | refine RD.v4 ?_ | refine RD.v5 ?_ | refine RD.v6 ?_ | refine RD.v7 ?_ | refine RD.v8 ?_ | refine RD.v9 ?_ | refine RD.v10 ?_ | refine RD.v11 ?_ | refine RD.g0 ?_ | refine RD.g1 ?_ | refine RD.g2 ?_ | refine RD.g3 ?_ | refine RD.g4 ?_ | refine RD.g5 ?_ | refine RD.g6 ?_ | refine RD.g7 ?_ | refine RD.g8 ?_ | refine RD.g9 ?_ | refine RD.g10 ?_ | refine RD.g11 ?_ | refine And.intro (Eq.refl V.non) ?_))
      have M7 := M6.en en
      obtain ⟨dx7, wa7, em7⟩ := M7.at
      refine RD.methKE em7 rfl ?_
      repeat (with_reducible (first | refine RD.seq ?_ | refine RD.asg ?_ | refine RD.ret ?_ | refine RD.retN ?_ | refine RD.next ?_ | refine RD.drop ?_ | refine RD.ifS ?_ | refine RD.con ?_ | refine RD.nil ?_ | refine RD.cons ?_ | refine RD.op ?_ | refine RD.un ?_ | refine RD.i0 ?_ | refine RD.iU ?_ | refine RD.test ?_ | refine RD.testE ?_ | refine RD.tb_ ?_ | refine RD.not_ ?_ | refine RD.and_ ?_ | refine RD.or_ ?_ | refine RD.if_ ?_ | refine RD.andV ?_ | refine RD.orV ?_ | refine RD.notV ?_ | refine RD.andE ?_ | refine RD.orE ?_ | refine RD.notE ?_ | refine RD.lst ?_ | refine RD.tup ?_ | refine RD.cb ?_ | refine RD.call ?_ | refine RD.callS ?_ | refine RD.make ?_ | refine RD.makeK ?_ | refine RD.meth ?_ | refine RD.methK ?_ | refine RD.prop ?_ | refine RD.fld ?_ | refine RD.bm ?_ | refine RD.par ?_ | refine RD.forL ?_ | refine RD.v0 ?_ | refine RD.v1 ?_ | refine RD.v2 ?_ | refine RD.v3 ?_ | refine RD.v4 ?_ | refine RD.v5 ?_ | refine RD.v6 ?_ | refine RD.v7 ?_ | refine RD.v8 ?_ | refine RD.v9 ?_ | refine RD.v10 ?_ | refine RD.v11 ?_ | refine RD.g0 ?_ | refine RD.g1 ?_ | refine RD.g2 ?_ | refine RD.g3 ?_ | refine RD.g4 ?_ | refine RD.g5 ?_ | refine RD.g6 ?_ | refine RD.g7 ?_ | refine RD.g8 ?_ | refine RD.g9 ?_ | refine RD.g10 ?_ | refine RD.g11 ?_ | refine And.intro (Eq.refl V.non) ?_))
      refine ⟨rfl, m, .int v2, r, v1, rfl, M7, .inr ⟨v2, rfl, c0, fun H8 sx8 M8 => ?_⟩⟩
      repeat (with_reducible (first | refine RD.seq ?_ | refine RD.asg ?_ | refine RD.ret ?_ | refine RD.retN ?_ | refine RD.next ?_ | refine RD.drop ?_ | refine RD.ifS ?_ | refine RD.con ?_ | refine RD.nil ?_ | refine RD.cons ?_ | refine RD.op ?_ | refine RD.un ?_ | refine RD.i0 ?_ | refine RD.iU ?_ | refine RD.test ?_ | refine RD.testE ?_ | refine RD.tb_ ?_ | refine RD.not_ ?_ | refine RD.and_ ?_ | refine RD.or_ ?_ | refine RD.if_ ?_ | refine RD.andV ?_ | refine RD.orV ?_ | refine RD.notV ?_ | refine RD.andE ?_ | refine RD.orE ?_ | refine RD.notE ?_ | refine RD.lst ?_ | refine RD.tup ?_ | refine RD.cb ?_ | refine RD.call ?_ | refine RD.callS ?_ | refine RD.make ?_ | refine RD.makeK ?_ | refine RD.meth ?_ | refine RD.methK ?_ | refine RD.prop ?_ | refine RD.fld ?_ | refine RD.bm ?_ | refine RD.par ?_ | refine RD.forL ?_ | refine RD.v0 ?_ | refine RD.v1 ?_ | refine RD.v2 ?_ | refine RD.v3 ?_ | refine RD.v4 ?_ | refine RD.v5 ?_ | refine RD.v6 ?_ | refine RD.v7 ?_ | refine RD.v8 ?_ | refine RD.v9 ?_ | refine RD.v10 ?_ | refine RD.v11 ?_ | refine RD.g0 ?_ | refine RD.g1 ?_ | refine RD.g2 ?_ | refine RD.g3 ?_ | refine RD.g4 ?_ | refine RD.g5 ?_ | refine RD.g6 ?_ | refine RD.g7 ?_ | refine RD.g8 ?_ | refine RD.g9 ?_ | refine RD.g10 ?_ | refine RD.g11 ?_ | refine And.intro (Eq.refl V.non) ?_))
      refine ite_f rfl ?_
      repeat (with_reducible (first | refine RD.seq ?_ | refine RD.asg ?_ | refine RD.ret ?_ | refine RD.retN ?_ | refine RD.next ?_ | refine RD.drop ?_ | refine RD.ifS ?_ | refine RD.con ?_ | refine RD.nil ?_ | refine RD.cons ?_ | refine RD.op ?_ | refine RD.un ?_ | refine RD.i0 ?_ | refine RD.iU ?_ | refine RD.test ?_ | refine RD.testE ?_ | refine RD.tb_ ?_ | refine RD.not_ ?_ | refine RD.and_ ?_ | refine RD.or_ ?_ | refine RD.if_ ?_ | refine RD.andV ?_ | refine RD.orV ?_ | refine RD.notV ?_ | refine RD.andE ?_ | refine RD.orE ?_ | refine RD.notE ?_ | refine RD.lst ?_ | refine RD.tup ?_ | refine RD.cb ?_ | refine RD.call ?_ | refine RD.callS ?_ | refine RD.make ?_ | refine RD.makeK ?_ | refine RD.meth ?_ | refine RD.methK ?_ | refine RD.prop ?_ | refine RD.fld ?_ | refine RD.bm ?_ | refine RD.par ?_ | refine RD.forL ?_ | refine RD.v0 ?_ | refine RD.v1 ?_ | refine RD.v2 ?_ | refine RD.v3 ?_ | refine RD.v4 ?_ | refine RD.v5 ?_ | refine RD.v6 ?_ | refine RD.v7 ?_ | refine RD.v8 ?_ | refine RD.v9 ?_ | refine RD.v10 ?_ | refine RD.v11 ?_ | refine RD.g0 ?_ | refine RD.g1 ?_ | refine RD.g2 ?_ | refine RD.g3 ?_ | refine RD.g4 ?_ | refine RD.g5 ?_ | refine RD.g6 ?_ | refine RD.g7 ?_ | refine RD.g8 ?_ | refine RD.g9 ?_ | refine RD.g10 ?_ | refine RD.g11 ?_ | refine And.intro (Eq.refl V.non) ?_))
      refine ⟨_, _, _, rfl, M8, r0, r1, c0, c1, fun H9 s9 => ?_⟩
      repeat (with_reducible (first | refine RD.seq ?_ | refine RD.asg ?_ | refine RD.ret ?_ | refine RD.retN ?_ | refine RD.next ?_ | refine RD.drop ?_ | refine RD.ifS ?_ | refine RD.con ?_ | refine RD.nil ?_ | refine RD.cons ?_ | refine RD.op ?_ | refine RD.un ?_ | refine RD.i0 ?_ | refine RD.iU ?_ | refine RD.test ?_ | refine RD.testE ?_ | refine RD.tb_ ?_ | refine RD.not_ ?_ | refine RD.and_ ?_ | refine RD.or_ ?_ | refine RD.if_ ?_ | refine RD.andV ?_ | refine RD.orV ?_ | refine RD.notV ?_ | refine RD.andE ?_ | refine RD.orE ?_ | refine RD.notE ?_ | refine RD.lst ?_ | refine RD.tup ?_ | refine RD.cb ?_ | refine RD.call ?_ | refine RD.callS ?_ | refine RD.make ?_ | refine RD.makeK ?_ | refine RD.meth ?_ | refine RD.methK ?_ | refine RD.prop ?_ | refine RD.fld ?_ | refine RD.bm ?_ | refine RD.par ?_ | refine RD.forL ?_ | refine RD.v0 ?_ | refine RD.v1 ?_ | refine RD.v2 ?_ | refine RD.v3 ?_ | refine RD.v4 ?_ | refine RD.v5 ?_ | refine RD.v6 ?_ | refine RD.v7 ?_ | refine RD.v8 ?_ | refine RD.v9 ?_ | refine RD.v10 ?_ | refine RD.v11 ?_ | refine RD.g0 ?_ | refine RD.g1 ?_ | refine RD.g2 ?_ | refine RD.g3 ?_ | refine RD.g4 ?_ | refine RD.g5 ?_ | refine RD.g6 ?_ | refine RD.g7 ?_ | refine RD.g8 ?_ | refine RD.g9 ?_ | refine RD.g10 ?_ | refine RD.g11 ?_ | refine And.intro (Eq.refl V.non) ?_))
      refine ite_f rfl ?_
      repeat (with_reducible (first | refine RD.seq ?_ | refine RD.asg ?_ | refine RD.ret ?_ | refine RD.retN ?_ | refine RD.next ?_ | refine RD.drop ?_ | refine RD.ifS ?_ | refine RD.con ?_ | refine RD.nil ?_ | refine RD.cons ?_ | refine RD.op ?_ | refine RD.un ?_ | refine RD.i0 ?_ | refine RD.iU ?_ | refine RD.test ?_ | refine RD.testE ?_ | refine RD.tb_ ?_ | refine RD.not_ ?_ | refine RD.and_ ?_ | refine RD.or_ ?_ | refine RD.if_ ?_ | refine RD.andV ?_ | refine RD.orV ?_ | refine RD.notV ?_ | refine RD.andE ?_ | refine RD.orE ?_ | refine RD.notE ?_ | refine RD.lst ?_ | refine RD.tup ?_ | refine RD.cb ?_ | refine RD.call ?_ | refine RD.callS ?_ | refine RD.make ?_ | refine RD.makeK ?_ | refine RD.meth ?_ | refine RD.methK ?_ | refine RD.prop ?_ | refine RD.fld ?_ | refine RD.bm ?_ | refine RD.par ?_ | refine RD.forL ?_ | refine RD.v0 ?_ | refine RD.v1 ?_ | refine RD.v2 ?_ | refine RD.v3 ?_ | refine RD.v4 ?_ | refine RD.v5 ?_ | refine RD.v6 ?_ | refine RD.v7 ?_ | refine RD.v8 ?_ | refine RD.v9 ?_ | refine RD.v10 ?_ | refine RD.v11 ?_ | refine RD.g0 ?_ | refine RD.g1 ?_ | refine RD.g2 ?_ | refine RD.g3 ?_ | refine RD.g4 ?_ | refine RD.g5 ?_ | refine RD.g6 ?_ | refine RD.g7 ?_ | refine RD.g8 ?_ | refine RD.g9 ?_ | refine RD.g10 ?_ | refine RD.g11 ?_ | refine And.intro (Eq.refl V.non) ?_))
      have M9 := M8.same s9
      obtain ⟨dx9, wa9, em9⟩ := M9.at
      refine RD.methE em9 rfl ?_
      repeat (with_reducible (first | refine RD.seq ?_ | refine RD.asg ?_ | refine RD.ret ?_ | refine RD.retN ?_ | refine RD.next ?_ | refine RD.drop ?_ | refine RD.ifS ?_ | refine RD.con ?_ | refine RD.nil ?_ | refine RD.cons ?_ | refine RD.op ?_ | refine RD.un ?_ | refine RD.i0 ?_ | refine RD.iU ?_ | refine RD.test ?_ | refine RD.testE ?_ | refine RD.tb_ ?_ | refine RD.not_ ?_ | refine RD.and_ ?_ | refine RD.or_ ?_ | refine RD.if_ ?_ | refine RD.andV ?_ | refine RD.orV ?_ | refine RD.notV ?_ | refine RD.andE ?_ | refine RD.orE ?_ | refine RD.notE ?_ | refine RD.lst ?_ | refine RD.tup ?_ | refine RD.cb ?_ | refine RD.call ?_ | refine RD.callS ?_ | refine RD.make ?_ | refine RD.makeK ?_ | refine RD.meth ?_ | refine RD.methK ?_ | refine RD.prop ?_ | refine RD.fld ?_ | refine RD.bm ?_ | refine RD.par ?_ | refine RD.forL ?_ | refine RD.v0 ?_ | refine RD.v1 ?_ | refine RD.v2 ?_ | refine RD.v3 ?_ | refine RD.v4 ?_ | refine RD.v5 ?_ | refine RD.v6 ?_ | refine RD.v7 ?_ | refine RD.v8 ?_ | refine RD.v9 ?_ | refine RD.v10 ?_ | refine RD.v11 ?_ | refine RD.g0 ?_ | refine RD.g1 ?_ | refine RD.g2 ?_ | refine RD.g3 ?_ | refine RD.g4 ?_ | refine RD.g5 ?_ | refine RD.g6 ?_ | refine RD.g7 ?_ | refine RD.g8 ?_ | refine RD.g9 ?_ | refine RD.g10 ?_ | refine RD.g11 ?_ | refine And.intro (Eq.refl V.non) ?_))
      refine ⟨m, .int 0, r, v2, rfl, M9, .inr ⟨0, rfl, by decide, fun H10 sx10 M10 => ?_⟩⟩
      repeat (with_reducible (first | refine RD.seq ?_ | refine RD.asg ?_ | refine RD.ret ?_ | refine RD.retN ?_ | refine RD.next ?_ | refine RD.drop ?_ | refine RD.ifS ?_ | refine RD.con ?_ | refine RD.nil ?_ | refine RD.cons ?_ | refine RD.op ?_ | refine RD.un ?_ | refine RD.i0 ?_ | refine RD.iU ?_ | refine RD.test ?_ | refine RD.testE ?_ | refine RD.tb_ ?_ | refine RD.not_ ?_ | refine RD.and_ ?_ | refine RD.or_ ?_ | refine RD.if_ ?_ | refine RD.andV ?_ | refine RD.orV ?_ | refine RD.notV ?_ | refine RD.andE ?_ | refine RD.orE ?_ | refine RD.notE ?_ | refine RD.lst ?_ | refine RD.tup ?_ | refine RD.cb ?_ | refine RD.call ?_ | refine RD.callS ?_ | refine RD.make ?_ | refine RD.makeK ?_ | refine RD.meth ?_ | refine RD.methK ?_ | refine RD.prop ?_ | refine RD.fld ?_ | refine RD.bm ?_ | refine RD.par ?_ | refine RD.forL ?_ | refine RD.v0 ?_ | refine RD.v1 ?_ | refine RD.v2 ?_ | refine RD.v3 ?_ | refine RD.v4 ?_ | refine RD.v5 ?_ | refine RD.v6 ?_ | refine RD.v7 ?_ | refine RD.v8 ?_ | refine RD.v9 ?_ | refine RD.v10 ?_ | refine RD.v11 ?_ | refine RD.g0 ?_ | refine RD.g1 ?_ | refine RD.g2 ?_ | refine RD.g3 ?_ | refine RD.g4 ?_ | refine RD.g5 ?_ | refine RD.g6 ?_ | refine RD.g7 ?_ | refine RD.g8 ?_ | refine RD.g9 ?_ | refine RD.g10 ?_ | refine RD.g11 ?_ | refine And.intro (Eq.refl V.non) ?_))
      refine ite_t rfl ?_
      repeat (with_reducible (first | refine RD.seq ?_ | refine RD.asg ?_ | refine RD.ret ?_ | refine RD.retN ?_ | refine RD.next ?_ | refine RD.drop ?_ | refine RD.ifS ?_ | refine RD.con ?_ | refine RD.nil ?_ | refine RD.cons ?_ | refine RD.op ?_ | refine RD.un ?_ | refine RD.i0 ?_ | refine RD.iU ?_ | refine RD.test ?_ | refine RD.testE ?_ | refine RD.tb_ ?_ | refine RD.not_ ?_ | refine RD.and_ ?_ | refine RD.or_ ?_ | refine RD.if_ ?_ | refine RD.andV ?_ | refine RD.orV ?_ | refine RD.notV ?_ | refine RD.andE ?_ | refine RD.orE ?_ | refine RD.notE ?_ | refine RD.lst ?_ | refine RD.tup ?_ | refine RD.cb ?_ | refine RD.call ?_ | refine RD.callS ?_ | refine RD.make ?_ | refine RD.makeK ?_ | refine RD.meth ?_ | refine RD.methK ?_ | refine RD.prop ?_ | refine RD.fld ?_ | refine RD.bm ?_ | refine RD.par ?_ | refine RD.forL ?_ | refine RD.v0 ?_ | refine RD.v1 ?_ | refine RD.v2 ?_ | refine RD.v3 ?_ | refine RD.v4 ?_ | refine RD.v5 ?_ | refine RD.v6 ?_ | refine RD.v7 ?_ | refine RD.v8 ?_ | refine RD.v9 ?_ | refine RD.v10 ?_ | refine RD.v11 ?_ | refine RD.g0 ?_ | refine RD.g1 ?_ | refine RD.g2 ?_ | refine RD.g3 ?_ | refine RD.g4 ?_ | refine RD.g5 ?_ | refine RD.g6 ?_ | refine RD.g7 ?_ | refine RD.g8 ?_ | refine RD.g9 ?_ | refine RD.g10 ?_ | refine RD.g11 ?_ | refine And.intro (Eq.refl V.non) ?_))
      refine ⟨_, _, _, rfl, M10, r0, r1, by decide, by decide, fun H11 s11 => ?_⟩
      have xm : ExtP m H3 H11 := x36.tr ((ExtP.en en).tr (sx8.ep.tr (s9.ep.tr (sx10.ep.tr s11.ep))))
      refine q H11 ((Ext2.p x03).tr (Ext2.m xm)) (tabs_s (tabs_m M9 (tabs_s (tabs_m M7 T7 sx8) s9) sx10) s11) ?_
      exact (pu_mo M9 sx10 ((pu_mo M7 sx8 (pu6.n en)).sam s9)).sam s11
end
end My
set_option Elab.async false
set_option linter.all false
set_option maxRecDepth 100000
set_option maxHeartbeats 4000000
/-! The law. -/
namespace My
open PySem PySem.Spec PyProof.Rows L2 He HL LD LX LL LQ
theorem tyes {σ : L2.St} {H : Hp} {Q : Bool → Hp → Prop} (h : Q true H) : tYes σ H Q := h
structure spRight (K : PySem.W.Frag) (vs : List V) (H : Hp) (Q : VK) (_E : XK) : Prop where
  h : ∃ (p : Addr), vs = [.ref p] ∧ Pu H p ∧ LamX.Tabs (TL K) H ∧ ∀ H', ExtP p H H' → LamX.Tabs (TL K) H' → Q (.bl true) H'
structure spLaw (K : PySem.W.Frag) (vs : List V) (H : Hp) (Q : VK) (_E : XK) : Prop where
  h : ∃ (a : Addr) (ns : List Int), vs = [.ref a] ∧ SqL K H a (ns.map V.int) ∧ LamX.Tabs (TL K) H ∧ ∀ H', Q (.bl true) H'
section
variable {P : Program} {w : World} {K : PySem.W.Frag} {mg : PySem.Str → Option Value} {base : Heap} (T : Tx K mg base) (TB : ∀ p ∈ cs K, LamX.TabB base mg p.1 p.2)
include T TB
theorem D_law_right : Gn P w K mg base CX0 8 "_law_right" ["_law_purse_here"] (spRight K) := by
  obtain ⟨fd, F⟩ := T.f_law_right
  have nd := sc_law_right.nd
  have D_law_number := D_law_number (P := P) (w := w) T
  have D_law_made_right := D_law_made_right (P := P) (w := w) T
  have D_law_refused_right := D_law_refused_right (P := P) (w := w) T TB
  have D_law_limits_right := D_law_limits_right (P := P) (w := w) T TB
  have D_Machine_2 := D_Machine_2 (P := P) (w := w) T
  refine ⟨_, fd, T.g_law_right, F.kp, okG F sc_law_right (fun vs H Q E h => ?_) (fun A outer s H vs Q E hr hgu h => ⟨_, (pss_cons (ps_for passB rfl (pi_range1 rfl T.n_range (pa_cons pe_int pa_nil)) (pg_name (i := 1) nd rfl (by first | exact Or.inl rfl | exact Or.inr rfl)) (pss_cons (ps_par (i := 2) (j := 3) (by rfl) nd rfl rfl (by decide) rfl rfl (pa_cons (pe_callD D_law_number (hr.mono (by decide)) pass0 (pa_cons (pv 0) pa_nil)) (pa_cons (pe_callD D_law_number (hr.mono (by decide)) pass0 (pa_cons (pv 0) pa_nil)) pa_nil)) (by rfl))
      (pss_cons (ps_if (pt_not (pt_val (pe_callGD D_law_made_right (hr.mono (by decide)) hgu pass0 (pa_cons (pv 2) (pa_cons (pv 3) pa_nil))))) (pss_one (ps_ret pe_bl)) pss_nil)
      (pss_cons (ps_if (pt_not (pt_val (pe_callGD D_law_refused_right (hr.mono (by decide)) hgu pass0 (pa_cons (pv 0) (pa_cons (pv 2) (pa_cons (pv 3) pa_nil)))))) (pss_one (ps_ret pe_bl)) pss_nil)
      (pss_one (ps_if (pt_not (pt_val (pe_callGD D_law_limits_right (hr.mono (by decide)) hgu pass0 (pa_cons (pv 0) (pa_cons (pe_makeD D_Machine_2 (hr.mono (by decide)) passN0 (pa_cons (pv 2) (pa_cons (pv 3) pa_nil))) (pa_cons (pv 2) pa_nil)))))) (pss_one (ps_ret pe_bl)) pss_nil))))))
      (pss_one (ps_ret pe_bl))), ?_⟩), F.bindsN fun _ _ _ _ _ _ us hl => match us, hl with | [_], _ => rfl⟩
  · obtain ⟨p, rfl, _⟩ := h
    rfl
  · obtain ⟨p, rfl, pu, tb, q⟩ := h
    refine sq_st [some (.ref p), none, none, none] rfl ?_
    repeat (with_reducible (first | refine RD.seq ?_ | refine RD.asg ?_ | refine RD.ret ?_ | refine RD.retN ?_ | refine RD.next ?_ | refine RD.drop ?_ | refine RD.ifS ?_ | refine RD.con ?_ | refine RD.nil ?_ | refine RD.cons ?_ | refine RD.op ?_ | refine RD.un ?_ | refine RD.i0 ?_ | refine RD.iU ?_ | refine RD.test ?_ | refine RD.testE ?_ | refine RD.tb_ ?_ | refine RD.not_ ?_ | refine RD.and_ ?_ | refine RD.or_ ?_ | refine RD.if_ ?_ | refine RD.andV ?_ | refine RD.orV ?_ | refine RD.notV ?_ | refine RD.andE ?_ | refine RD.orE ?_ | refine RD.notE ?_ | refine RD.lst ?_ | refine RD.tup ?_ | refine RD.cb ?_ | refine RD.call ?_ | refine RD.callS ?_ | refine RD.make ?_ | refine RD.makeK ?_ | refine RD.meth ?_ | refine RD.methK ?_ | refine RD.prop ?_ | refine RD.fld ?_ | refine RD.bm ?_ | refine RD.par ?_ | refine RD.forL ?_ | refine RD.v0 ?_ | refine RD.v1 ?_ | refine RD.v2 ?_ | refine RD.v3 ?_ | refine RD.v4 ?_ | refine RD.v5 ?_ | refine RD.v6 ?_ | refine RD.v7 ?_ | refine RD.v8 ?_ | refine RD.v9 ?_ | refine RD.v10 ?_ | refine RD.v11 ?_ | refine RD.g0 ?_ | refine RD.g1 ?_ | refine RD.g2 ?_ | refine RD.g3 ?_ | refine RD.g4 ?_ | refine RD.g5 ?_ | refine RD.g6 ?_ | refine RD.g7 ?_ | refine RD.g8 ?_ | refine RD.g9 ?_ | refine RD.g10 ?_ | refine RD.g11 ?_ | refine And.intro (Eq.refl V.non) ?_))
    refine ⟨4, rfl, by decide, by decide, for_range (lo := 0) (n := 4) (fun i σ H' => ∃ a1 a2 a3, σ = [some (.ref p), a1, a2, a3] ∧ ExtP p H H' ∧ LamX.Tabs (TL K) H' ∧ Pu H' p) ⟨_, _, _, rfl, .rf, tb, pu⟩ ?_ ?_⟩
    · rintro i σ H0 hi ⟨a1, a2, a3, rfl, x0, t0, pu0⟩
      repeat (with_reducible (first | refine RD.seq ?_ | refine RD.asg ?_ | refine RD.ret ?_ | refine RD.retN ?_ | refine RD.next ?_ | refine RD.drop ?_ | refine RD.ifS ?_ | refine RD.con ?_ | refine RD.nil ?_ | refine RD.cons ?_ | refine RD.op ?_ | refine RD.un ?_ | refine RD.i0 ?_ | refine RD.iU ?_ | refine RD.test ?_ | refine RD.testE ?_ | refine RD.tb_ ?_ | refine RD.not_ ?_ | refine RD.and_ ?_ | refine RD.or_ ?_ | refine RD.if_ ?_ | refine RD.andV ?_ | refine RD.orV ?_ | refine RD.notV ?_ | refine RD.andE ?_ | refine RD.orE ?_ | refine RD.notE ?_ | refine RD.lst ?_ | refine RD.tup ?_ | refine RD.cb ?_ | refine RD.call ?_ | refine RD.callS ?_ | refine RD.make ?_ | refine RD.makeK ?_ | refine RD.meth ?_ | refine RD.methK ?_ | refine RD.prop ?_ | refine RD.fld ?_ | refine RD.bm ?_ | refine RD.par ?_ | refine RD.forL ?_ | refine RD.v0 ?_ | refine RD.v1 ?_ | refine RD.v2 ?_ | refine RD.v3 ?_ | refine RD.v4 ?_ | refine RD.v5 ?_ | refine RD.v6 ?_ | refine RD.v7 ?_ | refine RD.v8 ?_ | refine RD.v9 ?_ | refine RD.v10 ?_ | refine RD.v11 ?_ | refine RD.g0 ?_ | refine RD.g1 ?_ | refine RD.g2 ?_ | refine RD.g3 ?_ | refine RD.g4 ?_ | refine RD.g5 ?_ | refine RD.g6 ?_ | refine RD.g7 ?_ | refine RD.g8 ?_ | refine RD.g9 ?_ | refine RD.g10 ?_ | refine RD.g11 ?_ | refine And.intro (Eq.refl V.non) ?_))
      refine ⟨p, rfl, pu0, fun H1 r r0 r1 sx1 pu1 => ?_⟩
      repeat (with_reducible (first | refine RD.seq ?_ | refine RD.asg ?_ | refine RD.ret ?_ | refine RD.retN ?_ | refine RD.next ?_ | refine RD.drop ?_ | refine RD.ifS ?_ | refine RD.con ?_ | refine RD.nil ?_ | refine RD.cons ?_ | refine RD.op ?_ | refine RD.un ?_ | refine RD.i0 ?_ | refine RD.iU ?_ | refine RD.test ?_ | refine RD.testE ?_ | refine RD.tb_ ?_ | refine RD.not_ ?_ | refine RD.and_ ?_ | refine RD.or_ ?_ | refine RD.if_ ?_ | refine RD.andV ?_ | refine RD.orV ?_ | refine RD.notV ?_ | refine RD.andE ?_ | refine RD.orE ?_ | refine RD.notE ?_ | refine RD.lst ?_ | refine RD.tup ?_ | refine RD.cb ?_ | refine RD.call ?_ | refine RD.callS ?_ | refine RD.make ?_ | refine RD.makeK ?_ | refine RD.meth ?_ | refine RD.methK ?_ | refine RD.prop ?_ | refine RD.fld ?_ | refine RD.bm ?_ | refine RD.par ?_ | refine RD.forL ?_ | refine RD.v0 ?_ | refine RD.v1 ?_ | refine RD.v2 ?_ | refine RD.v3 ?_ | refine RD.v4 ?_ | refine RD.v5 ?_ | refine RD.v6 ?_ | refine RD.v7 ?_ | refine RD.v8 ?_ | refine RD.v9 ?_ | refine RD.v10 ?_ | refine RD.v11 ?_ | refine RD.g0 ?_ | refine RD.g1 ?_ | refine RD.g2 ?_ | refine RD.g3 ?_ | refine RD.g4 ?_ | refine RD.g5 ?_ | refine RD.g6 ?_ | refine RD.g7 ?_ | refine RD.g8 ?_ | refine RD.g9 ?_ | refine RD.g10 ?_ | refine RD.g11 ?_ | refine And.intro (Eq.refl V.non) ?_))
      refine ⟨p, rfl, pu1, fun H2 b b0 b1 sx2 pu2 => ?_⟩
      repeat (with_reducible (first | refine RD.seq ?_ | refine RD.asg ?_ | refine RD.ret ?_ | refine RD.retN ?_ | refine RD.next ?_ | refine RD.drop ?_ | refine RD.ifS ?_ | refine RD.con ?_ | refine RD.nil ?_ | refine RD.cons ?_ | refine RD.op ?_ | refine RD.un ?_ | refine RD.i0 ?_ | refine RD.iU ?_ | refine RD.test ?_ | refine RD.testE ?_ | refine RD.tb_ ?_ | refine RD.not_ ?_ | refine RD.and_ ?_ | refine RD.or_ ?_ | refine RD.if_ ?_ | refine RD.andV ?_ | refine RD.orV ?_ | refine RD.notV ?_ | refine RD.andE ?_ | refine RD.orE ?_ | refine RD.notE ?_ | refine RD.lst ?_ | refine RD.tup ?_ | refine RD.cb ?_ | refine RD.call ?_ | refine RD.callS ?_ | refine RD.make ?_ | refine RD.makeK ?_ | refine RD.meth ?_ | refine RD.methK ?_ | refine RD.prop ?_ | refine RD.fld ?_ | refine RD.bm ?_ | refine RD.par ?_ | refine RD.forL ?_ | refine RD.v0 ?_ | refine RD.v1 ?_ | refine RD.v2 ?_ | refine RD.v3 ?_ | refine RD.v4 ?_ | refine RD.v5 ?_ | refine RD.v6 ?_ | refine RD.v7 ?_ | refine RD.v8 ?_ | refine RD.v9 ?_ | refine RD.v10 ?_ | refine RD.v11 ?_ | refine RD.g0 ?_ | refine RD.g1 ?_ | refine RD.g2 ?_ | refine RD.g3 ?_ | refine RD.g4 ?_ | refine RD.g5 ?_ | refine RD.g6 ?_ | refine RD.g7 ?_ | refine RD.g8 ?_ | refine RD.g9 ?_ | refine RD.g10 ?_ | refine RD.g11 ?_ | refine And.intro (Eq.refl V.non) ?_))
      refine RD.parE [some (.ref p), some (.int (0 + i)), some (.int r), some (.int b)] rfl ?_
      repeat (with_reducible (first | refine RD.seq ?_ | refine RD.asg ?_ | refine RD.ret ?_ | refine RD.retN ?_ | refine RD.next ?_ | refine RD.drop ?_ | refine RD.ifS ?_ | refine RD.con ?_ | refine RD.nil ?_ | refine RD.cons ?_ | refine RD.op ?_ | refine RD.un ?_ | refine RD.i0 ?_ | refine RD.iU ?_ | refine RD.test ?_ | refine RD.testE ?_ | refine RD.tb_ ?_ | refine RD.not_ ?_ | refine RD.and_ ?_ | refine RD.or_ ?_ | refine RD.if_ ?_ | refine RD.andV ?_ | refine RD.orV ?_ | refine RD.notV ?_ | refine RD.andE ?_ | refine RD.orE ?_ | refine RD.notE ?_ | refine RD.lst ?_ | refine RD.tup ?_ | refine RD.cb ?_ | refine RD.call ?_ | refine RD.callS ?_ | refine RD.make ?_ | refine RD.makeK ?_ | refine RD.meth ?_ | refine RD.methK ?_ | refine RD.prop ?_ | refine RD.fld ?_ | refine RD.bm ?_ | refine RD.par ?_ | refine RD.forL ?_ | refine RD.v0 ?_ | refine RD.v1 ?_ | refine RD.v2 ?_ | refine RD.v3 ?_ | refine RD.v4 ?_ | refine RD.v5 ?_ | refine RD.v6 ?_ | refine RD.v7 ?_ | refine RD.v8 ?_ | refine RD.v9 ?_ | refine RD.v10 ?_ | refine RD.v11 ?_ | refine RD.g0 ?_ | refine RD.g1 ?_ | refine RD.g2 ?_ | refine RD.g3 ?_ | refine RD.g4 ?_ | refine RD.g5 ?_ | refine RD.g6 ?_ | refine RD.g7 ?_ | refine RD.g8 ?_ | refine RD.g9 ?_ | refine RD.g10 ?_ | refine RD.g11 ?_ | refine And.intro (Eq.refl V.non) ?_))
      have t2 : LamX.Tabs (TL K) H2 := tabs_x pu1 (tabs_x pu0 t0 sx1) sx2
      refine ⟨_, _, rfl, r0, r1, b0, b1, fun H3 s3 => ?_⟩
      repeat (with_reducible (first | refine RD.seq ?_ | refine RD.asg ?_ | refine RD.ret ?_ | refine RD.retN ?_ | refine RD.next ?_ | refine RD.drop ?_ | refine RD.ifS ?_ | refine RD.con ?_ | refine RD.nil ?_ | refine RD.cons ?_ | refine RD.op ?_ | refine RD.un ?_ | refine RD.i0 ?_ | refine RD.iU ?_ | refine RD.test ?_ | refine RD.testE ?_ | refine RD.tb_ ?_ | refine RD.not_ ?_ | refine RD.and_ ?_ | refine RD.or_ ?_ | refine RD.if_ ?_ | refine RD.andV ?_ | refine RD.orV ?_ | refine RD.notV ?_ | refine RD.andE ?_ | refine RD.orE ?_ | refine RD.notE ?_ | refine RD.lst ?_ | refine RD.tup ?_ | refine RD.cb ?_ | refine RD.call ?_ | refine RD.callS ?_ | refine RD.make ?_ | refine RD.makeK ?_ | refine RD.meth ?_ | refine RD.methK ?_ | refine RD.prop ?_ | refine RD.fld ?_ | refine RD.bm ?_ | refine RD.par ?_ | refine RD.forL ?_ | refine RD.v0 ?_ | refine RD.v1 ?_ | refine RD.v2 ?_ | refine RD.v3 ?_ | refine RD.v4 ?_ | refine RD.v5 ?_ | refine RD.v6 ?_ | refine RD.v7 ?_ | refine RD.v8 ?_ | refine RD.v9 ?_ | refine RD.v10 ?_ | refine RD.v11 ?_ | refine RD.g0 ?_ | refine RD.g1 ?_ | refine RD.g2 ?_ | refine RD.g3 ?_ | refine RD.g4 ?_ | refine RD.g5 ?_ | refine RD.g6 ?_ | refine RD.g7 ?_ | refine RD.g8 ?_ | refine RD.g9 ?_ | refine RD.g10 ?_ | refine RD.g11 ?_ | refine And.intro (Eq.refl V.non) ?_))
      refine ite_f rfl ?_
      repeat (with_reducible (first | refine RD.seq ?_ | refine RD.asg ?_ | refine RD.ret ?_ | refine RD.retN ?_ | refine RD.next ?_ | refine RD.drop ?_ | refine RD.ifS ?_ | refine RD.con ?_ | refine RD.nil ?_ | refine RD.cons ?_ | refine RD.op ?_ | refine RD.un ?_ | refine RD.i0 ?_ | refine RD.iU ?_ | refine RD.test ?_ | refine RD.testE ?_ | refine RD.tb_ ?_ | refine RD.not_ ?_ | refine RD.and_ ?_ | refine RD.or_ ?_ | refine RD.if_ ?_ | refine RD.andV ?_ | refine RD.orV ?_ | refine RD.notV ?_ | refine RD.andE ?_ | refine RD.orE ?_ | refine RD.notE ?_ | refine RD.lst ?_ | refine RD.tup ?_ | refine RD.cb ?_ | refine RD.call ?_ | refine RD.callS ?_ | refine RD.make ?_ | refine RD.makeK ?_ | refine RD.meth ?_ | refine RD.methK ?_ | refine RD.prop ?_ | refine RD.fld ?_ | refine RD.bm ?_ | refine RD.par ?_ | refine RD.forL ?_ | refine RD.v0 ?_ | refine RD.v1 ?_ | refine RD.v2 ?_ | refine RD.v3 ?_ | refine RD.v4 ?_ | refine RD.v5 ?_ | refine RD.v6 ?_ | refine RD.v7 ?_ | refine RD.v8 ?_ | refine RD.v9 ?_ | refine RD.v10 ?_ | refine RD.v11 ?_ | refine RD.g0 ?_ | refine RD.g1 ?_ | refine RD.g2 ?_ | refine RD.g3 ?_ | refine RD.g4 ?_ | refine RD.g5 ?_ | refine RD.g6 ?_ | refine RD.g7 ?_ | refine RD.g8 ?_ | refine RD.g9 ?_ | refine RD.g10 ?_ | refine RD.g11 ?_ | refine And.intro (Eq.refl V.non) ?_))
      refine ⟨p, _, _, rfl, pu2.sam s3, tabs_s t2 s3, r0, r1, b0, b1, fun H4 x4 t4 pu4 => ?_⟩
      repeat (with_reducible (first | refine RD.seq ?_ | refine RD.asg ?_ | refine RD.ret ?_ | refine RD.retN ?_ | refine RD.next ?_ | refine RD.drop ?_ | refine RD.ifS ?_ | refine RD.con ?_ | refine RD.nil ?_ | refine RD.cons ?_ | refine RD.op ?_ | refine RD.un ?_ | refine RD.i0 ?_ | refine RD.iU ?_ | refine RD.test ?_ | refine RD.testE ?_ | refine RD.tb_ ?_ | refine RD.not_ ?_ | refine RD.and_ ?_ | refine RD.or_ ?_ | refine RD.if_ ?_ | refine RD.andV ?_ | refine RD.orV ?_ | refine RD.notV ?_ | refine RD.andE ?_ | refine RD.orE ?_ | refine RD.notE ?_ | refine RD.lst ?_ | refine RD.tup ?_ | refine RD.cb ?_ | refine RD.call ?_ | refine RD.callS ?_ | refine RD.make ?_ | refine RD.makeK ?_ | refine RD.meth ?_ | refine RD.methK ?_ | refine RD.prop ?_ | refine RD.fld ?_ | refine RD.bm ?_ | refine RD.par ?_ | refine RD.forL ?_ | refine RD.v0 ?_ | refine RD.v1 ?_ | refine RD.v2 ?_ | refine RD.v3 ?_ | refine RD.v4 ?_ | refine RD.v5 ?_ | refine RD.v6 ?_ | refine RD.v7 ?_ | refine RD.v8 ?_ | refine RD.v9 ?_ | refine RD.v10 ?_ | refine RD.v11 ?_ | refine RD.g0 ?_ | refine RD.g1 ?_ | refine RD.g2 ?_ | refine RD.g3 ?_ | refine RD.g4 ?_ | refine RD.g5 ?_ | refine RD.g6 ?_ | refine RD.g7 ?_ | refine RD.g8 ?_ | refine RD.g9 ?_ | refine RD.g10 ?_ | refine RD.g11 ?_ | refine And.intro (Eq.refl V.non) ?_))
      refine ite_f rfl ?_
      repeat (with_reducible (first | refine RD.seq ?_ | refine RD.asg ?_ | refine RD.ret ?_ | refine RD.retN ?_ | refine RD.next ?_ | refine RD.drop ?_ | refine RD.ifS ?_ | refine RD.con ?_ | refine RD.nil ?_ | refine RD.cons ?_ | refine RD.op ?_ | refine RD.un ?_ | refine RD.i0 ?_ | refine RD.iU ?_ | refine RD.test ?_ | refine RD.testE ?_ | refine RD.tb_ ?_ | refine RD.not_ ?_ | refine RD.and_ ?_ | refine RD.or_ ?_ | refine RD.if_ ?_ | refine RD.andV ?_ | refine RD.orV ?_ | refine RD.notV ?_ | refine RD.andE ?_ | refine RD.orE ?_ | refine RD.notE ?_ | refine RD.lst ?_ | refine RD.tup ?_ | refine RD.cb ?_ | refine RD.call ?_ | refine RD.callS ?_ | refine RD.make ?_ | refine RD.makeK ?_ | refine RD.meth ?_ | refine RD.methK ?_ | refine RD.prop ?_ | refine RD.fld ?_ | refine RD.bm ?_ | refine RD.par ?_ | refine RD.forL ?_ | refine RD.v0 ?_ | refine RD.v1 ?_ | refine RD.v2 ?_ | refine RD.v3 ?_ | refine RD.v4 ?_ | refine RD.v5 ?_ | refine RD.v6 ?_ | refine RD.v7 ?_ | refine RD.v8 ?_ | refine RD.v9 ?_ | refine RD.v10 ?_ | refine RD.v11 ?_ | refine RD.g0 ?_ | refine RD.g1 ?_ | refine RD.g2 ?_ | refine RD.g3 ?_ | refine RD.g4 ?_ | refine RD.g5 ?_ | refine RD.g6 ?_ | refine RD.g7 ?_ | refine RD.g8 ?_ | refine RD.g9 ?_ | refine RD.g10 ?_ | refine RD.g11 ?_ | refine And.intro (Eq.refl V.non) ?_))
      refine mach_new rfl r0 (.inr ⟨rfl, b0⟩) fun H5 m s5 n5 M5 => ?_
      repeat (with_reducible (first | refine RD.seq ?_ | refine RD.asg ?_ | refine RD.ret ?_ | refine RD.retN ?_ | refine RD.next ?_ | refine RD.drop ?_ | refine RD.ifS ?_ | refine RD.con ?_ | refine RD.nil ?_ | refine RD.cons ?_ | refine RD.op ?_ | refine RD.un ?_ | refine RD.i0 ?_ | refine RD.iU ?_ | refine RD.test ?_ | refine RD.testE ?_ | refine RD.tb_ ?_ | refine RD.not_ ?_ | refine RD.and_ ?_ | refine RD.or_ ?_ | refine RD.if_ ?_ | refine RD.andV ?_ | refine RD.orV ?_ | refine RD.notV ?_ | refine RD.andE ?_ | refine RD.orE ?_ | refine RD.notE ?_ | refine RD.lst ?_ | refine RD.tup ?_ | refine RD.cb ?_ | refine RD.call ?_ | refine RD.callS ?_ | refine RD.make ?_ | refine RD.makeK ?_ | refine RD.meth ?_ | refine RD.methK ?_ | refine RD.prop ?_ | refine RD.fld ?_ | refine RD.bm ?_ | refine RD.par ?_ | refine RD.forL ?_ | refine RD.v0 ?_ | refine RD.v1 ?_ | refine RD.v2 ?_ | refine RD.v3 ?_ | refine RD.v4 ?_ | refine RD.v5 ?_ | refine RD.v6 ?_ | refine RD.v7 ?_ | refine RD.v8 ?_ | refine RD.v9 ?_ | refine RD.v10 ?_ | refine RD.v11 ?_ | refine RD.g0 ?_ | refine RD.g1 ?_ | refine RD.g2 ?_ | refine RD.g3 ?_ | refine RD.g4 ?_ | refine RD.g5 ?_ | refine RD.g6 ?_ | refine RD.g7 ?_ | refine RD.g8 ?_ | refine RD.g9 ?_ | refine RD.g10 ?_ | refine RD.g11 ?_ | refine And.intro (Eq.refl V.non) ?_))
      refine ⟨p, m, r, b, rfl, pu4.sam s5, M5, tabs_s t4 s5, r0, r1, fun H6 x6 t6 pu6 => ?_⟩
      repeat (with_reducible (first | refine RD.seq ?_ | refine RD.asg ?_ | refine RD.ret ?_ | refine RD.retN ?_ | refine RD.next ?_ | refine RD.drop ?_ | refine RD.ifS ?_ | refine RD.con ?_ | refine RD.nil ?_ | refine RD.cons ?_ | refine RD.op ?_ | refine RD.un ?_ | refine RD.i0 ?_ | refine RD.iU ?_ | refine RD.test ?_ | refine RD.testE ?_ | refine RD.tb_ ?_ | refine RD.not_ ?_ | refine RD.and_ ?_ | refine RD.or_ ?_ | refine RD.if_ ?_ | refine RD.andV ?_ | refine RD.orV ?_ | refine RD.notV ?_ | refine RD.andE ?_ | refine RD.orE ?_ | refine RD.notE ?_ | refine RD.lst ?_ | refine RD.tup ?_ | refine RD.cb ?_ | refine RD.call ?_ | refine RD.callS ?_ | refine RD.make ?_ | refine RD.makeK ?_ | refine RD.meth ?_ | refine RD.methK ?_ | refine RD.prop ?_ | refine RD.fld ?_ | refine RD.bm ?_ | refine RD.par ?_ | refine RD.forL ?_ | refine RD.v0 ?_ | refine RD.v1 ?_ | refine RD.v2 ?_ | refine RD.v3 ?_ | refine RD.v4 ?_ | refine RD.v5 ?_ | refine RD.v6 ?_ | refine RD.v7 ?_ | refine RD.v8 ?_ | refine RD.v9 ?_ | refine RD.v10 ?_ | refine RD.v11 ?_ | refine RD.g0 ?_ | refine RD.g1 ?_ | refine RD.g2 ?_ | refine RD.g3 ?_ | refine RD.g4 ?_ | refine RD.g5 ?_ | refine RD.g6 ?_ | refine RD.g7 ?_ | refine RD.g8 ?_ | refine RD.g9 ?_ | refine RD.g10 ?_ | refine RD.g11 ?_ | refine And.intro (Eq.refl V.non) ?_))
      refine ite_f rfl ?_
      repeat (with_reducible (first | refine RD.seq ?_ | refine RD.asg ?_ | refine RD.ret ?_ | refine RD.retN ?_ | refine RD.next ?_ | refine RD.drop ?_ | refine RD.ifS ?_ | refine RD.con ?_ | refine RD.nil ?_ | refine RD.cons ?_ | refine RD.op ?_ | refine RD.un ?_ | refine RD.i0 ?_ | refine RD.iU ?_ | refine RD.test ?_ | refine RD.testE ?_ | refine RD.tb_ ?_ | refine RD.not_ ?_ | refine RD.and_ ?_ | refine RD.or_ ?_ | refine RD.if_ ?_ | refine RD.andV ?_ | refine RD.orV ?_ | refine RD.notV ?_ | refine RD.andE ?_ | refine RD.orE ?_ | refine RD.notE ?_ | refine RD.lst ?_ | refine RD.tup ?_ | refine RD.cb ?_ | refine RD.call ?_ | refine RD.callS ?_ | refine RD.make ?_ | refine RD.makeK ?_ | refine RD.meth ?_ | refine RD.methK ?_ | refine RD.prop ?_ | refine RD.fld ?_ | refine RD.bm ?_ | refine RD.par ?_ | refine RD.forL ?_ | refine RD.v0 ?_ | refine RD.v1 ?_ | refine RD.v2 ?_ | refine RD.v3 ?_ | refine RD.v4 ?_ | refine RD.v5 ?_ | refine RD.v6 ?_ | refine RD.v7 ?_ | refine RD.v8 ?_ | refine RD.v9 ?_ | refine RD.v10 ?_ | refine RD.v11 ?_ | refine RD.g0 ?_ | refine RD.g1 ?_ | refine RD.g2 ?_ | refine RD.g3 ?_ | refine RD.g4 ?_ | refine RD.g5 ?_ | refine RD.g6 ?_ | refine RD.g7 ?_ | refine RD.g8 ?_ | refine RD.g9 ?_ | refine RD.g10 ?_ | refine RD.g11 ?_ | refine And.intro (Eq.refl V.non) ?_))
      have x04 : ExtP p H H4 := x0.tr (sx1.ep.tr (sx2.ep.tr (s3.ep.tr x4)))
      refine ⟨_, _, _, rfl, fun c o nc e z => ?_, t6, pu6⟩
      have e4 := x04 c o nc e z
      exact x6 c o nc (fun y => by rw [y, n5] at e4; cases e4) (s5 _ _ e4) z
    · rintro σ H' ⟨a1, a2, a3, rfl, x, t, pu'⟩
      repeat (with_reducible (first | refine RD.seq ?_ | refine RD.asg ?_ | refine RD.ret ?_ | refine RD.retN ?_ | refine RD.next ?_ | refine RD.drop ?_ | refine RD.ifS ?_ | refine RD.con ?_ | refine RD.nil ?_ | refine RD.cons ?_ | refine RD.op ?_ | refine RD.un ?_ | refine RD.i0 ?_ | refine RD.iU ?_ | refine RD.test ?_ | refine RD.testE ?_ | refine RD.tb_ ?_ | refine RD.not_ ?_ | refine RD.and_ ?_ | refine RD.or_ ?_ | refine RD.if_ ?_ | refine RD.andV ?_ | refine RD.orV ?_ | refine RD.notV ?_ | refine RD.andE ?_ | refine RD.orE ?_ | refine RD.notE ?_ | refine RD.lst ?_ | refine RD.tup ?_ | refine RD.cb ?_ | refine RD.call ?_ | refine RD.callS ?_ | refine RD.make ?_ | refine RD.makeK ?_ | refine RD.meth ?_ | refine RD.methK ?_ | refine RD.prop ?_ | refine RD.fld ?_ | refine RD.bm ?_ | refine RD.par ?_ | refine RD.forL ?_ | refine RD.v0 ?_ | refine RD.v1 ?_ | refine RD.v2 ?_ | refine RD.v3 ?_ | refine RD.v4 ?_ | refine RD.v5 ?_ | refine RD.v6 ?_ | refine RD.v7 ?_ | refine RD.v8 ?_ | refine RD.v9 ?_ | refine RD.v10 ?_ | refine RD.v11 ?_ | refine RD.g0 ?_ | refine RD.g1 ?_ | refine RD.g2 ?_ | refine RD.g3 ?_ | refine RD.g4 ?_ | refine RD.g5 ?_ | refine RD.g6 ?_ | refine RD.g7 ?_ | refine RD.g8 ?_ | refine RD.g9 ?_ | refine RD.g10 ?_ | refine RD.g11 ?_ | refine And.intro (Eq.refl V.non) ?_))
      exact q H' x t
theorem k_law {fd : FuncData} (F : FunD K "law" "law" (defArgs s_law) (defBody s_law) (defScope s_law) [] [] (ga K "law") fd) : FnG P w K mg base CX0 9 (ga K "law") fd ["_law_cells"] (spLaw K) := by
  have nd := sc_law.nd
  have D_law_cell := D_law_cell (P := P) (w := w) T
  have D_law_purse := D_law_purse (P := P) (w := w) T
  have D_law_right := D_law_right (P := P) (w := w) T TB
  refine okG F sc_law (fun vs H Q E h => ?_) (fun A outer s H vs Q E hr hgu h => ⟨_, (pss_one (ps_ret (pe_callB (cr_all rfl) (by rfl) T.n_all (by decide +kernel) (pa_cons (pe_lc (own := [("_law_k", 1)]) (g := gName 1) (tt := tYes) rfl nd (pi_range1 rfl T.n_range (pa_cons (pe_callB (call_max2 rfl) (by rfl) T.n_max (by decide +kernel) (pa_cons pe_int (pa_cons (pe_callB (call_min2 rfl) (by rfl) T.n_min (by decide +kernel) (pa_cons (pe_callB call_len_seq (by rfl) T.n_len (by decide +kernel) (pa_cons (pv 0) pa_nil)) (pa_cons pe_int pa_nil))) pa_nil))) pa_nil)) (blkOk_by (own := [("_law_k", 1)]) (N := N_law) (sc := defScope s_law) (by decide +kernel)) (fun _ _ _ _ _ => pg_name (i := 1) nd rfl (Or.inl rfl)) (fun _ _ _ _ _ => pts_nil) (fun _ _ _ _ _ => (pe_callGD D_law_right (hr.mono (by decide)) hgu pass0 (pa_cons (pe_callD D_law_purse (hr.mono (by decide)) pass0 (pa_cons (pe_callD D_law_cell (hr.mono (by decide)) pass0 (pa_cons (pv 0) (pa_cons (pv 1) pa_nil))) pa_nil)) pa_nil)))) pa_nil)))), ?_⟩)
  · obtain ⟨p, ns, rfl, _⟩ := h
    rfl
  · obtain ⟨a, ns, rfl, S, tb, q⟩ := h
    refine sq_st [some (.ref a), none] rfl ?_
    repeat (with_reducible (first | refine RD.seq ?_ | refine RD.asg ?_ | refine RD.ret ?_ | refine RD.retN ?_ | refine RD.next ?_ | refine RD.drop ?_ | refine RD.ifS ?_ | refine RD.con ?_ | refine RD.nil ?_ | refine RD.cons ?_ | refine RD.op ?_ | refine RD.un ?_ | refine RD.i0 ?_ | refine RD.iU ?_ | refine RD.test ?_ | refine RD.testE ?_ | refine RD.tb_ ?_ | refine RD.not_ ?_ | refine RD.and_ ?_ | refine RD.or_ ?_ | refine RD.if_ ?_ | refine RD.andV ?_ | refine RD.orV ?_ | refine RD.notV ?_ | refine RD.andE ?_ | refine RD.orE ?_ | refine RD.notE ?_ | refine RD.lst ?_ | refine RD.tup ?_ | refine RD.cb ?_ | refine RD.call ?_ | refine RD.callS ?_ | refine RD.make ?_ | refine RD.makeK ?_ | refine RD.meth ?_ | refine RD.methK ?_ | refine RD.prop ?_ | refine RD.fld ?_ | refine RD.bm ?_ | refine RD.par ?_ | refine RD.forL ?_ | refine RD.v0 ?_ | refine RD.v1 ?_ | refine RD.v2 ?_ | refine RD.v3 ?_ | refine RD.v4 ?_ | refine RD.v5 ?_ | refine RD.v6 ?_ | refine RD.v7 ?_ | refine RD.v8 ?_ | refine RD.v9 ?_ | refine RD.v10 ?_ | refine RD.v11 ?_ | refine RD.g0 ?_ | refine RD.g1 ?_ | refine RD.g2 ?_ | refine RD.g3 ?_ | refine RD.g4 ?_ | refine RD.g5 ?_ | refine RD.g6 ?_ | refine RD.g7 ?_ | refine RD.g8 ?_ | refine RD.g9 ?_ | refine RD.g10 ?_ | refine RD.g11 ?_ | refine And.intro (Eq.refl V.non) ?_))
    obtain ⟨k, hk⟩ : ∃ k : Int, k = (if (if (6 : Int) < ((ns.map V.int).length : Int) then 6 else ((ns.map V.int).length : Int)) > 2 then (if (6 : Int) < ((ns.map V.int).length : Int) then 6 else ((ns.map V.int).length : Int)) else 2) := ⟨_, rfl⟩
    have kb : 0 ≤ k ∧ k ≤ 6 := by
      rw [hk]
      constructor <;> repeat' split
      all_goals omega
    refine ⟨_, rfl, a, _, rfl, .inl S, _, _, rfl, _, _, rfl, _, rfl, ?_, ?_, fun D hD => ?_⟩
    · rw [← hk]
      have := kb.1
      omega
    · rw [← hk]
      have := kb.2
      omega
    rw [← hk]
    refine lc_range (lo := 0) (n := k.toNat) (fun i H' => LamX.ExtN H H' ∧ LamX.Tabs (TL K) H' ∧ H' D = some (.lst (List.replicate i (V.bl true)))) ⟨sam_en (.new hD), tabs_s tb (.new hD), upd_same⟩ ?_ ?_
    · rintro i H0 hi ⟨en, t0, e0⟩
      refine ⟨rfl, ?_⟩
      refine tyes ?_
      refine ite_t rfl ?_
      show tCall (spRight K) [] E0 _ [some (.ref a), some (.int (0 + (i : Int)))] H0 _
      repeat (with_reducible (first | refine RD.seq ?_ | refine RD.asg ?_ | refine RD.ret ?_ | refine RD.retN ?_ | refine RD.next ?_ | refine RD.drop ?_ | refine RD.ifS ?_ | refine RD.con ?_ | refine RD.nil ?_ | refine RD.cons ?_ | refine RD.op ?_ | refine RD.un ?_ | refine RD.i0 ?_ | refine RD.iU ?_ | refine RD.test ?_ | refine RD.testE ?_ | refine RD.tb_ ?_ | refine RD.not_ ?_ | refine RD.and_ ?_ | refine RD.or_ ?_ | refine RD.if_ ?_ | refine RD.andV ?_ | refine RD.orV ?_ | refine RD.notV ?_ | refine RD.andE ?_ | refine RD.orE ?_ | refine RD.notE ?_ | refine RD.lst ?_ | refine RD.tup ?_ | refine RD.cb ?_ | refine RD.call ?_ | refine RD.callS ?_ | refine RD.make ?_ | refine RD.makeK ?_ | refine RD.meth ?_ | refine RD.methK ?_ | refine RD.prop ?_ | refine RD.fld ?_ | refine RD.bm ?_ | refine RD.par ?_ | refine RD.forL ?_ | refine RD.v0 ?_ | refine RD.v1 ?_ | refine RD.v2 ?_ | refine RD.v3 ?_ | refine RD.v4 ?_ | refine RD.v5 ?_ | refine RD.v6 ?_ | refine RD.v7 ?_ | refine RD.v8 ?_ | refine RD.v9 ?_ | refine RD.v10 ?_ | refine RD.v11 ?_ | refine RD.g0 ?_ | refine RD.g1 ?_ | refine RD.g2 ?_ | refine RD.g3 ?_ | refine RD.g4 ?_ | refine RD.g5 ?_ | refine RD.g6 ?_ | refine RD.g7 ?_ | refine RD.g8 ?_ | refine RD.g9 ?_ | refine RD.g10 ?_ | refine RD.g11 ?_ | refine And.intro (Eq.refl V.non) ?_))
      have S0 : SqL K H0 a (ns.map V.int) := by
        rcases S with (e | ⟨o, e⟩) | e
        · exact .inl (.inl (en _ _ e (fun _ z => by cases z)))
        · exact .inl (.inr ⟨o, en _ _ e (fun _ z => by cases z)⟩)
        · exact .inr e
      refine ⟨a, ns, _, rfl, S0, by omega, by omega, fun H1 v s1 => ?_⟩
      repeat (with_reducible (first | refine RD.seq ?_ | refine RD.asg ?_ | refine RD.ret ?_ | refine RD.retN ?_ | refine RD.next ?_ | refine RD.drop ?_ | refine RD.ifS ?_ | refine RD.con ?_ | refine RD.nil ?_ | refine RD.cons ?_ | refine RD.op ?_ | refine RD.un ?_ | refine RD.i0 ?_ | refine RD.iU ?_ | refine RD.test ?_ | refine RD.testE ?_ | refine RD.tb_ ?_ | refine RD.not_ ?_ | refine RD.and_ ?_ | refine RD.or_ ?_ | refine RD.if_ ?_ | refine RD.andV ?_ | refine RD.orV ?_ | refine RD.notV ?_ | refine RD.andE ?_ | refine RD.orE ?_ | refine RD.notE ?_ | refine RD.lst ?_ | refine RD.tup ?_ | refine RD.cb ?_ | refine RD.call ?_ | refine RD.callS ?_ | refine RD.make ?_ | refine RD.makeK ?_ | refine RD.meth ?_ | refine RD.methK ?_ | refine RD.prop ?_ | refine RD.fld ?_ | refine RD.bm ?_ | refine RD.par ?_ | refine RD.forL ?_ | refine RD.v0 ?_ | refine RD.v1 ?_ | refine RD.v2 ?_ | refine RD.v3 ?_ | refine RD.v4 ?_ | refine RD.v5 ?_ | refine RD.v6 ?_ | refine RD.v7 ?_ | refine RD.v8 ?_ | refine RD.v9 ?_ | refine RD.v10 ?_ | refine RD.v11 ?_ | refine RD.g0 ?_ | refine RD.g1 ?_ | refine RD.g2 ?_ | refine RD.g3 ?_ | refine RD.g4 ?_ | refine RD.g5 ?_ | refine RD.g6 ?_ | refine RD.g7 ?_ | refine RD.g8 ?_ | refine RD.g9 ?_ | refine RD.g10 ?_ | refine RD.g11 ?_ | refine And.intro (Eq.refl V.non) ?_))
      refine ⟨v, rfl, fun H2 p s2 np pu => ?_⟩
      repeat (with_reducible (first | refine RD.seq ?_ | refine RD.asg ?_ | refine RD.ret ?_ | refine RD.retN ?_ | refine RD.next ?_ | refine RD.drop ?_ | refine RD.ifS ?_ | refine RD.con ?_ | refine RD.nil ?_ | refine RD.cons ?_ | refine RD.op ?_ | refine RD.un ?_ | refine RD.i0 ?_ | refine RD.iU ?_ | refine RD.test ?_ | refine RD.testE ?_ | refine RD.tb_ ?_ | refine RD.not_ ?_ | refine RD.and_ ?_ | refine RD.or_ ?_ | refine RD.if_ ?_ | refine RD.andV ?_ | refine RD.orV ?_ | refine RD.notV ?_ | refine RD.andE ?_ | refine RD.orE ?_ | refine RD.notE ?_ | refine RD.lst ?_ | refine RD.tup ?_ | refine RD.cb ?_ | refine RD.call ?_ | refine RD.callS ?_ | refine RD.make ?_ | refine RD.makeK ?_ | refine RD.meth ?_ | refine RD.methK ?_ | refine RD.prop ?_ | refine RD.fld ?_ | refine RD.bm ?_ | refine RD.par ?_ | refine RD.forL ?_ | refine RD.v0 ?_ | refine RD.v1 ?_ | refine RD.v2 ?_ | refine RD.v3 ?_ | refine RD.v4 ?_ | refine RD.v5 ?_ | refine RD.v6 ?_ | refine RD.v7 ?_ | refine RD.v8 ?_ | refine RD.v9 ?_ | refine RD.v10 ?_ | refine RD.v11 ?_ | refine RD.g0 ?_ | refine RD.g1 ?_ | refine RD.g2 ?_ | refine RD.g3 ?_ | refine RD.g4 ?_ | refine RD.g5 ?_ | refine RD.g6 ?_ | refine RD.g7 ?_ | refine RD.g8 ?_ | refine RD.g9 ?_ | refine RD.g10 ?_ | refine RD.g11 ?_ | refine And.intro (Eq.refl V.non) ?_))
      refine ⟨p, rfl, pu, tabs_s t0 (s1.tr s2), fun H3 x3 t3 => ?_⟩
      have np0 : ∀ {b o}, H0 b = some o → b ≠ p := fun {b o} e z => by
        have := s1 _ _ e
        rw [z, np] at this
        cases this
      have e3 : H3 D = some (.lst (List.replicate i (V.bl true))) := x3 _ _ (np0 e0) (s2 _ _ (s1 _ _ e0)) (fun _ z => by cases z)
      refine ⟨_, e3, ?_, fun b o e z => ?_, ?_, ?_⟩
      · rw [List.length_replicate, sizeLine_eq]
        omega
      · have nD : b ≠ D := fun y => by rw [y, hD] at e; cases e
        rw [upd_ne nD]
        have e00 := en _ _ e z
        exact x3 _ _ (np0 e00) (s2 _ _ (s1 _ _ e00)) z
      · exact tabs_l e3 t3 (fun b o n e => by rw [upd_ne n]; exact e)
      · rw [upd_same, List.replicate_succ']
    · rintro H' ⟨en, t, e⟩
      refine ⟨D, List.replicate k.toNat true, rfl, SqL.of (by rw [e, List.map_replicate]), ?_⟩
      have ea : (List.replicate k.toNat true).all id = true := by simp
      rw [ea]
      exact q H'
end
/-! ### the end -/
theorem facts {P : PySem.W.OpenLaw} {w : World} {K : PySem.W.Frag} {h : Heap} {mg : PySem.Str → Option Value} {f : Addr} {CX : CXT} (hP : CX = CX0) (X : K.In h) (G : h.Ns mainGlobals mg) (hfa : mg ("law" : PySem.Str) = some (.ref f)) (c : SaysL fa fn tf ex h K) :
    LawAtG P w K CX 9 63 "_law_cells" mg f h := by
  subst hP
  have T0 : Tx K mg h := ⟨X, G, c.d, c.more⟩
  have ef : f = ga K "law" := by
    have := hfa.symm.trans T0.g_law
    cases this
    rfl
  subst ef
  obtain ⟨fd, F⟩ := T0.f_law
  refine ⟨fd, cs K, spLaw K, fun p hp => ?_, fun p hp => ?_, fun p hp => ?_, fun s u => ?_, fun H a ns hl hb hT hS => ?_, fun base KB GB TB => ?_⟩
  · obtain ⟨q, hq, rfl⟩ : ∃ q ∈ tf, cT K q = p := by
      simp only [cs, List.mem_cons, List.not_mem_nil, or_false] at hp
      rcases hp with rfl | rfl
      · exact ⟨_, List.mem_cons_self, rfl⟩
      · exact ⟨_, List.mem_cons_of_mem _ List.mem_cons_self, rfl⟩
    exact c.empty q hq
  · obtain ⟨q, hq, rfl⟩ : ∃ q ∈ tf, cT K q = p := by
      simp only [cs, List.mem_cons, List.not_mem_nil, or_false] at hp
      rcases hp with rfl | rfl
      · exact ⟨_, List.mem_cons_self, rfl⟩
      · exact ⟨_, List.mem_cons_of_mem _ List.mem_cons_self, rfl⟩
    exact c.out q hq
  · obtain ⟨q, hq, rfl⟩ : ∃ q ∈ tf, cT K q = p := by
      simp only [cs, List.mem_cons, List.not_mem_nil, or_false] at hp
      rcases hp with rfl | rfl
      · exact ⟨_, List.mem_cons_self, rfl⟩
      · exact ⟨_, List.mem_cons_of_mem _ List.mem_cons_self, rfl⟩
    exact PySem.W.codeHd_of_K X (c.hd q hq)
  · have b := FunD.bindsA (ps := ["_law_cells"]) F fun _ _ _ _ _ _ us hl => match us, hl with | [_], _ => rfl
    exact b s [u] rfl
  · refine ⟨a, ns, rfl, hS, fun q hq => ?_, fun _ => rfl⟩
    simp only [TL, List.mem_cons, List.not_mem_nil, or_false] at hq
    rcases hq with rfl | rfl
    · exact LamX.TabS.nil (hT _ List.mem_cons_self)
    · exact LamX.TabS.nil (hT _ (List.mem_cons_of_mem _ List.mem_cons_self))
  · have T : Tx K mg base := ⟨KB, GB, c.d, c.more⟩
    exact k_law T TB F
end My
set_option Elab.async false
set_option maxRecDepth 100000
set_option maxHeartbeats 0
open PySem PySem.W PySem.Calls PyProof.Rows
theorem PySem.Challenge.cw_pagepromise_k47_machines_made_holds : PySem.Challenge.rw_pagepromise_k47_machines_made.Holds := by
  w_on; o_law
  refine HandSHeadRun.head_any (r := OpenLaw.row PySem.Challenge.rw_pagepromise_k47_machines_made) (q := view (OpenLaw.row PySem.Challenge.rw_pagepromise_k47_machines_made).prog [80]) (H := My.hk) (ob := My.ob) (M := 20000) (loose := My.names) (d := HandSHeadRun.topDef (OpenLaw.row PySem.Challenge.rw_pagepromise_k47_machines_made).prog 80) (kwd := []) My.ob_eq
    (by kernel_rfl) (fun s => by kernel_rfl) My.run (by kernel_rfl) (by kernel_rfl) (by kernel_rfl) (by rfl) (by first | assumption | decide +kernel) (by decide +kernel) ⟨rfl, rfl, rfl, rfl, rfl, by decide +kernel⟩ ?hw ?hc
  case hw => w_witness2
  case hc =>
    refine LL.walk_G (l := PySem.Challenge.rw_pagepromise_k47_machines_made) (n := 63) (k := 9) (x := "_law_cells") (CX := fun _ => L2.CX0) rfl (by decide) (by kernel_rfl) ⟨rfl, by decide, by decide⟩ ?F (fun _ _ _ _ _ z => z)
    intro w mg fa h Y G hmg0
    obtain ⟨K, KX, c⟩ := Y
    have hmg : mg ("law" : PySem.Str) = some (.ref fa) := by
      have e : (HandSHeadRun.topDef (OpenLaw.row PySem.Challenge.rw_pagepromise_k47_machines_made).prog 80).name = ("law" : PySem.Str) := by kernel_rfl
      rw [← e]
      exact hmg0
    exact ⟨K, KX, My.facts rfl KX G hmg c⟩
