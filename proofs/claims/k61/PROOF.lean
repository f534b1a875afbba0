import PyProof.Rows.All
import Wide.All
import OpenK.AllK
import Wide.FinOn
import KE.KStateDown
import PyProof.EqAt
import PyProof.EqKinds
import PyProof.TupleCall
import Lean
import HandS.ForMost
import HandS.Exc
import HandS.TryOnly
import HandS.ExcOwn
import HandS.Flow
import HandS.Wide
import HandS.WordsExc
import HandS.Defaults
import HandS.More
import HandS.Head0
import HandS.Head1
import HandS.Head2
import HandS.HeadEnd
import HandS.HeadHook1
import HandS.HeadHook2
import HandS.HeadWalk
import KE.KExcSuper
import KE.KExcIs
import HandS.ExcValue
import HandS.Deep
import HandS.IsInst
import PyProof.ReprRoads
import PyProof.CallFns
import HandS.Conv
import HandS.Text
import PySem.Challenge.RW_somesuchthing_k61_every_error_by_itself
set_option Elab.async false
set_option linter.all false
set_option maxRecDepth 100000
set_option maxHeartbeats 4000000
/-! Values and a store of objects, evaluated; how they stand for the layer's values and heap. -/
namespace L2.Ev
open PySem PySem.Spec PyProof.Rows

/-- a value: numbers, texts, tuples and errors by what they hold; a changing thing by its place in the store -/
inductive D where
  | non | bl (b : Bool) | int (i : Int) | str (x : Str)
  | tup (xs : List D)
  | exc (c : Str) (v : D)
  | ro (xs : List D)
  | obj (n : Nat)
  | glo (x : Str)
  | ty (n : String)
  deriving Inhabited
/-- a changing thing -/
inductive O where
  | lst (xs : List D)
  | dct (kvs : List (Key × D))
  | ins (c : Str) (fs : List (Str × D))
  | gone
  deriving Inhabited
abbrev Sto := List O
/-- the end of an evaluation -/
inductive Out (α : Type) where
  | val (a : α) (st : Sto)
  | exc (c : Str) (v : D) (st : Sto)
  | bad
def Out.bind {α β : Type} (x : Out α) (f : α → Sto → Out β) : Out β := match x with
  | .val a st => f a st
  | .exc c v st => .exc c v st
  | .bad => .bad
abbrev Env' := List (Option D)
/-- what the text's functions do -/
abbrev Fn := Str → List D → Sto → Out D

/-- what a global name that the program's own text binds stands at -/
abbrev gA (K : PySem.W.Frag) (x : Str) : Addr := He.ga K x
/-- an error that is held: its class, its own dict -/
def exH (C dd a : Addr) : HO := .ext fun h => ∃ (oe : Obj) (vs : Array Value), h.get? a = some oe ∧ oe.cls = .ref C ∧ oe.dict = some dd ∧ oe.data = .fields vs
/-- a list that is only read: locked, or of the module's -/
def RoL (K : PySem.W.Frag) (H : Hp) (a : Addr) (xs : List V) : Prop :=
  (∃ o, H a = some (.frz o (.lst xs))) ∨ (∃ (its : List Value) (n : Nat), K.lookup a = some { cls := .type "list", data := .seq its.toArray n } ∧ its.length ≤ sizeLine ∧ Vals xs its)
theorem RoL.sq {K : PySem.W.Frag} {H : Hp} {a : Addr} {xs : List V} (h : RoL K H a xs) : SqL K H a xs := by
  rcases h with h | h
  · exact .inl (.inr h)
  · obtain ⟨its, n, h1, h2, h3⟩ := h
    exact .inr ⟨_, its.toArray, n, h1, rfl, rfl, rfl, by simpa using h2, by simpa using h3⟩

/-- a changing thing of the layer -/
def isSt : HO → Bool
  | .lst _ => true
  | .dK _ => true
  | .ins _ _ _ => true
  | _ => false
section
variable (K : PySem.W.Frag) (ι : List Addr) (H : Hp)
mutual
def RD : D → V → Prop
  | .non, v => v = .non
  | .bl b, v => v = .bl b
  | .int i, v => v = .int i
  | .str x, v => v = .str x
  | .tup xs, v => ∃ a vs, v = .ref a ∧ SqT K H a vs ∧ RDs xs vs
  | .exc c d, v => ∃ a dd w, v = .ref a ∧ H a = some (exH (gA K c) dd a) ∧ H dd = some (.xd [(("value" : Str), w)]) ∧ RD d w
  | .ro xs, v => ∃ a vs, v = .ref a ∧ RoL K H a vs ∧ RDs xs vs
  | .obj n, v => ∃ a, v = .ref a ∧ ι[n]? = some a
  | .glo x, v => v = .ref (gA K x)
  | .ty n, v => v = .ty n
def RDs : List D → List V → Prop
  | [], vs => vs = []
  | x :: xs, vs => ∃ y ys, vs = y :: ys ∧ RD x y ∧ RDs xs ys
end
/-- keys with values -/
def RKv : List (Key × D) → List (Key × V) → Prop
  | [], vs => vs = []
  | (k, d) :: r, vs => ∃ v vr, vs = (k, v) :: vr ∧ RD K ι H d v ∧ RKv r vr
def RFs : List (Str × D) → List (Str × V) → Prop
  | [], vs => vs = []
  | (k, d) :: r, vs => ∃ v vr, vs = (k, v) :: vr ∧ RD K ι H d v ∧ RFs r vr
def RO (a : Addr) : O → Prop
  | .lst xs => ∃ vs, H a = some (.lst vs) ∧ RDs K ι H xs vs
  | .dct kvs => ∃ vs, H a = some (.dK vs) ∧ RKv K ι H kvs vs
  | .ins c fs => ∃ dx vs, H a = some (.ins (gA K c) dx vs) ∧ RFs K ι H fs vs
  | .gone => ∃ u, H a = some u ∧ isSt u = false
end
structure RSto (K : PySem.W.Frag) (ι : List Addr) (st : Sto) (H : Hp) : Prop where
  len : ι.length = st.length
  nd : ι.Nodup
  at_ : ∀ (i : Nat) a o, ι[i]? = some a → st[i]? = some o → RO K ι H a o
theorem RO.st {K : PySem.W.Frag} {ι : List Addr} {H : Hp} {a : Addr} {o : O} (h : RO K ι H a o) : ∃ u, H a = some u := by
  cases o with
  | lst xs => obtain ⟨vs, e, _⟩ := h; exact ⟨_, e⟩
  | dct xs => obtain ⟨vs, e, _⟩ := h; exact ⟨_, e⟩
  | ins c fs => obtain ⟨dx, vs, e, _⟩ := h; exact ⟨_, e⟩
  | gone => obtain ⟨u, e, _⟩ := h; exact ⟨_, e⟩
section
variable {K : PySem.W.Frag} {ι ι1 ι2 : List Addr} {st st1 : Sto} {H H1 H2 : Hp}
theorem RSto.of_mem (r : RSto K ι st H) {a : Addr} (h : a ∈ ι) : ∃ u, H a = some u := by
  obtain ⟨i, hi, e⟩ := List.mem_iff_getElem.mp h
  have hi2 : i < st.length := by rw [← r.len]; exact hi
  exact (r.at_ i a st[i] (by rw [List.getElem?_eq_getElem hi, e]) (by rw [List.getElem?_eq_getElem hi2])).st
theorem RSto.fresh (r : RSto K ι st H) {a : Addr} (h : H a = none) : a ∉ ι := fun z => by
  obtain ⟨u', e⟩ := r.of_mem z
  rw [h] at e
  cases e
theorem RSto.lt (r : RSto K ι st H) {i : Nat} {o : O} (h : st[i]? = some o) : ∃ a, ι[i]? = some a := by
  have hi : i < st.length := (List.getElem?_eq_some_iff.mp h).1
  exact ⟨ι[i]'(by rw [r.len]; exact hi), List.getElem?_eq_getElem _⟩
/-- the heap went on: new things at new places; what is no live thing of the store stands as it was -/
structure Evo (ι : List Addr) (H : Hp) (ι' : List Addr) (H' : Hp) : Prop where
  pre : ∃ l, ι' = ι ++ l ∧ ∀ a ∈ l, H a = none
  keep : ∀ b o, (b ∉ ι ∨ isSt o = false) → H b = some o → H' b = some o
/-- what values lean on is kept -/
structure Kp (ι : List Addr) (H : Hp) (ι' : List Addr) (H' : Hp) : Prop where
  ge : ∀ (n : Nat) a, ι[n]? = some a → ι'[n]? = some a
  keep : ∀ b o, isSt o = false → H b = some o → H' b = some o
theorem Evo.refl : Evo ι H ι H := ⟨⟨[], by simp, by simp⟩, fun _ _ _ h => h⟩
theorem Evo.ge (e : Evo ι H ι1 H1) {n : Nat} {a : Addr} (h : ι[n]? = some a) : ι1[n]? = some a := by
  obtain ⟨l, rfl, _⟩ := e.pre
  have hi : n < ι.length := (List.getElem?_eq_some_iff.mp h).1
  rw [List.getElem?_append_left hi]
  exact h
theorem Evo.kp (e : Evo ι H ι1 H1) : Kp ι H ι1 H1 := ⟨fun _ _ h => e.ge h, fun b o n h => e.keep b o (.inr n) h⟩
theorem Evo.trans (r : RSto K ι1 st1 H1) (a : Evo ι H ι1 H1) (b : Evo ι1 H1 ι2 H2) : Evo ι H ι2 H2 := by
  obtain ⟨⟨l, rfl, hl⟩, ka⟩ := a
  obtain ⟨⟨m, rfl, hm⟩, kb⟩ := b
  refine ⟨⟨l ++ m, by rw [List.append_assoc], fun x hx => ?_⟩, fun x o hx e => ?_⟩
  · rcases List.mem_append.mp hx with h | h
    · exact hl x h
    · cases e : H x with
      | none => rfl
      | some u =>
        by_cases z : x ∈ ι
        · exact absurd h (fun _ => by
            obtain ⟨u', e'⟩ := r.of_mem (List.mem_append_left l z)
            rw [hm x h] at e'
            cases e')
        · have := ka x u (.inl z) e
          rw [hm x h] at this
          cases this
  · refine kb x o (hx.imp_left fun hx z => ?_) (ka x o hx e)
    rcases List.mem_append.mp z with h | h
    · exact hx h
    · rw [hl x h] at e
      cases e
end
end L2.Ev

/-! An error class over SayError, called: what the heap has then. -/
namespace L2.Ev
open PySem PySem.Spec PyProof.Rows PySem.W PySem.Calls PySem.HandSPX

/-- the text of SayError.__init__ -/
def siA (p1 p2 : Pos) : Arguments := { posonlyargs := [], args := [{ arg := "self", annotation := none, pos := p1 }, { arg := "value", annotation := none, pos := p2 }], vararg := none, kwonlyargs := [], kw_defaults := [], kwarg := none, defaults := [] }
def siB (q1 q2 q3 q4 q5 q6 r1 r2 r3 r4 : Pos) : List Stmt :=
  [.Expr (.Call (.Attribute (.Call (.Name "super" q1) [] [] q2) "__init__" q3) [.Name "value" q4] [] q5) q6,
   .Assign [.Attribute (.Name "self" r1) "value" r2] (.Name "value" r3) r4]
def siS : Scope := { kind := .function, names := [(PySem.Str.ofString "self", .local), (PySem.Str.ofString "value", .local), (PySem.Str.ofString "__class__", .free), (PySem.Str.ofString "super", .globalImplicit)], isGenerator := false, isCoroutine := false, more := [] }

/-- SayError at S, its __init__ at fI, the cell of its own class at cc, its code at cda -/
structure SayT (P : Program) (K : Frag) (S fI cc cda : Addr) : Prop where
  fn : ∃ (oc : Value) (od : Option Addr) (doc pm kV : Value) (an : Option Addr) (ct : Value) (osl : Array (Option Value)) (p1 p2 q1 q2 q3 q4 q5 q6 r1 r2 r3 r4 : Pos),
    K.lookup fI = some ⟨oc, od, .func (ksFn "__init__" "SayError.__init__" (siA p1 p2) (siB q1 q2 q3 q4 q5 q6 r1 r2 r3 r4) siS .none kV doc pm an (.ref cda) ct cc), osl⟩ ∧ (q3.endLine == q5.line) = true
  cd : codeIn K (.ref cda) "SayError.__init__" = true
  code : ∃ (ccl : Value) (cdd : Option Addr) (vs : Array Value) (ccs : Array (Option Value)) (file : Str) (tf : Tok), K.lookup cda = some ⟨ccl, cdd, .fields vs, ccs⟩ ∧ vs[2]? = some (.str file tf) ∧ ((P.main.file : Str) == file) = true
  cell : ∃ (cl : Value) (cld : Option Addr) (csl : Array (Option Value)), K.lookup cc = some ⟨cl, cld, .cell (some (.ref S)), csl⟩
  clsS : ∃ cd, clsIn K S = some cd
  opq : nsIn K cStatics "thirdparty.any" = some none
  top : (P.main.scope.names.lookup ("super" : Str)).isSome = false
/-- a class C of errors over SayError (or that itself) -/
structure SayC (K : Frag) (S fI C : Addr) : Prop where
  cls : ∃ nm q N bs bm sn sub ab col dd k0 k1 k2 k3 k5, K.lookup C = some (excClassObj nm q C N bs bm true sn sub ab col dd k0 k1 k2 k3 k5 "ValueError.__new__") ∧ refsVE bm = true ∧ ((Value.ref C :: bm).dropWhile (· != .ref S)).drop 1 = veTail ∧ (Value.ref C :: bm).contains (.ref S) = true
  iC : findIn K (.ref C) "__init__" = some (some (.ref fI))
  tI : typeIn K (.ref fI) = some (.type "function")
  sa : findIn K (.ref C) "__setattr__" = some (some (.builtin "object.__setattr__"))
  ga : findIn K (.ref C) "__getattribute__" = some (some (.builtin "BaseException.__getattribute__"))
  gg : findIn K (.ref C) "__getattr__" = some none
  noV : findIn K (.ref C) "value" = some none
  exC : subIn K (.ref C) (.type "BaseException") = some true
  veC : subIn K (.ref C) (.type "ValueError") = some true
  tyC : typeIn K (.ref C) = some (.type "type")
  kC : keepIn K (.ref C) = true
  hd : hasDictIn K C = true
  ca : findIn K (.ref C) "__class__" = some (some (.builtin "object.__class__"))
  ob : mroIn K C (.type "object") = some true

theorem mcall_eq {o : Expr} {name : Str} {apos pos : Pos} {env : Env} {e : Expr} (hl : (apos.endLine == pos.line) = true) (he : starEach [e] env = [(false, eval e env)] := by rfl) :
    eval (.Call (.Attribute o name apos) [e] [] pos) env = (do
      let ov ← attributeBase o name env (eval o env)
      standAt apos.atName
      let (f, first) ← holding [ov] (getMethod ov name (plainOf o env))
      callWith pos f first (backTo pos (starEach [e] env)) []) := by
  show (do
    let ov ← attributeBase o name env (eval o env)
    standAt apos.atName
    methodCall o name apos pos env ov 1 (backTo pos (starEach [e] env)) []) = _
  have q : ∀ ov, methodCall o name apos pos env ov 1 (backTo pos (starEach [e] env)) [] = (do
      let (f, first) ← holding [ov] (getMethod ov name (plainOf o env))
      callWith pos f first (backTo pos (starEach [e] env)) []) := fun ov => mcall_line (by rw [he]; rfl) hl
  simp only [q]
theorem along_ve (K : Frag) : alongIn K "__init__" veTail = some (some (.builtin "ValueError.__init__")) := by kernel_rfl

/-- what is left of a made error -/
structure SayMade (h h' : Heap) (e C d : Addr) (v : Value) : Prop where
  keep : ∀ b o, h.get? b = some o → h'.get? b = some o
  new : h.objs.size ≤ e
  obj : ∃ oe vs, h'.get? e = some oe ∧ oe.cls = .ref C ∧ oe.dict = some d ∧ oe.data = .fields vs ∧ vs[1]? = some .none ∧ vs[2]? = some .none ∧ 4 < vs.size
  dbig : h.objs.size ≤ d
  dne : d ≠ e
  ns : h'.Ns1 d (fun y => if y = "value" then some v else none)

theorem one_sz (v : Value) : [v].length ≤ sizeLine := by
  rw [sizeLine_eq]
  exact (by decide : 1 ≤ 16777216)

section
variable {prog : Program} {w : World} {A : Around} {E : Value → Shared → Prop} {R : Result → Shared → Prop} {s : Shared} {K : Frag} {mg mb : Str → Option Value} {S fI cc cda C : Addr}

/-- the bound ValueError.__init__ called -/
theorem call_mw {u e t0 : Addr} {h : Heap} {g : Array GenState} {d : Drawn} {t : Nat} {os : OsState} {rest : List Value} {Q : Value → Shared → Prop}
    {nm q : Str} {N : Addr} {bs bm : List Value} {hdct : Bool} {sn : List Str} {sub : List Value} {ab : Bool} {col : Option Bool} {dd : Option Addr} {k0 k1 k2 k3 k5 : Option Value}
    (hC : h.get? C = some (excClassObj nm q C N bs bm hdct sn sub ab col dd k0 k1 k2 k3 k5 "ValueError.__new__")) (he : h.get? e = some (excO C t0)) (hu : h.get? u = some (kxs_mw "ValueError.__init__" e)) (hrest : rest.length ≤ sizeLine)
    (hq : ∀ h' t1, (∀ b o, b ≠ e → h.get? b = some o → h'.get? b = some o) → h'.get? e = some (excO C t1) → Q .none ⟨h', g, d, t, os⟩) :
    wpAny (model prog w) A (call (.ref u) rest) Q E ⟨h, g, d, t, os⟩ := by
  refine wpAny_call (codeAny_of_tree ?_)
  show wpAny _ A.in1 (callAny (.ref u) ⟨rest, []⟩) _ _ _
  simp only [callAny]
  refine wpAny_bind (wpAny_load hu ?_)
  simp only [kxs_mw, show (Value.type "method-wrapper" == Value.type "method" || Value.type "method-wrapper" == Value.type "builtin_function_or_method" || Value.type "method-wrapper" == Value.type "method-wrapper") = true by decide, if_true]
  refine KFB.if_so (by decide) ?_
  refine wpAny_bind (check_bound_init F.excBase_ValueError.toExcCallFacts hC he rfl ?_)
  refine wpAny_bind (wpAny_pure (wpAny_pure ?_))
  refine ⟨plainId_quiet F.excBase_ValueError.init.plain _, codeAny_builtin F.excBase_ValueError.initEntry ?_⟩
  rw [Around.under_plainId F.excBase_ValueError.init.plain _]
  wp_walk
  refine hq _ h.objs.size (fun b o hb ho => ?_) ?_
  · rw [Heap.get?_update_other _ _ (Ne.symm hb)]
    exact Heap.get?_push_of_some _ ho
  · rw [Heap.get?_update_self _ (Heap.get?_push_of_some _ he) rfl]
    rfl

theorem say_init (T : SayT prog K S fI cc cda) (TC : SayC K S fI C) {x t0 : Addr} {v : Value} (X : K.In s.heap) (hg : s.heap.Ns mainGlobals mg) (hms : mg "super" = none) (hb : s.heap.Ns builtinsNs mb) (hbb : mb "super" = some (.type "super")) (hlim : s.heap.NoLimit)
    (hx : s.heap.get? x = some (excO C t0)) (hnx : K.lookup x = none) (hxg : x ≠ mainGlobals) (hroom : A.depth < recursionLimit)
    (hq : ∀ h' tk dx t1, (∀ b o, b ≠ x → s.heap.get? b = some o → h'.get? b = some o) → h'.get? x = some { cls := .ref C, dict := some dx, data := .fields #[.ref t1, .none, .none, .none, .bool false, .none] } → s.heap.objs.size ≤ dx → dx ≠ x →
      h'.Ns1 dx (fun y => if y = "value" then some v else none) → R (.ok (.ret .none)) { s with heap := h', toks := tk }) :
    codeAny (model prog w) A (.call (.ref fI) ⟨[.ref x, v], []⟩) R s := by
  obtain ⟨oc, od, doc, pm, kV, an, ct, osl, p1, p2, q1, q2, q3, q4, q5, q6, r1, r2, r3, r4, ho, hline⟩ := T.fn
  obtain ⟨nm, q, N, bs, bm, sn, sub, ab, col, dd, k0, k1, k2, k3, k5, hC, hbm, hdrop, hhas⟩ := TC.cls
  obtain ⟨ccl, cdd, vs, ccs, file, tf, hcode, hvs, hfile⟩ := T.code
  obtain ⟨cl, cld, csl, hcell⟩ := T.cell
  obtain ⟨cdS, hS⟩ := T.clsS
  have hcl : clsIn K C = some { name := nm, bases := bs, mro := .ref C :: bm, ns := N, qualname := q, hasDict := true, slotNames := sn, subclasses := sub, abstract := ab, collection := col, hasDel := false } := by unfold clsIn; rw [hC] <;> rfl
  have hcell0 : ∀ x ∈ siS.names, x.2 ≠ NameKind.cell := by decide +kernel
  refine ks_codeAny_call_defAt (fd := ksFn "__init__" "SayError.__init__" (siA p1 p2) (siB q1 q2 q3 q4 q5 q6 r1 r2 r3 r4) siS .none kV doc pm an (.ref cda) ct cc) (binds := [("self", .ref x), ("value", v)]) hroom (X _ _ ho) rfl hlim (codeRec_of X T.cd) rfl (BindsTo.of_eq (by first | rfl | with_unfolding_all rfl)) hcell0 (locs rfl) (fun h₀ hns kp => ?_) rfl rfl rfl
  have hL : s.heap.objs.size ≠ x := Nat.ne_of_gt (Heap.lt_size hx)
  generalize hLe : s.heap.objs.size = L at hns ⊢
  show _root_.PySem.wpAt (model prog w) (A.deeper (ksEnv "SayError.__init__" siS L fI (.ref cda) cc)) (.func (siB q1 q2 q3 q4 q5 q6 r1 r2 r3 r4) (ksEnv "SayError.__init__" siS L fI (.ref cda) cc)) (execs (siB q1 q2 q3 q4 q5 q6 r1 r2 r3 r4) (ksEnv "SayError.__init__" siS L fI (.ref cda) cc)) _ _ _
  refine ks_wpAt_execs_cons (ks_wpAt_Expr_any ?_ rfl rfl)
  refine ks_wpAt_MethodCall ?_ (mcall_eq hline)
  have X0 : K.In h₀ := X.keeps kp
  have hx0 := kp _ _ hx
  have hS0 : ∃ oS, h₀.get? S = some oS ∧ oS.data = .cls cdS := by
    unfold clsIn at hS
    split at hS
    · rename_i c d cd' sl ho
      cases hS
      exact ⟨_, X0 _ _ ho, rfl⟩
    · cases hS
  obtain ⟨oS, hS1, hS2⟩ := hS0
  have msub : mroIn K C (.ref S) = some true := by
    unfold mroIn
    rw [hcl, Option.bind_some, if_neg (show ¬ (List.isEmpty (Value.ref C :: bm) = true) from Bool.false_ne_true), hhas]
  refine ks_wpAt_super_base (env := ksEnv "SayError.__init__" siS L fI (.ref cda) cc) (ar := { arg := "self", annotation := none, pos := p1 }) rfl rfl rfl rfl (X0 _ _ ho) rfl rfl rfl (X0 _ _ hcode) rfl hvs hfile T.top ?_
  refine ks_loadName_global rfl rfl (loadGlobal_builtin (env := ksEnv "SayError.__init__" siS L fI (.ref cda) cc) (hg.keeps kp) hms (hb.keeps kp) hbb ⟨rfl, ?_⟩)
  refine wpAny_loadName_free (env := ksEnv "SayError.__init__" siS L fI (.ref cda) cc) rfl rfl rfl ⟨_, X0 _ _ hcell, rfl⟩ ?_
  refine wpAny_loadName_local (env := ksEnv "SayError.__init__" siS L fI (.ref cda) cc) rfl rfl hns rfl ?_
  obtain ⟨hh, g, d, t, os⟩ := s
  refine ks_wpAny_isType_cls hS1 hS2 ⟨rfl, ?_⟩
  have subS : Looks (model prog w) h₀ (isSubtype (.ref C) (.ref S)) true := looks_mroIn X0 msub
  refine ks_wpAny_call_super hS1 hS2 hx0 rfl (fun c e => by cases e) subS (fun h1 e1 k1 => ?_)
  -- super().__init__
  have X1 : K.In h1 := X0.keeps k1
  have hx1 := k1 _ _ hx0
  have hmro : Looks (model prog w) h1 (mroOf (.ref C)) (.ref C :: bm) := (looks_clsIn X1 hcl).andThen .now
  have I1 : InstAt h1 x (excO C t0) C none := ⟨hx1, rfl, rfl, trivial⟩
  have hxC : x ≠ C := fun z => by
    have := X1 _ _ hC
    rw [← z, hx1] at this
    cases this
  have hI : Looks (model prog w) h1 (isInstance (.ref x) (.type "ValueError")) true := I1.type.andThen (looks_subIn X1 TC.veC)
  refine kxs_getMethod kxs_ValueError e1 (looks_opaque X1 T.opq) hmro hdrop X1 (along_ve K) hI hxC rfl ?_
  -- the arguments
  have lt1 : h₀.objs.size ≤ h1.objs.size := by
    rcases Nat.lt_or_ge h1.objs.size h₀.objs.size with z | z
    · exact absurd (Heap.lt_size e1) (Nat.not_lt.mpr (Nat.le_of_lt z))
    · exact z
  have k2 : ∀ b o, h1.get? b = some o → (h1.push (kxs_mw "ValueError.__init__" x)).get? b = some o := fun b o e => Heap.get?_push_of_some _ e
  have hu : (h1.push (kxs_mw "ValueError.__init__" x)).get? h1.objs.size = some (kxs_mw "ValueError.__init__" x) := Heap.get?_push_size h1 rfl
  have kA : ∀ b o, h₀.get? b = some o → (h1.push (kxs_mw "ValueError.__init__" x)).get? b = some o := fun b o e => k2 b o (k1 b o e)
  refine kxs_callWith (i := "ValueError.__init__") (x := x) (first := []) (by first | rfl | with_unfolding_all rfl) ?_
  refine evalArgs_plain ?_
  show wpAny _ _ (spliced ((false, eval (.Name "value" q4) (ksEnv "SayError.__init__" siS L fI (.ref cda) cc)) :: backTo q5 (starEach [] (ksEnv "SayError.__init__" siS L fI (.ref cda) cc)))) _ _ _
  refine Calls.spliced_cons ?_
  refine wpAny_Name (wpAny_loadName_local (env := ksEnv "SayError.__init__" siS L fI (.ref cda) cc) (v := v) rfl rfl (hns.keeps kA) rfl ?_) rfl
  refine Calls.spliced_nil ⟨hu, ?_⟩
  refine call_mw (C := C) (k2 _ _ (X1 _ _ hC)) (k2 _ _ hx1) hu (one_sz v) fun h3 t1 k3 hx3 => ?_
  -- self.value = value
  have kB : ∀ b o, b ≠ x → h₀.get? b = some o → h3.get? b = some o := fun b o hb e => k3 b o hb (kA b o e)
  have hgx : L ≠ x := fun z => hL (hLe.trans z)
  have hns3 : h3.Ns L (fun x_1 => List.lookup x_1 [(Str.ofString "self", Value.ref x), (Str.ofString "value", v)].reverse) := by
    obtain ⟨oL, es, ep, hL0, r⟩ := hns
    exact ⟨oL, es, ep, kB _ _ hgx hL0, r⟩
  have X3 : K.In h3 := fun b o e => kB b o (fun z => by rw [z, hnx] at e; cases e) (X0 b o e)
  dsimp only
  refine ks_wpAt_execs_cons (ks_wpAt_Assign_Attr (wpAt_of_wpAny ?_) rfl)
  refine wpAny_Name (wpAny_loadName_local (env := ksEnv "SayError.__init__" siS L fI (.ref cda) cc) (v := v) rfl rfl hns3 rfl ?_) rfl
  refine wpAny_Name (wpAny_loadName_local (env := ksEnv "SayError.__init__" siS L fI (.ref cda) cc) (v := .ref x) rfl rfl hns3 rfl ?_) rfl
  refine set_plain X3 (ox := excO C t1) (od := none) ⟨hx3, rfl, rfl, trivial⟩ TC.sa ?_
  refine exc_osa X3 hx3 hcl (show refsVE (.ref C :: bm) = true from hbm) rfl TC.noV (fun h4 tk4 dx k4 dn dne hx4 hn4 => ?_)
  refine wpAt_of_wpAny (wpAny_execs_nil ?_)
  have big : hh.objs.size ≤ dx := by
    have z1 : hh.objs.size < h₀.objs.size := by
      obtain ⟨oL, es, ep, hL0, r⟩ := hns
      have := Heap.lt_size hL0
      rw [← hLe] at this
      exact this
    have z2 : h1.objs.size < h3.objs.size := Heap.lt_size (k3 _ _ (fun z => by rw [z] at hu; rw [hu] at *; exact absurd (Heap.lt_size hx1) (by rw [z]; exact Nat.lt_irrefl _)) hu)
    exact Nat.le_trans (Nat.le_of_lt z1) (Nat.le_trans lt1 (Nat.le_trans (Nat.le_of_lt z2) dn))
  exact hq h4 tk4 dx t1 (fun b o hb e => k4 b o hb (kB b o hb (kp b o e))) hx4 big dne hn4

/-- C(v) -/
theorem say_made (T : SayT prog K S fI cc cda) (TC : SayC K S fI C) {v : Value} (X : K.In s.heap) (hg : s.heap.Ns mainGlobals mg) (hms : mg "super" = none) (hb : s.heap.Ns builtinsNs mb) (hbb : mb "super" = some (.type "super")) (hlim : s.heap.NoLimit) (hroom : A.depth + 1 < recursionLimit)
    (hq : ∀ h' tk e d, SayMade s.heap h' e C d v → R (.ok (.ret (.ref e))) { s with heap := h', toks := tk }) :
    codeAny (model prog w) A (.call (.ref C) ⟨[v], []⟩) R s := by
  obtain ⟨nm, q, N, bs, bm, sn, sub, ab, col, dd, k0, k1, k2, k3, k5, hC, hbm, _⟩ := TC.cls
  obtain ⟨hp, g, dr, tk, os⟩ := s
  have k : ∀ b o, hp.get? b = some o → ((hp.push (kdv_tup [v])).push (excO C hp.objs.size)).get? b = some o := fun b o e => Heap.get?_push_of_some _ (Heap.get?_push_of_some _ e)
  have hget : ((hp.push (kdv_tup [v])).push (excO C hp.objs.size)).get? (hp.objs.size + 1) = some (excO C hp.objs.size) := by heap_get
  have hnx : K.lookup (hp.objs.size + 1) = none := by
    cases e : K.lookup (hp.objs.size + 1) with
    | none => rfl
    | some o =>
      have z : hp.get? (hp.objs.size + 1) = some o := X _ _ e
      exact absurd (Nat.lt_of_succ_lt (Heap.lt_size z)) (Nat.lt_irrefl _)
  have hxg : hp.objs.size + 1 ≠ mainGlobals := fun z => by
    have := hg.lt
    rw [← z] at this
    exact absurd (Nat.lt_of_succ_lt this) (Nat.lt_irrefl _)
  refine call_own F.excBase_ValueError (fun X => refsVE_contains X bm hbm) (X _ _ hC) (looks_findIn X TC.iC) (fun self => bind_fn X self TC.tI) (one_sz v) ?_
  refine say_init (s := ⟨(hp.push (kdv_tup [v])).push (excO C hp.objs.size), g, dr, tk, os⟩) T TC (X.keeps k) (hg.keeps k) hms (hb.keeps k) hbb (hlim.keeps k) hget hnx hxg ?_ fun h' tk' dx t1 k' hx dn dne hns => ?_
  · show A.depth + 1 < recursionLimit
    exact hroom
  · have old : ∀ b o, hp.get? b = some o → h'.get? b = some o := fun b o e => k' b o (Nat.ne_of_lt (Nat.lt_succ_of_lt (Heap.lt_size e))) (k b o e)
    have z : hp.objs.size + 1 + 1 ≤ dx := by
      first
        | (simpa only [Heap.size_push] using dn)
        | exact dn
        | (have q := dn; rw [Heap.size_push, Heap.size_push] at q; exact q)
    exact ⟨rfl, hq h' tk' (hp.objs.size + 1) dx ⟨old, Nat.le_succ _, ⟨_, _, hx, rfl, rfl, rfl, rfl, rfl, (by show 4 < 6; omega)⟩, Nat.le_trans (Nat.le_trans (Nat.le_succ _) (Nat.le_succ _)) z, dne, hns⟩⟩
end
end L2.Ev

/-! An error made as a value, an error raised: rules of the layer. -/
namespace L2.Ev
open PySem PySem.Spec PyProof.Rows

theorem relO_val {v : V} {v' : Value} (r : RelV v v') (f : Str) : RelO (List.lookup f [(("value" : Str), v)]) (if f = "value" then some v' else none) := by
  by_cases hw : f = "value"
  · subst hw
    rw [if_pos rfl]
    have q : List.lookup ("value" : Str) [(("value" : Str), v)] = some v := by simp [List.lookup]
    rw [q]
    exact r
  · rw [if_neg hw]
    have qw : (f == ("value" : Str)) = false := by simpa using hw
    have q2 : List.lookup f [(("value" : Str), v)] = none := by simp [List.lookup, qw]
    rw [q2]
    trivial
theorem boot_super : bootBuiltins "super" = some (.type "super") := by decide +kernel
theorem exH_ok {P : Program} {w : World} {H : Hp} {h : Heap} {C d a : Addr} (x : ∃ oe vs, h.get? a = some oe ∧ oe.cls = .ref C ∧ oe.dict = some d ∧ oe.data = .fields vs) : ObjOk P w H h a (exH C d a) := by
  obtain ⟨oe, vs, h1, h2, h3, h4⟩ := x
  exact ⟨⟨oe, vs, h1, h2, h3, h4⟩, ⟨oe, h1⟩, fun g1 g2 ⟨o, u, q1, q2, q3, q4⟩ st => ⟨o, u, st o q1, q2, q3, q4⟩⟩

section
variable {X : Cx} {S fI cc cda C : Addr}
/-- C(e) is called: the value, the heap with the error -/
theorem run_say {pins : List (Addr × Obj)} {s1 : Shared} {σ : St} {H1 : Hp} {v : V} {v' : Value} {Q : Value → Shared → Prop} {E : Value → Shared → Prop} (T : SayT X.prog X.K S fI cc cda) (TC : SayC X.K S fI C) (hs : X.mg "super" = none) (hdp : X.A.depth + 1 < recursionLimit) (I1 : Inv X pins σ H1 s1) (rv : RelV v v')
    (hq : ∀ (h' : Heap) (tk : Nat) (e d : Addr) (oe : Obj) (fv : Array Value) (G : Heap), H1 e = none → H1 d = none → d ≠ e → Inv X pins σ (upd H1 d (.xd [(("value" : Str), v)])) { s1 with heap := G, toks := tk } →
      (∀ b o, G.get? b = some o → h'.get? b = some o) → G.get? e = none → h'.get? e = some oe → oe.cls = .ref C → oe.dict = some d → oe.data = .fields fv → fv[1]? = some .none → Q (.ref e) { s1 with heap := h', toks := tk }) :
    wpAny (model X.prog X.w) X.A (call (.ref C) [v']) Q E s1 := by
  have hlim := I1.nolimit
  obtain ⟨mb, hb1, hb2⟩ := I1.mod.blt
  refine wpAny_call (say_made T TC I1.kIn (I1.mod.glob.keeps I1.bk) hs (hb1.keeps I1.bk) ((hb2 "super" (by decide)).trans boot_super) hlim hdp fun h' tk' e d M => ?_)
  obtain ⟨hp, g, dr, tk, os⟩ := s1
  obtain ⟨oe, fv, hoe, hc, hd, hdat, h1, _⟩ := M.obj
  have hns := M.ns
  obtain ⟨G', g1, g2⟩ := restrict h' fun b => decide (b ≠ e)
  have gk : ∀ b, b ≠ e → G'.get? b = h'.get? b := fun b hb => g1 b (decide_eq_true hb)
  have ge : G'.get? e = none := g2 e (by simp)
  have old : ∀ b o, hp.get? b = some o → G'.get? b = some o := fun b o q => (gk b (Nat.ne_of_lt (Nat.lt_of_lt_of_le (Heap.lt_size q) M.new))).trans (M.keep b o q)
  have ob : ObjOk X.prog X.w (upd H1 d (.xd [(("value" : Str), v)])) G' d (.xd [(("value" : Str), v)]) :=
    ⟨_, hns.at (fun o q => (gk d M.dne).trans q), fun f => relO_val rv f⟩
  have J : Inv X pins σ (upd H1 d (.xd [(("value" : Str), v)])) ⟨G', g, dr, tk', os⟩ := I1.laid (t' := tk') old M.dbig ob
  refine hq h' tk' e d oe fv G' (I1.hok.fresh M.new) (I1.hok.fresh M.dbig) M.dne J (fun b o q => ?_) ge hoe hc hd hdat h1
  by_cases hb : b = e
  · rw [hb, ge] at q
    cases q
  · exact (gk b hb).symm.trans q
/-- C(e) as a value -/
def rSay (K : PySem.W.Frag) (C : Addr) : List V → Hp → VK → Prop := fun vs H Q => ∃ v, vs = [v] ∧ ∀ e d, H e = none → H d = none → d ≠ e → Q (.ref e) (upd (upd H d (.xd [(("value" : Str), v)])) e (exH C d e))
theorem call_say (T : SayT X.prog X.K S fI cc cda) (TC : SayC X.K S fI C) (hs : X.mg "super" = none) (hdp : X.A.depth + 1 < recursionLimit) : CallR X (.ref C) (rSay X.K C) := by
  intro pins s σ H xs us Q I r h
  obtain ⟨v, rfl, q⟩ := h
  obtain ⟨u, rfl, rv⟩ := vals1 r
  refine run_say T TC hs hdp I rv fun h' tk e d oe fv G n1 n2 n3 J k ge he hc hd hdat h1 => ?_
  refine ⟨.ref e, _, ?_, rfl, q e d n1 n2 n3⟩
  refine J.laidN (t' := tk) k ge (by rw [upd_ne n3.symm]; exact n1) (exH_ok ⟨oe, fv, he, hc, hd, hdat⟩)
theorem pe_say {x : Str} {p pos : Pos} {a : Expr} {ta : TA} (T : SayT X.prog X.K S fI cc cda) (TC : SayC X.K S fI C) (hs : X.mg "super" = none) (hdp : X.A.depth + 1 < recursionLimit) (hg : Gl X x) (hm : X.mg x = some (.ref C)) (ha : PA X [a] ta)
    (hdb : (x == ("__debug__" : Str)) = false) (he : starEach (a :: []) X.env = (false, eval a X.env) :: starEach [] X.env) : PE X (.Call (.Name x p) [a] [] pos) (tCB (rSay X.K C) ta) := by
  refine ⟨fun pins s σ H Q I h => ?_⟩
  refine wpAny_Call_Name_kw (ld_glob I hg hm ?_ hdb)
  refine PySem.W.callWith_K (h₀ := X.base) I.ok.mod.kin TC.kC (thn (ha.run pos pins s σ H _ I h) fun us s1 hh => ?_) he rfl
  obtain ⟨vs, H1, I1, r1, q⟩ := hh
  exact ⟨I1.kIn, call_say T TC hs hdp pins s1 σ H1 vs us Q I1 r1 q⟩
/-- raise C(e): the error itself is not tracked, its dict is -/
def tMkSay (C : Addr) (ta : TA) : St → Hp → XK → Prop := fun σ H Q => ta σ H fun vs H1 => ∃ v, vs = [v] ∧ ∀ d, H1 d = none → Q (.ref C) (some d) (upd H1 d (.xd [(("value" : Str), v)]))
theorem pmk_say {x : Str} {p pos : Pos} {a : Expr} {ta : TA} (T : SayT X.prog X.K S fI cc cda) (TC : SayC X.K S fI C) (hs : X.mg "super" = none) (hdp : X.A.depth + 1 < recursionLimit) (hg : Gl X x) (hm : X.mg x = some (.ref C)) (ha : PA X [a] ta)
    (hdb : (x == ("__debug__" : Str)) = false) (he : starEach (a :: []) X.env = (false, eval a X.env) :: starEach [] X.env) : PMk X (.Call (.Name x p) [a] [] pos) (tMkSay C ta) := by
  intro pins s σ H Q I h
  refine wpAny_Call_Name_kw (ld_glob I hg hm ?_ hdb)
  refine PySem.W.callWith_K (h₀ := X.base) I.ok.mod.kin TC.kC (thn (ha.run pos pins s σ H _ I h) fun us s1 hh => ?_) he rfl
  obtain ⟨vs, H1, I1, r1, v, rfl, q⟩ := hh
  refine ⟨I1.kIn, ?_⟩
  obtain ⟨u, rfl, rv⟩ := vals1 r1
  refine run_say T TC hs hdp I1 rv fun h' tk e d oe fv G n1 n2 n3 J k ge he hc hd hdat h1 => ?_
  exact ⟨e, oe, fv, _, _, .ref C, some d, rfl, J, k, ge, he, ⟨hc, hd⟩, hdat, h1, by rw [upd_ne n3.symm]; exact n1, rfl, I1.bare, raises_own TC.exC TC.tyC, q d n2⟩
end
end L2.Ev

/-! How readings of the layer follow from evaluations; the values' relation goes on. -/
namespace L2.Ev
open PySem PySem.Spec PyProof.Rows

section
variable {K : PySem.W.Frag} {ι ι1 ι2 : List Addr} {st st1 : Sto} {H H1 H2 : Hp}
theorem sqT_mono (e : Kp ι H ι1 H1) {a : Addr} {vs : List V} (h : SqT K H a vs) : SqT K H1 a vs := by
  rcases h with (h | ⟨o, h⟩) | h
  · exact .inl (.inl (e.keep _ _ rfl h))
  · exact .inl (.inr ⟨o, e.keep _ _ rfl h⟩)
  · exact .inr h
theorem roL_mono (e : Kp ι H ι1 H1) {a : Addr} {vs : List V} (h : RoL K H a vs) : RoL K H1 a vs := by
  rcases h with ⟨o, h⟩ | h
  · exact .inl ⟨o, e.keep _ _ rfl h⟩
  · exact .inr h
mutual
theorem RD.mono (e : Kp ι H ι1 H1) : ∀ (d : D) (v : V), RD K ι H d v → RD K ι1 H1 d v
  | .non, _, h => h
  | .bl _, _, h => h
  | .int _, _, h => h
  | .str _, _, h => h
  | .tup xs, v, ⟨a, vs, h1, h2, h3⟩ => ⟨a, vs, h1, sqT_mono e h2, RDs.mono e xs vs h3⟩
  | .exc c d, v, ⟨a, dd, w, h1, h2, h3, h4⟩ => ⟨a, dd, w, h1, e.keep _ _ rfl h2, e.keep _ _ rfl h3, RD.mono e d w h4⟩
  | .ro xs, v, ⟨a, vs, h1, h2, h3⟩ => ⟨a, vs, h1, roL_mono e h2, RDs.mono e xs vs h3⟩
  | .obj n, v, ⟨a, h1, h2⟩ => ⟨a, h1, e.ge _ _ h2⟩
  | .glo _, _, h => h
  | .ty _, _, h => h
theorem RDs.mono (e : Kp ι H ι1 H1) : ∀ (ds : List D) (vs : List V), RDs K ι H ds vs → RDs K ι1 H1 ds vs
  | [], _, h => h
  | d :: ds, vs, ⟨y, ys, h1, h2, h3⟩ => ⟨y, ys, h1, RD.mono e d y h2, RDs.mono e ds ys h3⟩
end
theorem RKv.mono (e : Kp ι H ι1 H1) : ∀ (ds : List (Key × D)) (vs : List (Key × V)), RKv K ι H ds vs → RKv K ι1 H1 ds vs
  | [], _, h => h
  | (k, d) :: ds, vs, ⟨y, ys, h1, h2, h3⟩ => ⟨y, ys, h1, RD.mono e d y h2, RKv.mono e ds ys h3⟩
theorem RFs.mono (e : Kp ι H ι1 H1) : ∀ (ds : List (Str × D)) (vs : List (Str × V)), RFs K ι H ds vs → RFs K ι1 H1 ds vs
  | [], _, h => h
  | (k, d) :: ds, vs, ⟨y, ys, h1, h2, h3⟩ => ⟨y, ys, h1, RD.mono e d y h2, RFs.mono e ds ys h3⟩
theorem RDs.len : ∀ {ds : List D} {vs : List V}, RDs K ι H ds vs → vs.length = ds.length
  | [], _, h => by rw [show _ = [] from h]; rfl
  | d :: ds, vs, ⟨y, ys, h1, h2, h3⟩ => by rw [h1, List.length_cons, List.length_cons, RDs.len h3]
theorem RDs.get : ∀ {ds : List D} {vs : List V} {i : Nat} {d : D}, RDs K ι H ds vs → ds[i]? = some d → ∃ v, vs[i]? = some v ∧ RD K ι H d v
  | [], _, _, _, h, e => by cases e
  | d :: ds, vs, 0, d', ⟨y, ys, h1, h2, h3⟩, e => by
    cases (Option.some.inj e)
    exact ⟨y, by rw [h1]; rfl, h2⟩
  | d :: ds, vs, i + 1, d', ⟨y, ys, h1, h2, h3⟩, e => by
    obtain ⟨v, q1, q2⟩ := RDs.get (i := i) h3 e
    exact ⟨v, by rw [h1]; exact q1, q2⟩
theorem RDs.app : ∀ {ds es : List D} {vs ws : List V}, RDs K ι H ds vs → RDs K ι H es ws → RDs K ι H (ds ++ es) (vs ++ ws)
  | [], _, _, _, h, q => by rw [show _ = [] from h]; exact q
  | d :: ds, _, _, _, ⟨y, ys, h1, h2, h3⟩, q => ⟨y, ys ++ _, by rw [h1]; rfl, h2, RDs.app h3 q⟩
theorem RDs.set : ∀ {ds : List D} {vs : List V} {d : D} {v : V} (i : Nat), RDs K ι H ds vs → RD K ι H d v → RDs K ι H (ds.set i d) (vs.set i v)
  | [], _, _, _, _, h, _ => by rw [show _ = [] from h]; rfl
  | x :: ds, _, d, v, 0, ⟨y, ys, h1, h2, h3⟩, q => ⟨v, ys, by rw [h1]; rfl, q, h3⟩
  | x :: ds, _, d, v, i + 1, ⟨y, ys, h1, h2, h3⟩, q => ⟨y, ys.set i v, by rw [h1]; rfl, h2, RDs.set i h3 q⟩
theorem RDs.take : ∀ {ds : List D} {vs : List V} (n : Nat), RDs K ι H ds vs → RDs K ι H (ds.take n) (vs.take n)
  | _, _, 0, _ => by rw [List.take_zero, List.take_zero]; rfl
  | [], _, _ + 1, h => by rw [show _ = [] from h]; rfl
  | x :: ds, _, n + 1, ⟨y, ys, h1, h2, h3⟩ => ⟨y, ys.take n, by rw [h1]; rfl, h2, RDs.take n h3⟩
theorem RDs.drop : ∀ {ds : List D} {vs : List V} (n : Nat), RDs K ι H ds vs → RDs K ι H (ds.drop n) (vs.drop n)
  | _, _, 0, h => h
  | [], _, _ + 1, h => by rw [show _ = [] from h]; rfl
  | x :: ds, _, n + 1, ⟨y, ys, h1, h2, h3⟩ => by rw [h1]; exact RDs.drop n h3
theorem RDs.one {d : D} {vs : List V} (h : RDs K ι H [d] vs) : ∃ v, vs = [v] ∧ RD K ι H d v := by
  obtain ⟨y, ys, h1, h2, h3⟩ := h
  rw [show ys = [] from h3] at h1
  exact ⟨y, h1, h2⟩
theorem RDs.two {d e : D} {vs : List V} (h : RDs K ι H [d, e] vs) : ∃ v w, vs = [v, w] ∧ RD K ι H d v ∧ RD K ι H e w := by
  obtain ⟨y, ys, h1, h2, h3⟩ := h
  obtain ⟨w, rfl, q⟩ := RDs.one h3
  exact ⟨y, w, h1, h2, q⟩
/-- a new thing at a free place -/
theorem Evo.new {o : HO} {a : Addr} (h : H a = none) : Evo ι H (ι ++ [a]) (upd H a o) :=
  ⟨⟨[a], rfl, fun b hb => by rw [List.mem_singleton.mp hb]; exact h⟩, fun b u _ e => by rw [upd_ne (ne_of_none e h)]; exact e⟩
/-- something new beside the store -/
theorem Evo.side {o : HO} {a : Addr} (h : H a = none) : Evo ι H ι (upd H a o) :=
  ⟨⟨[], by simp, by simp⟩, fun b u _ e => by rw [upd_ne (ne_of_none e h)]; exact e⟩
theorem RO.mono (e : Kp ι H ι1 H1) {a : Addr} {o : O} (h : RO K ι H a o) (s : H1 a = H a) : RO K ι1 H1 a o := by
  cases o with
  | lst xs => obtain ⟨vs, e1, q⟩ := h; exact ⟨vs, s.trans e1, RDs.mono e _ _ q⟩
  | dct xs => obtain ⟨vs, e1, q⟩ := h; exact ⟨vs, s.trans e1, RKv.mono e _ _ q⟩
  | ins c fs => obtain ⟨dx, vs, e1, q⟩ := h; exact ⟨dx, vs, s.trans e1, RFs.mono e _ _ q⟩
  | gone => obtain ⟨u, e1, q⟩ := h; exact ⟨u, s.trans e1, q⟩
theorem RSto.side {o : HO} {a : Addr} (r : RSto K ι st H) (h : H a = none) : RSto K ι st (upd H a o) :=
  ⟨r.len, r.nd, fun i b u e1 e2 => RO.mono (Evo.side h).kp (r.at_ i b u e1 e2) (upd_ne fun z => by
    obtain ⟨w, q⟩ := (r.at_ i b u e1 e2).st
    rw [z, h] at q
    cases q)⟩
theorem RSto.new {u : HO} {a : Addr} {o : O} (r : RSto K ι st H) (h : H a = none) (new : RO K (ι ++ [a]) (upd H a u) a o) : RSto K (ι ++ [a]) (st ++ [o]) (upd H a u) := by
  refine ⟨by simp [r.len], ?_, fun i b w e1 e2 => ?_⟩
  · refine List.nodup_append.mpr ⟨r.nd, by simp, fun x hx y hy z => ?_⟩
    rw [List.mem_singleton] at hy
    rw [z, hy] at hx
    exact r.fresh h hx
  · by_cases hi : i < ι.length
    · rw [List.getElem?_append_left hi] at e1
      rw [List.getElem?_append_left (by rw [← r.len]; exact hi)] at e2
      refine RO.mono (Evo.new h).kp (r.at_ i b w e1 e2) (upd_ne fun z => ?_)
      obtain ⟨w', q⟩ := (r.at_ i b w e1 e2).st
      rw [z, h] at q
      cases q
    · have hl : i = ι.length := by
        have := (List.getElem?_eq_some_iff.mp e1).1
        rw [List.length_append, List.length_singleton] at this
        omega
      subst hl
      rw [List.getElem?_append_right (Nat.le_refl _), Nat.sub_self] at e1
      rw [r.len, List.getElem?_append_right (Nat.le_refl _), Nat.sub_self] at e2
      cases (Option.some.inj e1)
      cases (Option.some.inj e2)
      exact new
/-- a thing of the store is changed -/
theorem Evo.write {o u : HO} {a : Addr} (h : a ∈ ι) (hu : H a = some u) (hs : isSt u = true) : Evo ι H ι (upd H a o) :=
  ⟨⟨[], by simp, by simp⟩, fun b v hb e => by
    rw [upd_ne (fun z => ?_)]
    · exact e
    · rcases hb with hb | hb
      · exact hb (by rw [z]; exact h)
      · rw [z, hu] at e
        cases e
        rw [hs] at hb
        cases hb⟩
theorem RSto.write {u u0 : HO} {a : Addr} {o : O} {n : Nat} (r : RSto K ι st H) (h : ι[n]? = some a) (hu : H a = some u0) (hs : isSt u0 = true) (new : RO K ι (upd H a u) a o) : RSto K ι (st.set n o) (upd H a u) := by
  refine ⟨by rw [List.length_set]; exact r.len, r.nd, fun i b w e1 e2 => ?_⟩
  by_cases hi : i = n
  · subst hi
    rw [h] at e1
    cases (Option.some.inj e1)
    have hl : i < st.length := by rw [← r.len]; exact (List.getElem?_eq_some_iff.mp h).1
    rw [List.getElem?_set_self hl] at e2
    cases (Option.some.inj e2)
    exact new
  · rw [List.getElem?_set_ne (Ne.symm hi)] at e2
    refine RO.mono (Evo.write (List.mem_of_getElem? h) hu hs).kp (r.at_ i b w e1 e2) (upd_ne fun z => hi ?_)
    subst z
    have h1 := List.getElem?_eq_some_iff.mp e1
    have h2 := List.getElem?_eq_some_iff.mp h
    exact (List.getElem_inj r.nd).mp (h1.2.trans h2.2.symm)
theorem RSto.get (r : RSto K ι st H) {n : Nat} {o : O} {a : Addr} (h : st[n]? = some o) (hi : ι[n]? = some a) : RO K ι H a o := r.at_ n a o hi h
end

/-! ### the slots -/
def getS (env : Env') (i : Nat) : Option D := match env[i]? with
  | some o => o
  | none => none
structure REnv (K : PySem.W.Frag) (ι : List Addr) (H : Hp) (env : Env') (σ : St) : Prop where
  len : env.length = σ.length
  at_ : ∀ (i : Nat) d, env[i]? = some (some d) → ∃ v, σ[i]? = some (some v) ∧ RD K ι H d v
section
variable {K : PySem.W.Frag} {ι ι1 ι2 : List Addr} {st st1 : Sto} {H H1 H2 : Hp} {env : Env'} {σ : St}
theorem REnv.mono (e : Kp ι H ι1 H1) (h : REnv K ι H env σ) : REnv K ι1 H1 env σ :=
  ⟨h.len, fun i d q => let ⟨v, q1, q2⟩ := h.at_ i d q; ⟨v, q1, RD.mono e d v q2⟩⟩
theorem REnv.set {d : D} {v : V} (i : Nat) (h : REnv K ι H env σ) (r : RD K ι H d v) : REnv K ι H (env.set i (some d)) (σ.set i (some v)) := by
  refine ⟨by simpa using h.len, fun j e q => ?_⟩
  by_cases hj : i = j
  · subst hj
    have hl : i < env.length := by
      have := (List.getElem?_eq_some_iff.mp q).1
      simpa using this
    rw [List.getElem?_set_self hl] at q
    cases q
    exact ⟨v, List.getElem?_set_self (by rw [← h.len]; exact hl), r⟩
  · rw [List.getElem?_set_ne hj] at q
    obtain ⟨w, q1, q2⟩ := h.at_ j e q
    exact ⟨w, by rw [List.getElem?_set_ne hj]; exact q1, q2⟩
theorem REnv.clear (i : Nat) (h : REnv K ι H env σ) : REnv K ι H (env.set i none) (σ.set i none) := by
  refine ⟨by simpa using h.len, fun j e q => ?_⟩
  by_cases hj : i = j
  · subst hj
    by_cases hl : i < env.length
    · rw [List.getElem?_set_self hl] at q
      cases q
    · rw [List.getElem?_eq_none (by simpa using Nat.le_of_not_lt hl)] at q
      cases q
  · rw [List.getElem?_set_ne hj] at q
    obtain ⟨w, q1, q2⟩ := h.at_ j e q
    exact ⟨w, by rw [List.getElem?_set_ne hj]; exact q1, q2⟩
/-- the own slots of a comprehension -/
def wipeE (env : Env') : List Nat → Env'
  | [] => env
  | v :: vs => (wipeE env vs).set v none
theorem REnv.wipe (h : REnv K ι H env σ) : ∀ vs : List Nat, REnv K ι H (wipeE env vs) (L2.wipe σ vs)
  | [] => h
  | v :: vs => (REnv.wipe h vs).clear v
end

/-! ### readings by evaluations -/
/-- what is wanted of an outcome: Rel links what is evaluated and what the layer has -/
def PG {α β : Type} (K : PySem.W.Frag) (Rel : List Addr → Hp → α → β → Prop) (W : WX) (Q : β → Hp → Prop) (σ : St) (ι : List Addr) (H : Hp) : Out α → Prop
  | .val d st' => ∀ ι' H' v, Evo ι H ι' H' → RSto K ι' st' H' → Rel ι' H' d v → Q v H'
  | .exc c d st' => ∀ ι' H' dd v, Evo ι H ι' H' → RSto K ι' st' H' → H' dd = some (.xd [(("value" : Str), v)]) → RD K ι' H' d v → W (.ref (gA K c)) (some dd) σ H'
  | .bad => False
def tG {α β : Type} (K : PySem.W.Frag) (Rel : List Addr → Hp → α → β → Prop) (W : WX) (f : Env' → Sto → Out α) : St → Hp → (β → Hp → Prop) → Prop := fun σ H Q =>
  ∃ ι st env, RSto K ι st H ∧ REnv K ι H env σ ∧ PG K Rel W Q σ ι H (f env st)
abbrev tE (K : PySem.W.Frag) (W : WX) (f : Env' → Sto → Out D) : TE := tG K (RD K) W f
abbrev tT (K : PySem.W.Frag) (W : WX) (f : Env' → Sto → Out Bool) : TT := tG K (fun _ _ a b => b = a) W f
abbrev tA (K : PySem.W.Frag) (W : WX) (f : Env' → Sto → Out (List D)) : TA := tG K (RDs K) W f
section
variable {α β γ δ : Type} {K : PySem.W.Frag} {Rel : List Addr → Hp → α → β → Prop} {Rel2 : List Addr → Hp → γ → δ → Prop} {W : WX} {Q : β → Hp → Prop} {Q2 : δ → Hp → Prop} {σ : St} {ι ι1 : List Addr} {H H1 : Hp} {st st1 : Sto} {env : Env'}
theorem PG.mono (r1 : RSto K ι1 st1 H1) (e : Evo ι H ι1 H1) {o : Out α} (h : PG K Rel W Q σ ι H o) : PG K Rel W Q σ ι1 H1 o := by
  cases o with
  | val d st' => exact fun ι' H' v e2 r2 q => h ι' H' v (Evo.trans r1 e e2) r2 q
  | exc c d st' => exact fun ι' H' dd v e2 r2 q1 q2 => h ι' H' dd v (Evo.trans r1 e e2) r2 q1 q2
  | bad => exact h
/-- one evaluation, then another -/
theorem tG_bind {f : Env' → Sto → Out α} {g : α → Sto → Out γ} (r : RSto K ι st H) (re : REnv K ι H env σ) (h : PG K Rel2 W Q2 σ ι H ((f env st).bind g))
    (hQ : ∀ d st1 ι1 H1 v, Evo ι H ι1 H1 → RSto K ι1 st1 H1 → REnv K ι1 H1 env σ → Rel ι1 H1 d v → PG K Rel2 W Q2 σ ι1 H1 (g d st1) → Q v H1) : tG K Rel W f σ H Q := by
  refine ⟨ι, st, env, r, re, ?_⟩
  cases e : f env st with
  | val d st1 =>
    rw [e] at h
    exact fun ι1 H1 v e1 r1 q => hQ d st1 ι1 H1 v e1 r1 (re.mono e1.kp) q (PG.mono r1 e1 h)
  | exc c d st1 =>
    rw [e] at h
    exact h
  | bad =>
    rw [e] at h
    exact h
/-- the last evaluation -/
theorem tG_last {f : Env' → Sto → Out α} (r : RSto K ι st H) (re : REnv K ι H env σ) (h : PG K Rel W Q σ ι H (f env st)) : tG K Rel W f σ H Q := ⟨ι, st, env, r, re, h⟩
theorem PG.val {d : α} {v : β} (r : RSto K ι st H) (h : PG K Rel W Q σ ι H (.val d st)) (q : Rel ι H d v) : Q v H := h ι H v Evo.refl r q
end

end L2.Ev
namespace L2
open PySem PySem.Spec PyProof.Rows
theorem PE.weak {X : Cx} {e : Expr} {t t' : TE} (h : PE X e t) (i : ∀ σ H Q, t' σ H Q → t σ H Q) : PE X e t' := ⟨fun pins s σ H Q I q => h.run pins s σ H Q I (i σ H Q q)⟩
theorem PT.weak {X : Cx} {e : Expr} {t t' : TT} (h : PT X e t) (i : ∀ σ H Q, t' σ H Q → t σ H Q) : PT X e t' := ⟨fun pins s σ H Q I q => h.run pins s σ H Q I (i σ H Q q)⟩
theorem PW.weak {X : Cx} {e : Expr} {t t' : TT} (h : PW X e t) (i : ∀ σ H Q, t' σ H Q → t σ H Q) : PW X e t' := ⟨fun wh pins s σ H Q I q => h.run wh pins s σ H Q I (i σ H Q q)⟩
theorem PA.weak {X : Cx} {e : List Expr} {t t' : TA} (h : PA X e t) (i : ∀ σ H Q, t' σ H Q → t σ H Q) : PA X e t' := ⟨fun pos pins s σ H Q I q => h.run pos pins s σ H Q I (i σ H Q q)⟩
theorem PS.weak {X : Cx} {e : Stmt} {t t' : TS} (h : PS X e t) (i : ∀ D σ H, t' D σ H → t D σ H) : PS X e t' := ⟨fun pins s σ H D I q => h.run pins s σ H D I (i D σ H q)⟩
theorem PSs.weak {X : Cx} {e : List Stmt} {t t' : TS} (h : PSs X e t) (i : ∀ D σ H, t' D σ H → t D σ H) : PSs X e t' := ⟨fun pins s σ H D I q => h.run pins s σ H D I (i D σ H q)⟩

end L2
namespace L2.Ev
open PySem PySem.Spec PyProof.Rows
/-! ### operations by values -/
/-- what is wanted of an outcome that is no error -/
def PV (K : PySem.W.Frag) (Q : VK) (ι : List Addr) (H : Hp) : Out D → Prop
  | .val d st' => ∀ ι' H' v, Evo ι H ι' H' → RSto K ι' st' H' → RD K ι' H' d v → Q v H'
  | _ => False
/-- no error comes of it -/
def Out.pure' {α : Type} : Out α → Out α
  | .exc _ _ _ => .bad
  | o => o
def r2D (K : PySem.W.Frag) (g : D → D → Sto → Out D) : R2 := fun x y H Q => ∃ ι st a b, RSto K ι st H ∧ RD K ι H a x ∧ RD K ι H b y ∧ PV K Q ι H (g a b st)
def r1D (K : PySem.W.Frag) (g : D → Sto → Out D) : V → Hp → VK → Prop := fun x H Q => ∃ ι st a, RSto K ι st H ∧ RD K ι H a x ∧ PV K Q ι H (g a st)
def rnD (K : PySem.W.Frag) (g : List D → Sto → Out D) : List V → Hp → VK → Prop := fun xs H Q => ∃ ι st ds, RSto K ι st H ∧ RDs K ι H ds xs ∧ PV K Q ι H (g ds st)
section
variable {K : PySem.W.Frag} {W : WX} {Q : VK} {σ : St} {ι ι1 : List Addr} {H H1 : Hp} {st st1 : Sto} {env : Env'}
theorem PV.of {o : Out D} (h : PG K (RD K) W Q σ ι H o.pure') : PV K Q ι H o := by
  cases o with
  | val d st' => exact h
  | exc c d st' => exact h
  | bad => exact h
theorem PV.val {d : D} {v : V} (r : RSto K ι st H) (h : PV K Q ι H (.val d st)) (q : RD K ι H d v) : Q v H := h ι H v Evo.refl r q
theorem op_ok {X : Cx} {a b : Expr} {op : Operator} {g : D → D → Sto → Out D} {fa fb : Env' → Sto → Out D} {pos : Pos} (ho : OpR X (binaryOp op) (r2D X.K g)) (ha : PE X a (tE X.K W fa)) (hb : PE X b (tE X.K W fb)) :
    PE X (.BinOp a op b pos) (tE X.K W fun env st => (fa env st).bind fun x st => (fb env st).bind fun y st => (g x y st).pure') := by
  refine (pe_op ho ha hb).weak fun σ H Q ⟨ι, st, env, r, re, h⟩ => ?_
  refine tG_bind r re h fun d st1 ι1 H1 v e1 r1 re1 q1 h1 => ?_
  refine tG_bind r1 re1 h1 fun d2 st2 ι2 H2 v2 e2 r2 re2 q2 h2 => ?_
  exact ⟨ι2, st2, d, d2, r2, RD.mono e2.kp _ _ q1, q2, PV.of h2⟩
theorem cmp_ok {X : Cx} {a b : Expr} {op : CmpOp} {g : D → D → Sto → Out D} {fa fb : Env' → Sto → Out D} {pos : Pos} (ho : OpR X (compareOp op) (r2D X.K g)) (ha : PE X a (tE X.K W fa)) (hb : PE X b (tE X.K W fb)) (hm : behindInMarks op b = false) :
    PE X (.Compare a [op] [b] pos) (tE X.K W fun env st => (fa env st).bind fun x st => (fb env st).bind fun y st => (g x y st).pure') := by
  refine (pe_cmpR ho ha hb hm).weak fun σ H Q ⟨ι, st, env, r, re, h⟩ => ?_
  refine tG_bind r re h fun d st1 ι1 H1 v e1 r1 re1 q1 h1 => ?_
  refine tG_bind r1 re1 h1 fun d2 st2 ι2 H2 v2 e2 r2 re2 q2 h2 => ?_
  exact ⟨ι2, st2, d, d2, r2, RD.mono e2.kp _ _ q1, q2, PV.of h2⟩
theorem un_ok {X : Cx} {a : Expr} {op : UnaryOp} {g : D → Sto → Out D} {fa : Env' → Sto → Out D} {pos : Pos} (ho : UnR X (unaryOp op) (r1D X.K g)) (ha : PE X a (tE X.K W fa)) :
    PE X (.UnaryOp op a pos) (tE X.K W fun env st => (fa env st).bind fun x st => (g x st).pure') := by
  refine (pe_un ho ha).weak fun σ H Q ⟨ι, st, env, r, re, h⟩ => ?_
  refine tG_bind r re h fun d st1 ι1 H1 v e1 r1 re1 q1 h1 => ?_
  exact ⟨ι1, st1, d, r1, q1, PV.of h1⟩
end
/-- arguments, from the left -/
def evs (fs : List (Env' → Sto → Out D)) (env : Env') (st : Sto) : Out (List D) := match fs with
  | [] => .val [] st
  | f :: r => (f env st).bind fun d st => (evs r env st).bind fun ds st => .val (d :: ds) st
inductive PEs (X : Cx) (W : WX) : List Expr → List (Env' → Sto → Out D) → Prop where
  | nil : PEs X W [] []
  | cons {e es f fs} : PE X e (tE X.K W f) → PEs X W es fs → PEs X W (e :: es) (f :: fs)
def notStar : Expr → Bool
  | .Starred _ _ => false
  | _ => true
theorem star_cons {e : Expr} {es : List Expr} {env : Env} (h : notStar e = true) : starEach (e :: es) env = (false, eval e env) :: starEach es env := by
  cases e <;> first | rfl | cases h
theorem star_plain : ∀ {es : List Expr} {env : Env} {pos : Pos}, es.all notStar = true → (backTo pos (starEach es env)).any (·.1) = false
  | [], _, _, _ => rfl
  | e :: es, env, pos, h => by
    obtain ⟨h1, h2⟩ := Bool.and_eq_true_iff.mp (show (notStar e && es.all notStar) = true from h)
    rw [star_cons h1]
    exact star_plain (es := es) h2
theorem as_ok {X : Cx} {W : WX} : ∀ {es : List Expr} {fs : List (Env' → Sto → Out D)}, PEs X W es fs → es.all notStar = true → PA X es (tA X.K W (evs fs))
  | _, _, .nil, _ => pa_nil.weak fun σ H Q ⟨ι, st, env, r, re, h⟩ => h ι H [] Evo.refl r rfl
  | _, _, .cons (e := e) (es := es) (f := f) (fs := fs) h1 h2, hn => by
    obtain ⟨n1, n2⟩ := Bool.and_eq_true_iff.mp (show (notStar e && es.all notStar) = true from hn)
    refine (pa_cons h1 (as_ok h2 n2) (star_cons n1)).weak fun σ H Q ⟨ι, st, env, r, re, h⟩ => ?_
    refine tG_bind r re h fun d st1 ι1 H1 v e1 r1 re1 q1 k1 => ?_
    refine tG_bind r1 re1 k1 fun ds st2 ι2 H2 vs e2 r2 re2 q2 k2 => ?_
    exact PG.val r2 k2 ⟨v, vs, rfl, RD.mono e2.kp _ _ q1, q2⟩
end L2.Ev

/-! Defs called where no guard stands (repr wants to know it): the layer's rules for a def, turned to that. -/
namespace L2.Ev
open PySem PySem.Spec PyProof.Rows

structure RoomG (k : Nat) (A : Around) : Prop where
  room : Room k A
  g : A.guards = some []
theorem RoomG.mono {j k : Nat} {A : Around} (r : RoomG k A) (h : j ≤ k) : RoomG j A := ⟨r.room.mono h, r.g⟩
theorem RoomG.deeper {k : Nat} {A : Around} (r : RoomG (k + 1) A) (env : Env) : RoomG k (A.deeper env) := ⟨r.room.deeper env, r.g⟩
theorem RoomG.in1 {k : Nat} {A : Around} (r : RoomG (k + 1) A) : RoomG k A.in1 := ⟨r.room.in1, r.g⟩
structure FnG (P : Program) (w : World) (K : PySem.W.Frag) (mg : Str → Option Value) (base : Heap) (CX : CXT) (k : Nat) (f : Addr) (fd : FuncData) (ps : List Str) (sp : Sp) : Prop where
  len : ∀ vs H Q E, sp vs H Q E → vs.length = ps.length
  run : ∀ (A : Around) (outer : List Env) (s : Shared) (H : Hp) (args : Args) (us : List Value) (vs : List V) (Q : VK) (E : XK), RoomG k A → Env0 P w K mg base A outer s H → BindsTo s fd args (ps.zip us) → Vals vs us → sp vs H Q E →
    codeAny (model P w) A (.call (.ref f) args) (CR CX outer P w H s Q E) s
theorem FnG.mono {P : Program} {w : World} {K : PySem.W.Frag} {mg : Str → Option Value} {base : Heap} {CX : CXT} {j k : Nat} {f : Addr} {fd : FuncData} {ps : List Str} {sp : Sp} (F : FnG P w K mg base CX j f fd ps sp) (h : j ≤ k) :
    FnG P w K mg base CX k f fd ps sp := ⟨F.len, fun A outer s H args us vs Q E hr => F.run A outer s H args us vs Q E (hr.mono h)⟩
section
variable {X : Cx} {CX : CXT} {k : Nat} {f C : Addr} {fd : FuncData} {ps : List Str} {sp : Sp} {dvs : List V} {ds : List Value} {E : XK}
theorem run_fnG {pins : List (Addr × Obj)} {σ : St} {H : Hp} {s : Shared} {Q : VK} {us : List Value} {vs : List V} (F : FnG X.prog X.w X.K X.mg X.base CX k f fd ps sp) (hr : RoomG k X.A) (hb : Binds X.K fd ps ds) (hd : Vals dvs ds) (hx : Passes CX X E)
    (I : Inv X pins σ H s) (r : Vals vs us) (h : sp (vs ++ dvs) H Q E) : wpAny (model X.prog X.w) X.A (call (.ref f) us) (EP X pins σ Q) X.xe s := by
  have r2 : Vals (vs ++ dvs) (us ++ ds) := r.append hd
  have hl : (us ++ ds).length = ps.length := by rw [← r2.length]; exact F.len _ _ _ _ h
  refine wpAny_call (codeAny_mono (F.run X.A X.stack s H ⟨us, []⟩ (us ++ ds) (vs ++ dvs) Q E hr I.env0 (hb s us I.kIn hl) r2 h) fun r s' hq => ?_)
  cases r with
  | error e => exact hx pins σ H s e s' I hq
  | ok fl =>
    cases fl with
    | ret u => exact I.after hq
    | next => exact False.elim hq
    | brk => exact False.elim hq
    | cont => exact False.elim hq


end
theorem fn_ofG {CX : CXT} {P : Program} {w : World} {K : PySem.W.Frag} {mg : Str → Option Value} {base : Heap} {k : Nat} {f : Addr} {name qual : Str} {params : Arguments} {body : List Stmt} {scope : Scope} {dV kV doc pm cdv ct oc : Value} {an od : Option Addr}
    {osl : Array (Option Value)} {N ps : List Str} {sp : Sp} (lk : K.lookup f = some ⟨oc, od, .func (PySem.W.fnOf name qual params body scope dV kV doc pm an cdv ct), osl⟩) (hcd : PySem.W.codeIn K cdv qual = true) (S : FnScope N ps scope)
    (len : ∀ vs H Q E, sp vs H Q E → vs.length = ps.length)
    (hbody : ∀ (A : Around) (outer : List Env) (s : Shared) (H : Hp) (vs : List V) (Q : VK) (E : XK), RoomG k (A.deeper (envOfC qual scope s.heap.objs.size f cdv)) → sp vs H Q E →
      ∃ t, PSs (cxOf CX P w K mg base N qual scope f cdv A outer s H E) body t ∧ t { nx := fun _ H' => Q .non H', rt := Q } (start N vs) H) :
    FnG P w K mg base CX (k + 1) f (PySem.W.fnOf name qual params body scope dV kV doc pm an cdv ct) ps sp := by
  refine ⟨len, fun A outer s H args us vs Q E hr e0 hb r hsp => ?_⟩
  have hl := len _ _ _ _ hsp
  have KX : K.In s.heap := e0.mod.kin.keeps fun b o e => (e0.bs b o e).1
  have lim : s.heap.NoLimit := e0.mod.nolimit.keeps fun b o e => (e0.bs b o e).1
  have hkind : ∀ y ∈ ps.zip us, scope.names.lookup y.1 = some .local ∨ (scope.names.lookup y.1 = some .cell ∧ ((cellsFrom (s.heap.objs.size + 1) scope.names []).lookup y.1).isSome = true) := fun ⟨n, v⟩ hy => by
    rcases S.par n (List.of_mem_zip hy).1 with q | q
    · exact .inl q
    · exact .inr ⟨q, PySem.W.cellsFrom_some _ _ _ (.inl q)⟩
  refine codeAny_call_function hr.room.depth (KX _ _ lk) rfl S.co S.gen rfl (PySem.W.codeRec_of KX hcd) (hb _ _ _ _ ?_)
  refine wpAny_newFunctionEnv_cells S.kind hkind fun env he s1 x => ?_
  subst he
  refine ⟨lim.keeps x.toInCall.keep, codeAny_func ?_⟩
  obtain ⟨t, ht, hq⟩ := hbody A outer s H vs Q E (hr.deeper _) hsp
  have I : Inv (cxOf CX P w K mg base N qual scope f cdv A outer s H E) [] (start N vs) H s1 := inv_start S hr.room.hd e0 hl r x
  refine wpAny_mono (ht.run [] s1 (start N vs) H _ I hq) (fun fl s' hs => ?_) fun e s' hs => hs
  have fin : ∀ {σ' : St} {H' : Hp} {v : V} {u : Value}, Inv (cxOf CX P w K mg base N qual scope f cdv A outer s H E) [] σ' H' s' → RelV v u → Q v H' → CE outer P w H s Q u s' :=
    fun {σ' H' v u} J rv q => ⟨v, H', J.os, J.bare, J.base, J.hok, rv, q⟩
  cases fl with
  | ret u =>
    obtain ⟨v, σ', H', J, rv, q⟩ := hs
    exact fin J rv q
  | next =>
    obtain ⟨σ', H', J, q⟩ := hs
    exact fin (v := V.non) (u := Value.none) J rfl q
  | brk =>
    obtain ⟨_, _, _, q⟩ := hs
    exact False.elim q
  | cont =>
    obtain ⟨_, _, _, q⟩ := hs
    exact False.elim q
theorem law_callG {P : Program} {w : World} {K : PySem.W.Frag} {mg mb : Str → Option Value} {CX : CXT} {k : Nat} {fa a : Addr} {fd : FuncData} {x : Str} {sp : Sp} {s₁ : Shared} {vs : List Value} {ns : List Int}
    (KX : K.In s₁.heap) (hns : s₁.heap.Ns mainGlobals mg) (hb : s₁.heap.Ns builtinsNs mb) (hbb : ∀ x : Str, x ≠ "__name__" → mb x = bootBuiltins x) (hlim : s₁.heap.NoLimit) (hg : s₁.gens = #[])
    (ha : s₁.heap.get? a = some { cls := .type "list", data := .seq vs.toArray }) (hi : IntsAre vs ns) (hl : ns.length ≤ sizeLine) (hr : RoomG k callerA)
    (F : ∀ base : Heap, K.In base → base.Ns mainGlobals mg → FnG P w K mg base CX k fa fd [x] sp) (hbind : ∀ (s : Shared) (u : Value), BindsTo s fd ⟨[u], []⟩ [(x, u)])
    (hsp : ∀ H : Hp, Only H → RoL K H a (ns.map V.int) → sp [.ref a] H (fun v _ => v = .bl true) fun _ _ _ => False)
    (hCX : ∀ H e s', CX [] H s₁ (fun _ _ _ => False) e s' → False) :
    codeAny (model P w) callerA (.call (.ref fa) ⟨[.ref a], []⟩) (fun r s' => r = .ok (.ret (.bool true)) ∧ OldK s₁.heap s'.heap ∧ s'.os = s₁.os ∧ AllBare s'.gens) s₁ := by
  have rv := vals_ints hi
  have lenV := hi.length
  -- from an abstract heap in which nothing but the script may be tracked
  have core : ∀ H : Hp, Only H → RoL K H a (ns.map V.int) → HOk P w H s₁.heap → (∀ b, H b ≠ none → b = a) → (H a ≠ none → K.lookup a = none) →
      codeAny (model P w) callerA (.call (.ref fa) ⟨[.ref a], []⟩) (fun r s' => r = .ok (.ret (.bool true)) ∧ OldK s₁.heap s'.heap ∧ s'.os = s₁.os ∧ AllBare s'.gens) s₁ := by
    intro H hO hS hok hA hK
    have base_of : ∀ {b : Addr} {o : Obj}, s₁.heap.get? b = some o → H b = none → (hidT s₁.heap H).get? b = some o := fun e n => hidT_get e n
    have noA : ∀ {b : Addr} {o : Obj} {es : Array DictEntry} {ep : Nat}, s₁.heap.get? b = some o → o.data = .dict es ep → H b = none := fun {b o es ep} e d => by
      cases q : H b with
      | none => rfl
      | some u =>
        have e' : b = a := hA b (by rw [q]; simp)
        subst e'
        rw [ha] at e; cases e
        have d' : Data.seq vs.toArray _ = Data.dict es ep := d
        cases d'
    have nsK : ∀ {b : Addr} {m : Str → Option Value}, s₁.heap.Ns b m → (hidT s₁.heap H).Ns b m := fun {b m} ⟨o, es, ep, e, d, r⟩ => ⟨o, es, ep, base_of e (noA e d), d, r⟩
    have hKb : K.In (hidT s₁.heap H) := fun b o e => base_of (KX b o e) (by
      cases q : H b with
      | none => rfl
      | some u =>
        have e' : b = a := hA b (by rw [q]; simp)
        subst e'
        rw [hK (by rw [q]; simp)] at e; cases e)
    have hM : Mod K mg (hidT s₁.heap H) := ⟨hKb, nsK hns, ⟨mb, nsK hb, hbb⟩, let ⟨mc, h1, h2⟩ := hlim; ⟨mc, nsK h1, h2⟩⟩
    have e0 : Env0 P w K mg (hidT s₁.heap H) callerA [] s₁ H := ⟨rfl, hM, fun b o e => of_hidT e, Nat.le_of_eq (hidT_size _ _), trivial, fun b hb => absurd (show b ∈ ([] : List Addr) from hb) (by simp), hok, .of_eq hg⟩
    refine codeAny_mono ((F _ hKb (nsK hns)).run callerA [] s₁ H ⟨[.ref a], []⟩ [.ref a] [.ref a] _ _ hr e0 (hbind s₁ (.ref a)) (.cons rfl .nil) (hsp H hO hS)) fun r s' h => ?_
    cases r with
    | error e => exact (hCX H e s' h).elim
    | ok fl =>
      cases fl with
      | next => exact False.elim h
      | brk => exact False.elim h
      | cont => exact False.elim h
      | ret u =>
        obtain ⟨v, H', os, bare, un, hok', r', q⟩ := h
        have q' : v = .bl true := q
        subst q'
        obtain rfl : u = Value.bool true := r'
        refine ⟨rfl, OldK.of_keep fun b o e => ?_, os, bare⟩
        cases q : H b with
        | none => exact un.keep b o e q (by intro z; exact absurd (show b ∈ ([] : List Addr) from z) (by simp)) (by simp)
        | some u =>
          rcases hO b with z | ⟨ob, xs, z⟩
          · rw [q] at z; cases z
          · have z2 := un.frzs b ob _ z
            obtain ⟨e1, _⟩ := hok b _ z
            obtain ⟨e2, _⟩ := hok' b _ z2
            rw [e] at e1; cases e1
            exact e2
  cases hk : K.lookup a with
  | some o =>
    -- the script is one of the module's own objects
    have e := KX a o hk
    rw [ha] at e
    cases e
    refine core (fun _ => none) (fun _ => .inl rfl) (.inr ⟨vs, _, hk, by rw [lenV]; exact hl, rv⟩) (fun b u z => by have z' : (none : Option HO) = some u := z; cases z') (fun b z => absurd rfl z) fun z => absurd rfl z
  | none =>
    refine core (fun b => if b = a then some (.frz { cls := .type "list", data := .seq vs.toArray } (.lst (ns.map V.int))) else none) (fun b => ?_) (.inl ⟨{ cls := .type "list", data := .seq vs.toArray }, if_pos rfl⟩) (fun b u z => ?_) (fun b z => ?_) fun _ => hk
    · by_cases hb : b = a
      · exact .inr ⟨_, _, if_pos hb⟩
      · exact .inl (if_neg hb)
    · by_cases hb : b = a
      · have z' := (if_pos hb).symm.trans z
        cases z'
        subst hb
        exact ⟨ha, by rw [List.length_map]; exact hl, vs, _, rv, ha⟩
      · have z' := (if_neg hb).symm.trans z
        cases z'
    · by_cases hb : b = a
      · exact hb
      · exact absurd (if_neg hb) z

/-- the law's end over a head by facts -/
theorem walk_ofG {l : PySem.W.OpenLaw} {n k : Nat} {q : Program} {loose : List Str} {XP : (Str → Option Value) → Heap → Prop} {YP : World → Heap → Prop} {d : DefRec} {CX : World → CXT} {x : Str}
    (hn : l.most = some n) (hn2 : n ≤ sizeLine) (hdf : d.params.defaults = []) (hr : RoomG k callerA)
    (F : ∀ (w : World) (mg : Str → Option Value) (fa : Addr) (h : Heap), YP w h → h.Ns mainGlobals mg → mg d.name = some (.ref fa) →
      ∃ (K : PySem.W.Frag) (fd : FuncData) (sp : Sp), K.In h ∧ (∀ (s : Shared) (u : Value), BindsTo s fd ⟨[u], []⟩ [(x, u)]) ∧
        (∀ (H : Hp) (a : Addr) (ns : List Int), ns.length ≤ n → (∀ z ∈ ns, Builtin.Int.intBits z ≤ 1048576) → RoL K H a (ns.map V.int) → sp [.ref a] H (fun v _ => v = .bl true) fun _ _ _ => False) ∧
        ∀ base : Heap, K.In base → base.Ns mainGlobals mg → FnG l.prog w K mg base (CX w) k fa fd [x] sp)
    (hCX : ∀ (w : World) (H : Hp) (s : Shared) (e : Value) (s' : Shared), CX w [] H s (fun _ _ _ => False) e s' → False) :
    PySem.W.WalkO q loose XP YP l.row.toRowW d [] (fun f vs => PySem.call f vs) := by
  refine Att.attach_callB hn hdf fun w s₀ s₁ mg mb fa o pm cd doc a vs ns G Y ho hd hcd hmg hobj hints hlen hbits hg => ?_
  obtain ⟨K, fd, sp, KX, hb, hsp, hF⟩ := F w mg fa _ Y G.T.g hmg
  exact law_callG KX G.T.g G.T.b G.T.builtins G.T.nolimit hg hobj hints (Nat.le_trans hlen hn2) hr hF hb (fun H hO hS => hsp H a ns hlen hbits hS) fun H e s' => hCX w H s₁ e s'
end L2.Ev

/-! Operations on evaluated values, and the layer's rules for them. -/
namespace L2.Ev
open PySem PySem.Spec PyProof.Rows

/-! ### lists that are locked -/
def lockQ (Q : VK) : VK := fun v H' => ∃ a xs, v = .ref a ∧ H' a = some (.lst xs) ∧ ∀ od, Q v (upd H' a (.frz od (.lst xs)))
section
variable {X : Cx} {pins : List (Addr × Obj)} {σ : St} {s : Shared} {Q : VK} {u : Value} {e : Expr} {t : TE}
theorem ep_lock (h : EP X pins σ (lockQ Q) u s) : EP X pins σ Q u s := by
  obtain ⟨v, H', I, rv, a, xs, rfl, e, q⟩ := h
  obtain ⟨od, I2⟩ := I.lock e trivial
  exact ⟨_, _, I2, rv, q od⟩
theorem pe_lock (h : PE X e t) : PE X e (fun σ H Q => t σ H (lockQ Q)) := ⟨fun pins s σ H Q I q => thn (h.run pins s σ H _ I q) fun _ _ q => ep_lock q⟩
theorem op_lock {f : Value → Value → Sem Value} {r : R2} (h : OpR X f r) : OpR X f (fun x y H Q => r x y H (lockQ Q)) := fun pins s σ H x y v u Q I rx ry q => thn (h pins s σ H x y v u _ I rx ry q) fun _ _ q => ep_lock q
theorem call_lock {f : Value} {r : List V → Hp → VK → Prop} (h : CallR X f r) : CallR X f (fun xs H Q => r xs H (lockQ Q)) := fun pins s σ H xs us Q I rx q => thn (h pins s σ H xs us _ I rx q) fun _ _ q => ep_lock q
theorem sl_lock {r : V → Option Int → Option Int → Hp → VK → Prop} (h : SlR X r) : SlR X (fun x lo hi H Q => r x lo hi H (lockQ Q)) := by
  intro pins s σ H x v vl vu lo hi sl Q I rx hs pl pu q
  obtain ⟨T, id, h1, h2, h3⟩ := h pins s σ H x v vl vu lo hi sl _ I rx hs pl pu q
  exact ⟨T, id, h1, h2, thn h3 fun _ _ q => ep_lock q⟩
end

/-! ### what a value holds -/
def listOf (st : Sto) : D → Option (List D)
  | .ro xs => some xs
  | .obj n => match st[n]? with
    | some (.lst xs) => some xs
    | _ => none
  | _ => none
def dctOf (st : Sto) : D → Option (List (Key × D))
  | .obj n => match st[n]? with
    | some (.dct xs) => some xs
    | _ => none
  | _ => none
/-- a list that may be read -/
def RdL (K : PySem.W.Frag) (H : Hp) (a : Addr) (xs : List V) : Prop := H a = some (.lst xs) ∨ RoL K H a xs
theorem RdL.sq {K : PySem.W.Frag} {H : Hp} {a : Addr} {xs : List V} (h : RdL K H a xs) : SqL K H a xs := by
  rcases h with h | h
  · exact .inl (.inl h)
  · exact h.sq
section
variable {X : Cx} {pins : List (Addr × Obj)} {σ : St} {H : Hp} {s : Shared} {a : Addr} {xs : List V}
theorem inv_rdl (I : Inv X pins σ H s) (h : RdL X.K H a xs) : ∃ (its : List Value) (n : Nat), Vals xs its ∧ s.heap.get? a = some { cls := .type "list", data := .seq its.toArray n } ∧ xs.length ≤ sizeLine ∧ xs.length = its.length := by
  rcases h with h | ⟨o, h⟩ | ⟨its, n, h1, h2, h3⟩
  · obtain ⟨z, its, n, r, e⟩ := I.hok a _ h
    exact ⟨its, n, r, e, z, r.length⟩
  · obtain ⟨_, z, its, n, r, e⟩ := I.hok a _ h
    exact ⟨its, n, r, e, z, r.length⟩
  · exact ⟨its, n, h3, I.kIn a _ h1, by rw [h3.length]; exact h2, h3.length⟩
end
section
variable {K : PySem.W.Frag} {ι : List Addr} {H : Hp} {st : Sto}
theorem listOf_ok {d : D} {xs : List D} {v : V} (r : RSto K ι st H) (h : listOf st d = some xs) (q : RD K ι H d v) : ∃ a vs, v = .ref a ∧ RdL K H a vs ∧ RDs K ι H xs vs := by
  cases d with
  | ro ys =>
    cases h
    obtain ⟨a, vs, h1, h2, h3⟩ := q
    exact ⟨a, vs, h1, .inr h2, h3⟩
  | obj n =>
    obtain ⟨a, h1, h2⟩ := q
    have h' : (match st[n]? with
      | some (.lst xs) => some xs
      | _ => none) = some xs := h
    cases e : st[n]? with
    | none => rw [e] at h'; cases h'
    | some o =>
      rw [e] at h'
      cases o with
      | lst ys =>
        cases h'
        obtain ⟨vs, q1, q2⟩ := r.at_ n a _ h2 e
        exact ⟨a, vs, h1, .inl q1, q2⟩
      | _ => cases h'
  | _ => cases h
theorem obj_lst {n : Nat} {xs : List D} {v : V} (r : RSto K ι st H) (h : st[n]? = some (.lst xs)) (q : RD K ι H (.obj n) v) : ∃ a vs, v = .ref a ∧ ι[n]? = some a ∧ H a = some (.lst vs) ∧ RDs K ι H xs vs := by
  obtain ⟨a, h1, h2⟩ := q
  obtain ⟨vs, q1, q2⟩ := r.at_ n a _ h2 h
  exact ⟨a, vs, h1, h2, q1, q2⟩
theorem dctOf_ok {d : D} {xs : List (Key × D)} {v : V} (r : RSto K ι st H) (h : dctOf st d = some xs) (q : RD K ι H d v) : ∃ a vs, v = .ref a ∧ H a = some (.dK vs) ∧ RKv K ι H xs vs := by
  cases d with
  | obj n =>
    obtain ⟨a, h1, h2⟩ := q
    have h' : (match st[n]? with
      | some (.dct xs) => some xs
      | _ => none) = some xs := h
    cases e : st[n]? with
    | none => rw [e] at h'; cases h'
    | some o =>
      rw [e] at h'
      cases o with
      | dct ys =>
        cases h'
        obtain ⟨vs, q1, q2⟩ := r.at_ n a _ h2 e
        exact ⟨a, vs, h1, q1, q2⟩
      | _ => cases h'
  | _ => cases h
end

/-! ### laying new things -/
section
variable {K : PySem.W.Frag} {Q : VK} {ι : List Addr} {H : Hp} {st : Sto} {W : WX} {σ : St}
theorem PV.ro {ds : List D} {vs : List V} (r : RSto K ι st H) (h : PV K Q ι H (.val (.ro ds) st)) (q : RDs K ι H ds vs) : ∀ p, H p = none → lockQ Q (.ref p) (upd H p (.lst vs)) :=
  fun p hp => ⟨p, vs, rfl, upd_same, fun od => by rw [upd_upd]; exact h ι _ _ (Evo.side hp) (r.side hp) ⟨p, vs, rfl, .inl ⟨od, upd_same⟩, RDs.mono (Evo.side hp).kp _ _ q⟩⟩
theorem PV.tup {ds : List D} {vs : List V} (r : RSto K ι st H) (h : PV K Q ι H (.val (.tup ds) st)) (q : RDs K ι H ds vs) : ∀ p, H p = none → Q (.ref p) (upd H p (.tup vs)) :=
  fun p hp => h ι _ _ (Evo.side hp) (r.side hp) ⟨p, vs, rfl, .inl (.inl upd_same), RDs.mono (Evo.side hp).kp _ _ q⟩
theorem RSto.lay {p : Addr} {ds : List D} {vs : List V} (r : RSto K ι st H) (hp : H p = none) (q : RDs K ι H ds vs) : RSto K (ι ++ [p]) (st ++ [.lst ds]) (upd H p (.lst vs)) :=
  r.new hp ⟨vs, upd_same, RDs.mono (Evo.new hp).kp _ _ q⟩
theorem at_last (r : RSto K ι st H) (p : Addr) : (ι ++ [p])[st.length]? = some p := by rw [← r.len, List.getElem?_append_right (Nat.le_refl _), Nat.sub_self]; rfl
theorem PG.ro {ds : List D} {vs : List V} (r : RSto K ι st H) (h : PG K (RD K) W Q σ ι H (.val (.ro ds) st)) (q : RDs K ι H ds vs) : ∀ p, H p = none → lockQ Q (.ref p) (upd H p (.lst vs)) := PV.ro r h q
theorem PG.tup {ds : List D} {vs : List V} (r : RSto K ι st H) (h : PG K (RD K) W Q σ ι H (.val (.tup ds) st)) (q : RDs K ι H ds vs) : ∀ p, H p = none → Q (.ref p) (upd H p (.tup vs)) := PV.tup r h q
theorem PV.lay {ds : List D} {vs : List V} (r : RSto K ι st H) (h : PV K Q ι H (.val (.obj st.length) (st ++ [.lst ds]))) (q : RDs K ι H ds vs) : ∀ p, H p = none → Q (.ref p) (upd H p (.lst vs)) :=
  fun p hp => h _ _ _ (Evo.new hp) (r.lay hp q) ⟨p, rfl, at_last r p⟩
theorem PG.lay {ds : List D} {vs : List V} (r : RSto K ι st H) (h : PG K (RD K) W Q σ ι H (.val (.obj st.length) (st ++ [.lst ds]))) (q : RDs K ι H ds vs) : ∀ p, H p = none → Q (.ref p) (upd H p (.lst vs)) := PV.lay r h q
/-- a list of the store is written anew -/
theorem PV.put {a : Addr} {n : Nat} {ds : List D} {ws vs : List V} {d : D} {v : V} (r : RSto K ι st H) (hi : ι[n]? = some a) (ha : H a = some (.lst ws)) (h : PV K Q ι H (.val d (st.set n (.lst ds)))) (q : RDs K ι H ds vs) (qd : RD K ι H d v) : Q v (upd H a (.lst vs)) := by
  have e : Evo ι H ι (upd H a (.lst vs)) := Evo.write (List.mem_of_getElem? hi) ha rfl
  exact h ι _ _ e (r.write hi ha rfl ⟨vs, upd_same, RDs.mono e.kp _ _ q⟩) (RD.mono e.kp _ _ qd)
end

/-! ### arithmetic -/
def ofP (o : Option D) (st : Sto) : Out D := match o with
  | some d => .val d st
  | none => .bad
theorem PV.ofP {K : PySem.W.Frag} {Q : VK} {ι : List Addr} {H : Hp} {st : Sto} {o : Option D} (h : PV K Q ι H (ofP o st)) : ∃ d, o = some d ∧ PV K Q ι H (.val d st) := by
  cases o with
  | none => exact h.elim
  | some d => exact ⟨d, rfl, h⟩
def dAdd (a b : D) (st : Sto) : Out D := match a, b with
  | .int i, .int j => .val (.int (i + j)) st
  | .int i, .bl k => .val (.int (i + b2i k)) st
  | .str x, .str y => if x.length + y.length ≤ sizeLine then .val (.str (x ++ y)) st else .bad
  | .tup xs, .tup ys => if xs.length ≠ 0 ∧ xs.length + ys.length ≤ sizeLine then .val (.tup (xs ++ ys)) st else .bad
  | a, b => match listOf st a, listOf st b with
    | some xs, some ys => if xs.length + ys.length ≤ sizeLine then .val (.ro (xs ++ ys)) st else .bad
    | _, _ => .bad

def rCatL (K : PySem.W.Frag) : R2 := fun x y H Q => ∃ a b xs ys, x = .ref a ∧ y = .ref b ∧ RdL K H a xs ∧ RdL K H b ys ∧ xs.length + ys.length ≤ sizeLine ∧ ∀ p, H p = none → Q (.ref p) (upd H p (.lst (xs ++ ys)))
section
variable {X : Cx}
theorem op_catL : OpR X (binaryOp .Add) (rCatL X.K) := by
  intro pins s σ H x y v u Q I rx ry h
  obtain ⟨l, b, xs, zs, rfl, rfl, hH, hB, hz, q⟩ := h
  cases rx
  cases ry
  obtain ⟨its, n, r, e, z, hl⟩ := inv_rdl I hH
  obtain ⟨its2, n2, r2, e2, z2, hl2⟩ := inv_rdl I hB
  refine PySem.P.add_list e e2 ?_ (by rw [List.size_toArray, List.size_toArray]; omega)
  have ea : its.toArray ++ its2.toArray = (its ++ its2).toArray := by simp
  rw [ea]
  exact ⟨.ref _, _, I.lnew (t' := s.toks) (r.append r2) (by rw [List.length_append]; omega), rfl, q _ I.fresh⟩
theorem op_dAdd : OpR X (binaryOp .Add) (r2D X.K dAdd) := by
  intro pins s σ H x y v u Q I rx ry ⟨ι, st, a, b, r, ra, rb, h⟩
  unfold dAdd at h
  split at h
  · obtain rfl := ra
    obtain rfl := rb
    exact op_add pins s σ H _ _ v u Q I rx ry ⟨_, _, rfl, rfl, PV.val r h rfl⟩
  · obtain rfl := ra
    obtain rfl := rb
    exact op_add_ib pins s σ H _ _ v u Q I rx ry ⟨_, _, rfl, rfl, PV.val r h rfl⟩
  · obtain rfl := ra
    obtain rfl := rb
    split at h
    · rename_i hz
      exact op_add_str pins s σ H _ _ v u Q I rx ry ⟨_, _, rfl, rfl, hz, PV.val r h rfl⟩
    · exact h.elim
  · obtain ⟨p, vs, rfl, h1, h2⟩ := ra
    obtain ⟨p', ws, rfl, h3, h4⟩ := rb
    split at h
    · rename_i hz
      have l1 := h2.len
      have l2 := h4.len
      refine op_catT pins s σ H _ _ v u Q I rx ry ⟨p, p', vs, ws, rfl, rfl, h1, h3, fun z => hz.1 (by rw [← l1, z]; rfl), by omega, fun z => ?_, fun _ => PV.tup r h (h2.app h4)⟩
      have q := h2.app h4
      rw [z, List.append_nil] at q
      exact PV.val r h ⟨p, vs, rfl, h1, q⟩
    · exact h.elim
  · split at h
    · rename_i e1 e2
      obtain ⟨p, vs, rfl, h1, h2⟩ := listOf_ok r e1 ra
      obtain ⟨p', ws, rfl, h3, h4⟩ := listOf_ok r e2 rb
      split at h
      · rename_i hz
        have l1 := h2.len
        have l2 := h4.len
        exact op_lock op_catL pins s σ H _ _ v u Q I rx ry ⟨p, p', vs, ws, rfl, rfl, h1, h3, by omega, PV.ro r h (h2.app h4)⟩
      · exact h.elim
    · exact h.elim
def dSub (a b : D) (st : Sto) : Out D := match a, b with
  | .int i, .int j => .val (.int (i - j)) st
  | _, _ => .bad
theorem op_dSub : OpR X (binaryOp .Sub) (r2D X.K dSub) := by
  intro pins s σ H x y v u Q I rx ry ⟨ι, st, a, b, r, ra, rb, h⟩
  unfold dSub at h
  split at h
  · obtain rfl := ra
    obtain rfl := rb
    exact op_sub pins s σ H _ _ v u Q I rx ry ⟨_, _, rfl, rfl, PV.val r h rfl⟩
  · exact h.elim
def dMul (a b : D) (st : Sto) : Out D := match a, b with
  | .int i, .int j => if i.natAbs.log2 + j.natAbs.log2 < 1000000 then .val (.int (i * j)) st else .bad
  | _, _ => .bad
theorem op_dMul : OpR X (binaryOp .Mult) (r2D X.K dMul) := by
  intro pins s σ H x y v u Q I rx ry ⟨ι, st, a, b, r, ra, rb, h⟩
  unfold dMul at h
  split at h
  · obtain rfl := ra
    obtain rfl := rb
    split at h
    · rename_i hz
      exact op_mulW pins s σ H _ _ v u Q I rx ry ⟨_, _, rfl, rfl, hz, PV.val r h rfl⟩
    · exact h.elim
  · exact h.elim
def dFdv (a b : D) (st : Sto) : Out D := match a, b with
  | .int i, .int j => if 0 < j ∧ j.natAbs.log2 < 9000 then .val (.int (i / j)) st else .bad
  | _, _ => .bad
theorem op_dFdv : OpR X (binaryOp .FloorDiv) (r2D X.K dFdv) := by
  intro pins s σ H x y v u Q I rx ry ⟨ι, st, a, b, r, ra, rb, h⟩
  unfold dFdv at h
  split at h
  · obtain rfl := ra
    obtain rfl := rb
    split at h
    · rename_i hz
      exact op_fdivW pins s σ H _ _ v u Q I rx ry ⟨_, _, rfl, rfl, hz, PV.val r h rfl⟩
    · exact h.elim
  · exact h.elim
def dMod (a b : D) (st : Sto) : Out D := match a, b with
  | .int i, .int j => if 0 < j then .val (.int (i % j)) st else .bad
  | _, _ => .bad
theorem op_dMod : OpR X (binaryOp .Mod) (r2D X.K dMod) := by
  intro pins s σ H x y v u Q I rx ry ⟨ι, st, a, b, r, ra, rb, h⟩
  unfold dMod at h
  split at h
  · obtain rfl := ra
    obtain rfl := rb
    split at h
    · rename_i hz
      exact op_mod pins s σ H _ _ v u Q I rx ry ⟨_, _, rfl, rfl, hz, PV.val r h rfl⟩
    · exact h.elim
  · exact h.elim
def dPow (a b : D) (st : Sto) : Out D := match a, b with
  | .int i, .int j => if 0 ≤ j ∧ (i.natAbs.log2 + 1 : Int) * j ≤ 2 ^ 27 then .val (.int (i ^ j.toNat)) st else .bad
  | _, _ => .bad
theorem op_dPow : OpR X (binaryOp .Pow) (r2D X.K dPow) := by
  intro pins s σ H x y v u Q I rx ry ⟨ι, st, a, b, r, ra, rb, h⟩
  unfold dPow at h
  split at h
  · rename_i i j
    obtain rfl := ra
    obtain rfl := rb
    split at h
    · rename_i hz
      obtain ⟨t, rfl⟩ := rx
      obtain ⟨t', rfl⟩ := ry
      have hb : (Builtin.Int.intBits i : Int) ≤ (i.natAbs.log2 + 1 : Int) := by
        unfold Builtin.Int.intBits
        split <;> omega
      refine pow_int hz.1 (Int.le_trans (Int.mul_le_mul_of_nonneg_right hb hz.1) hz.2) ⟨.int (i ^ j.toNat), H, I.tok _, ⟨_, rfl⟩, PV.val r h rfl⟩
    · exact h.elim
  · exact h.elim
def dNeg (a : D) (st : Sto) : Out D := match a with
  | .int i => .val (.int (-i)) st
  | _ => .bad
theorem un_dNeg : UnR X (unaryOp .USub) (r1D X.K dNeg) := by
  intro pins s σ H x v Q I rx ⟨ι, st, a, r, ra, h⟩
  unfold dNeg at h
  split at h
  · obtain rfl := ra
    exact un_neg pins s σ H _ v Q I rx ⟨_, rfl, PV.val r h rfl⟩
  · exact h.elim

/-! ### comparisons of ints and texts -/
def ltS (a b : Str) : Bool := decide (a.cps.toList < b.cps.toList)
def dLt (a b : D) (st : Sto) : Out D := match a, b with
  | .int i, .int j => .val (.bl (decide (i < j))) st
  | .str i, .str j => .val (.bl (ltS i j)) st
  | _, _ => .bad
theorem op_dLt : OpR X (compareOp .Lt) (r2D X.K dLt) := by
  intro pins s σ H x y v u Q I rx ry ⟨ι, st, a, b, r, ra, rb, h⟩
  unfold dLt at h
  split at h
  · obtain rfl := ra
    obtain rfl := rb
    exact op_lt pins s σ H _ _ v u Q I rx ry ⟨_, _, rfl, rfl, PV.val r h rfl⟩
  · obtain rfl := ra
    obtain rfl := rb
    exact op_lt_str pins s σ H _ _ v u Q I rx ry ⟨_, _, rfl, rfl, PV.val r h rfl⟩
  · exact h.elim
def dLe (a b : D) (st : Sto) : Out D := match a, b with
  | .int i, .int j => .val (.bl (decide (i ≤ j))) st
  | _, _ => .bad
theorem op_dLe : OpR X (compareOp .LtE) (r2D X.K dLe) := by
  intro pins s σ H x y v u Q I rx ry ⟨ι, st, a, b, r, ra, rb, h⟩
  unfold dLe at h
  split at h
  · obtain rfl := ra
    obtain rfl := rb
    exact op_le pins s σ H _ _ v u Q I rx ry ⟨_, _, rfl, rfl, PV.val r h rfl⟩
  · exact h.elim
def dGt (a b : D) (st : Sto) : Out D := match a, b with
  | .int i, .int j => .val (.bl (decide (j < i))) st
  | _, _ => .bad
theorem op_dGt : OpR X (compareOp .Gt) (r2D X.K dGt) := by
  intro pins s σ H x y v u Q I rx ry ⟨ι, st, a, b, r, ra, rb, h⟩
  unfold dGt at h
  split at h
  · obtain rfl := ra
    obtain rfl := rb
    exact op_gt pins s σ H _ _ v u Q I rx ry ⟨_, _, rfl, rfl, PV.val r h rfl⟩
  · exact h.elim
def dGe (a b : D) (st : Sto) : Out D := match a, b with
  | .int i, .int j => .val (.bl (decide (j ≤ i))) st
  | _, _ => .bad
theorem op_dGe : OpR X (compareOp .GtE) (r2D X.K dGe) := by
  intro pins s σ H x y v u Q I rx ry ⟨ι, st, a, b, r, ra, rb, h⟩
  unfold dGe at h
  split at h
  · obtain rfl := ra
    obtain rfl := rb
    exact op_ge pins s σ H _ _ v u Q I rx ry ⟨_, _, rfl, rfl, PV.val r h rfl⟩
  · exact h.elim
def isNon : D → Bool
  | .non => true
  | _ => false
theorem isNon_ok {K : PySem.W.Frag} {ι : List Addr} {H : Hp} {d : D} {v : V} (q : RD K ι H d v) : decide (v = .non) = isNon d := by
  cases d with
  | non => rw [show v = .non from q]; rfl
  | bl _ => rw [show v = .bl _ from q]; rfl
  | int _ => rw [show v = .int _ from q]; rfl
  | str _ => rw [show v = .str _ from q]; rfl
  | tup _ => obtain ⟨a, vs, e, _⟩ := q; rw [e]; rfl
  | exc _ _ => obtain ⟨a, dd, w, e, _⟩ := q; rw [e]; rfl
  | ro _ => obtain ⟨a, vs, e, _⟩ := q; rw [e]; rfl
  | obj _ => obtain ⟨a, e, _⟩ := q; rw [e]; rfl
  | glo _ => rw [show v = .ref _ from q]; rfl
  | ty _ => rw [show v = .ty _ from q]; rfl
def dIs (a b : D) (st : Sto) : Out D := match b with
  | .non => .val (.bl (isNon a)) st
  | _ => .bad
theorem op_dIs : OpR X (compareOp .Is) (r2D X.K dIs) := by
  intro pins s σ H x y v u Q I rx ry ⟨ι, st, a, b, r, ra, rb, h⟩
  unfold dIs at h
  split at h
  · obtain rfl := rb
    exact op_isN pins s σ H _ _ v u Q I rx ry ⟨rfl, by rw [isNon_ok ra]; exact PV.val r h rfl⟩
  · exact h.elim
def dIsNot (a b : D) (st : Sto) : Out D := match b with
  | .non => .val (.bl (!isNon a)) st
  | _ => .bad
theorem op_dIsNot : OpR X (compareOp .IsNot) (r2D X.K dIsNot) := by
  intro pins s σ H x y v u Q I rx ry ⟨ι, st, a, b, r, ra, rb, h⟩
  unfold dIsNot at h
  split at h
  · obtain rfl := rb
    exact op_notN pins s σ H _ _ v u Q I rx ry ⟨rfl, by rw [isNon_ok ra]; exact PV.val r h rfl⟩
  · exact h.elim

/-! ### data: == , !=, in, repr -/
def keyD : Key → PyData
  | .inl i => .int i
  | .inr x => .str x
mutual
/-- as data, what is no changing thing -/
def pdp : D → Option PyData
  | .non => some .none
  | .bl b => some (.bool b)
  | .int i => some (.int i)
  | .str x => some (.str x)
  | .tup xs => (pdps xs).map .tuple
  | .ro xs => (pdps xs).map .list
  | _ => none
def pdps : List D → Option (List PyData)
  | [] => some []
  | d :: ds => match pdp d, pdps ds with
    | some x, some xs => some (x :: xs)
    | _, _ => none
end
def pd (st : Sto) (d : D) : Option PyData := match d with
  | .obj n => match st[n]? with
    | some (.lst xs) => (pdps xs).map .list
    | _ => none
  | d => pdp d
section
variable {pins : List (Addr × Obj)} {σ : St} {H : Hp} {s : Shared} {ι : List Addr} {st : Sto}
mutual
theorem pdp_reads (I : Inv X pins σ H s) : ∀ (d : D) (p : PyData) (v : V) (u : Value), pdp d = some p → RD X.K ι H d v → RelV v u → ∃ as, Reads s.heap u p as
  | .non, _, _, _, h, q, r => by
    cases h
    obtain rfl := q
    cases r
    exact ⟨_, Reads.none⟩
  | .bl b, _, _, _, h, q, r => by
    cases h
    obtain rfl := q
    cases r
    exact ⟨_, Reads.bool b⟩
  | .int i, _, _, _, h, q, r => by
    cases h
    obtain rfl := q
    obtain ⟨t, rfl⟩ := r
    exact ⟨_, Reads.int i t⟩
  | .str x, _, _, _, h, q, r => by
    cases h
    obtain rfl := q
    obtain ⟨t, rfl⟩ := r
    exact ⟨_, Reads.str x t⟩
  | .tup xs, p, v, u, h, q, r => by
    obtain ⟨ps, h1, rfl⟩ := Option.map_eq_some_iff.mp (show (pdps xs).map PyData.tuple = some p from h)
    obtain ⟨a, vs, rfl, h2, h3⟩ := q
    cases r
    obtain ⟨its, rv, ⟨o, ho, hc, n, hd⟩, _⟩ := I.tuple h2
    obtain ⟨as, hr⟩ := pdps_reads I xs ps vs its h1 h3 rv
    exact ⟨_, Reads.tuple ho hc hd hr⟩
  | .ro xs, p, v, u, h, q, r => by
    obtain ⟨ps, h1, rfl⟩ := Option.map_eq_some_iff.mp (show (pdps xs).map PyData.list = some p from h)
    obtain ⟨a, vs, rfl, h2, h3⟩ := q
    cases r
    obtain ⟨its, rv, ⟨o, n, ho, hc, _, hd⟩, _⟩ := I.list h2.sq
    obtain ⟨as, hr⟩ := pdps_reads I xs ps vs its h1 h3 rv
    exact ⟨_, Reads.list ho hc hd hr⟩
  | .exc _ _, _, _, _, h, _, _ => by cases h
  | .obj _, _, _, _, h, _, _ => by cases h
  | .glo _, _, _, _, h, _, _ => by cases h
  | .ty _, _, _, _, h, _, _ => by cases h
theorem pdps_reads (I : Inv X pins σ H s) : ∀ (ds : List D) (ps : List PyData) (vs : List V) (us : List Value), pdps ds = some ps → RDs X.K ι H ds vs → Vals vs us → ∃ as, ReadsAll s.heap us ps as
  | [], _, _, _, h, q, r => by
    cases h
    obtain rfl := q
    cases r
    exact ⟨_, ReadsAll.nil⟩
  | d :: ds, ps, vs, us, h, q, r => by
    obtain ⟨y, ys, rfl, q1, q2⟩ := q
    cases r with
    | cons r1 r2 =>
      have h' : (match pdp d, pdps ds with
        | some x, some xs => some (x :: xs)
        | _, _ => none) = some ps := h
      cases e1 : pdp d with
      | none => rw [e1] at h'; cases h'
      | some x =>
        cases e2 : pdps ds with
        | none => rw [e1, e2] at h'; cases h'
        | some xs =>
          rw [e1, e2] at h'
          cases h'
          obtain ⟨as, z1⟩ := pdp_reads I d x y _ e1 q1 r1
          obtain ⟨bs, z2⟩ := pdps_reads I ds xs ys _ e2 q2 r2
          exact ⟨_, ReadsAll.cons z1 z2⟩
end
theorem pd_reads (I : Inv X pins σ H s) (rs : RSto X.K ι st H) {d : D} {p : PyData} {v : V} {u : Value} (h : pd st d = some p) (q : RD X.K ι H d v) (r : RelV v u) : ∃ as, Reads s.heap u p as := by
  unfold pd at h
  split at h
  · split at h
    · rename_i n xs e
      obtain ⟨ps, h1, rfl⟩ := Option.map_eq_some_iff.mp h
      obtain ⟨a, vs, rfl, h2, h3, h4⟩ := obj_lst rs e q
      cases r
      obtain ⟨its, rv, ⟨o, n, ho, hc, _, hd⟩, _⟩ := I.list (.inl (.inl h3))
      obtain ⟨as, hr⟩ := pdps_reads I xs ps vs its h1 h4 rv
      exact ⟨_, Reads.list ho hc hd hr⟩
    · cases h
  · exact pdp_reads I d p v u h q r
end
def dEq (a b : D) (st : Sto) : Out D := match a, b with
  | .int i, .int j => .val (.bl (i == j)) st
  | .str i, .str j => .val (.bl (i == j)) st
  | a, b => match pd st a, pd st b with
    | some p, some q => if (SeqAt.shaped p && SeqAt.shaped q) = true then .val (.bl (PyData.eqv p q)) st else .bad
    | _, _ => .bad
def dNe (a b : D) (st : Sto) : Out D := match a, b with
  | .int i, .int j => .val (.bl (!(i == j))) st
  | .str i, .str j => .val (.bl (!(i == j))) st
  | a, b => match pd st a, pd st b with
    | some p, some q => if (SeqAt.shaped p && SeqAt.shaped q) = true then .val (.bl (!PyData.eqv p q)) st else .bad
    | _, _ => .bad
theorem op_dEq (hu : X.A.units + 64 < cLine) : OpR X (compareOp .Eq) (r2D X.K dEq) := by
  intro pins s σ H x y v u Q I rx ry ⟨ι, st, a, b, r, ra, rb, h⟩
  unfold dEq at h
  split at h
  · obtain rfl := ra
    obtain rfl := rb
    exact op_eq pins s σ H _ _ v u Q I rx ry ⟨rfl, by rw [dec_int]; exact PV.val r h rfl⟩
  · obtain rfl := ra
    obtain rfl := rb
    exact op_eq pins s σ H _ _ v u Q I rx ry ⟨rfl, by rw [dec_str]; exact PV.val r h rfl⟩
  split at h
  · rename_i e1 e2
    obtain ⟨as, r1⟩ := pd_reads I r e1 ra rx
    obtain ⟨bs, r2⟩ := pd_reads I r e2 rb ry
    split at h
    · rename_i hz
      obtain ⟨h1, h2⟩ := Bool.and_eq_true_iff.mp hz
      exact SeqAt.compareEq_shaped r1 r2 h1 h2 hu ⟨.bl _, H, I, rfl, PV.val r h rfl⟩
    · exact h.elim
  · exact h.elim
theorem op_dNe (hu : X.A.units + 64 < cLine) : OpR X (compareOp .NotEq) (r2D X.K dNe) := by
  intro pins s σ H x y v u Q I rx ry ⟨ι, st, a, b, r, ra, rb, h⟩
  unfold dNe at h
  split at h
  · obtain rfl := ra
    obtain rfl := rb
    exact op_ne pins s σ H _ _ v u Q I rx ry ⟨rfl, by rw [dec_int]; exact PV.val r h rfl⟩
  · obtain rfl := ra
    obtain rfl := rb
    exact op_ne pins s σ H _ _ v u Q I rx ry ⟨rfl, by rw [dec_str]; exact PV.val r h rfl⟩
  split at h
  · rename_i e1 e2
    obtain ⟨as, r1⟩ := pd_reads I r e1 ra rx
    obtain ⟨bs, r2⟩ := pd_reads I r e2 rb ry
    split at h
    · rename_i hz
      obtain ⟨h1, h2⟩ := Bool.and_eq_true_iff.mp hz
      exact SeqAt.compareNe_shaped r1 r2 h1 h2 hu ⟨.bl _, H, I, rfl, PV.val r h rfl⟩
    · exact h.elim
  · exact h.elim
end
end L2.Ev

/-! in, truth, subscripts, slices, built-in functions on evaluated values. -/
namespace L2.Ev
open PySem PySem.Spec PyProof.Rows

/-! ### in -/
def inD (neg : Bool) (a b : D) (st : Sto) : Out D := match a, b with
  | .str x, .str y => .val (.bl (if neg then !(!(Builtin.Str.occurrences y x 0 y.length 1).isEmpty) else !(Builtin.Str.occurrences y x 0 y.length 1).isEmpty)) st
  | a, b => match pd st a, pd st b with
    | some p, some (.list q) => if (SeqAt.shaped p && SeqAt.shaped (.list q)) = true then .val (.bl (if neg then !(q.any fun z => PyData.eqv z p) else q.any fun z => PyData.eqv z p)) st else .bad
    | some p, some (.tuple q) => if (SeqAt.shaped p && SeqAt.shaped (.list q)) = true then .val (.bl (if neg then !(q.any fun z => PyData.eqv z p) else q.any fun z => PyData.eqv z p)) st else .bad
    | _, _ => .bad
section
variable {X : Cx}
theorem op_inD' (hu : X.A.units + 65 < cLine) : OpR X (compareOp .In) (r2D X.K (inD false)) := by
  intro pins s σ H x y v u Q I rx ry ⟨ι, st, a, b, r, ra, rb, h⟩
  unfold inD at h
  split at h
  · obtain rfl := ra
    obtain rfl := rb
    exact op_in_str pins s σ H _ _ v u Q I rx ry ⟨_, _, rfl, rfl, PV.val r h rfl⟩
  · split at h
    · rename_i e1 e2
      obtain ⟨as, r1⟩ := pd_reads I r e1 ra rx
      obtain ⟨bs, r2⟩ := pd_reads I r e2 rb ry
      split at h
      · rename_i hz
        obtain ⟨h1, h2⟩ := Bool.and_eq_true_iff.mp hz
        exact SeqAt.in_list_reads r2 r1 (SeqAt.canLay_of_shaped h2) (SeqAt.canLay_of_shaped h1) (room_in_shaped h1 hu) ⟨.bl _, H, I, rfl, PV.val r h rfl⟩
      · exact h.elim
    · rename_i e1 e2
      obtain ⟨as, r1⟩ := pd_reads I r e1 ra rx
      obtain ⟨bs, r2⟩ := pd_reads I r e2 rb ry
      split at h
      · rename_i hz
        obtain ⟨h1, h2⟩ := Bool.and_eq_true_iff.mp hz
        exact SeqAt.in_tuple_reads r2 r1 (SeqAt.canLay_of_shaped h2) (SeqAt.canLay_of_shaped h1) (room_in_shaped h1 hu) ⟨.bl _, H, I, rfl, PV.val r h rfl⟩
      · exact h.elim
    · exact h.elim
theorem op_notInD' (hu : X.A.units + 65 < cLine) : OpR X (compareOp .NotIn) (r2D X.K (inD true)) := by
  intro pins s σ H x y v u Q I rx ry ⟨ι, st, a, b, r, ra, rb, h⟩
  unfold inD at h
  split at h
  · obtain rfl := ra
    obtain rfl := rb
    exact op_notin_str pins s σ H _ _ v u Q I rx ry ⟨_, _, rfl, rfl, PV.val r h rfl⟩
  · split at h
    · rename_i e1 e2
      obtain ⟨as, r1⟩ := pd_reads I r e1 ra rx
      obtain ⟨bs, r2⟩ := pd_reads I r e2 rb ry
      split at h
      · rename_i hz
        obtain ⟨h1, h2⟩ := Bool.and_eq_true_iff.mp hz
        exact SeqAt.notIn_list_reads r2 r1 (SeqAt.canLay_of_shaped h2) (SeqAt.canLay_of_shaped h1) (room_in_shaped h1 hu) ⟨.bl _, H, I, rfl, PV.val r h rfl⟩
      · exact h.elim
    · rename_i e1 e2
      obtain ⟨as, r1⟩ := pd_reads I r e1 ra rx
      obtain ⟨bs, r2⟩ := pd_reads I r e2 rb ry
      split at h
      · rename_i hz
        obtain ⟨h1, h2⟩ := Bool.and_eq_true_iff.mp hz
        exact SeqAt.notIn_tuple_reads r2 r1 (SeqAt.canLay_of_shaped h2) (SeqAt.canLay_of_shaped h1) (room_in_shaped h1 hu) ⟨.bl _, H, I, rfl, PV.val r h rfl⟩
      · exact h.elim
    · exact h.elim
end

/-! ### truth -/
def tru (st : Sto) : D → Option Bool
  | .non => some false
  | .bl b => some b
  | .int i => some (i != 0)
  | .str x => if x.length ≤ sizeLine then some ((x.length : Int) != 0) else none
  | .tup xs => some (!xs.isEmpty)
  | d => match listOf st d with
    | some xs => some (!xs.isEmpty)
    | none => match dctOf st d with
      | some xs => some (!xs.isEmpty)
      | none => none
theorem RKv.len {K : PySem.W.Frag} {ι : List Addr} {H : Hp} : ∀ {ds : List (Key × D)} {vs : List (Key × V)}, RKv K ι H ds vs → vs.length = ds.length
  | [], _, h => by rw [show _ = [] from h]; rfl
  | (k, d) :: ds, vs, ⟨y, ys, h1, h2, h3⟩ => by rw [h1, List.length_cons, List.length_cons, RKv.len h3]
theorem empty_len {α β : Type} {xs : List α} {ys : List β} (h : ys.length = xs.length) : ys.isEmpty = xs.isEmpty := by
  cases xs <;> cases ys <;> simp_all
theorem tru_ok' {K : PySem.W.Frag} {ι : List Addr} {H : Hp} {st : Sto} {d : D} {v : V} {b : Bool} (r : RSto K ι st H) (h : tru st d = some b) (q : RD K ι H d v) : TruV K v H b := by
  unfold tru at h
  split at h
  · cases h; rw [show v = .non from q]; rfl
  · cases h; rw [show v = .bl _ from q]; rfl
  · cases h; rw [show v = .int _ from q]; rfl
  · split at h
    · rename_i hz
      cases h
      rw [show v = .str _ from q]
      exact ⟨hz, rfl⟩
    · cases h
  · cases h
    obtain ⟨a, vs, rfl, h1, h2⟩ := q
    exact .inr (.inl ⟨vs, h1, by rw [empty_len h2.len]⟩)
  · split at h
    · rename_i e
      cases h
      obtain ⟨a, vs, rfl, h1, h2⟩ := listOf_ok r e q
      exact .inl ⟨vs, h1.sq, by rw [empty_len h2.len]⟩
    · split at h
      · rename_i e
        cases h
        obtain ⟨a, vs, rfl, h1, h2⟩ := dctOf_ok r e q
        exact .inr (.inr ⟨vs, h1, by rw [empty_len h2.len]⟩)
      · cases h
def truO (d : D) (st : Sto) : Out Bool := match tru st d with
  | some b => .val b st
  | none => .bad
theorem PG.tru {K : PySem.W.Frag} {ι : List Addr} {H : Hp} {st : Sto} {d : D} {v : V} {W : WX} {Q : Bool → Hp → Prop} {σ : St} (r : RSto K ι st H) (h : PG K (fun _ _ a b => b = a) W Q σ ι H (truO d st)) (q : RD K ι H d v) : ∃ k, TruV K v H k ∧ Q k H := by
  unfold truO at h
  split at h
  · rename_i b e
    exact ⟨b, tru_ok' r e q, h ι H b Evo.refl r rfl⟩
  · exact h.elim

/-! ### subscripts -/
def dIx (a b : D) (st : Sto) : Out D := match b with
  | .int i => (match a with
    | .str z => if z.length ≤ sizeLine then (match atI z.cps.toList i with
      | some c => .val (.str ⟨#[c]⟩) st
      | none => .bad) else .bad
    | .tup xs => ofP (atI xs i) st
    | a => match listOf st a with
      | some xs => ofP (atI xs i) st
      | none => .bad)
  | _ => .bad
theorem RDs.ats {K : PySem.W.Frag} {ι : List Addr} {H : Hp} {ds : List D} {vs : List V} {i : Int} {d : D} (h : RDs K ι H ds vs) (e : atI ds i = some d) : ∃ v, atI vs i = some v ∧ RD K ι H d v := by
  unfold atI at e ⊢
  rw [h.len]
  cases q : ixN ds.length i with
  | none => rw [q] at e; cases e
  | some j =>
    rw [q] at e
    exact h.get e
theorem PV.at_ {K : PySem.W.Frag} {Q : VK} {ι : List Addr} {H : Hp} {st : Sto} {ds : List D} {vs : List V} {i : Int} (r : RSto K ι st H) (q : RDs K ι H ds vs) (h : PV K Q ι H (L2.Ev.ofP (atI ds i) st)) : ∃ v, atI vs i = some v ∧ Q v H := by
  obtain ⟨d, e, h2⟩ := PV.ofP h
  obtain ⟨v, e2, q2⟩ := q.ats e
  exact ⟨v, e2, PV.val r h2 q2⟩
section
variable {X : Cx}
theorem ix_dIx : IxR X (r2D X.K dIx) := by
  intro value slice pins s σ H x y v u Q I rx ry ⟨ι, st, a, b, r, ra, rb, h⟩ hs
  unfold dIx at h
  split at h
  · obtain rfl := rb
    split at h
    · obtain rfl := ra
      split at h
      · rename_i hz
        split at h
        · rename_i e
          exact ix_str value slice pins s σ H _ _ v u Q I rx ry ⟨_, _, _, rfl, rfl, hz, e, PV.val r h rfl⟩ hs
        · exact h.elim
      · exact h.elim
    · obtain ⟨p, vs, rfl, h1, h2⟩ := ra
      obtain ⟨w, e, q⟩ := PV.at_ r h2 h
      exact ix_tup value slice pins s σ H _ _ v u Q I rx ry ⟨p, vs, _, w, rfl, rfl, h1, e, q⟩ hs
    · split at h
      · rename_i e1
        obtain ⟨p, vs, rfl, h1, h2⟩ := listOf_ok r e1 ra
        obtain ⟨w, e, q⟩ := PV.at_ r h2 h
        exact ix_list value slice pins s σ H _ _ v u Q I rx ry ⟨p, vs, _, w, rfl, rfl, h1.sq, e, q⟩ hs
      · exact h.elim
  · exact h.elim
end
/-! ### a list that is made: locked, or in the store -/
def mkL (m : Bool) (xs : List D) (st : Sto) : Out D := match m with
  | true => .val (.obj st.length) (st ++ [.lst xs])
  | false => .val (.ro xs) st
def lkQ (m : Bool) (Q : VK) : VK := match m with
  | true => Q
  | false => lockQ Q
theorem PV.mkL {K : PySem.W.Frag} {Q : VK} {ι : List Addr} {H : Hp} {st : Sto} {m : Bool} {ds : List D} {vs : List V} (r : RSto K ι st H) (h : PV K Q ι H (L2.Ev.mkL m ds st)) (q : RDs K ι H ds vs) : ∀ p, H p = none → lkQ m Q (.ref p) (upd H p (.lst vs)) := by
  cases m with
  | true => exact PV.lay r h q
  | false => exact PV.ro r h q
theorem PG.mkL {K : PySem.W.Frag} {W : WX} {σ : St} {Q : VK} {ι : List Addr} {H : Hp} {st : Sto} {m : Bool} {ds : List D} {vs : List V} (r : RSto K ι st H) (h : PG K (RD K) W Q σ ι H (L2.Ev.mkL m ds st)) (q : RDs K ι H ds vs) : ∀ p, H p = none → lkQ m Q (.ref p) (upd H p (.lst vs)) := by
  cases m with
  | true => exact PG.lay r h q
  | false => exact PG.ro r h q
section
variable {X : Cx}
theorem pe_lk (m : Bool) {e : Expr} {t : TE} (h : PE X e t) : PE X e (fun σ H Q => t σ H (lkQ m Q)) := by
  cases m with
  | true => exact h
  | false => exact pe_lock h
theorem call_lk (m : Bool) {f : Value} {r : List V → Hp → VK → Prop} (h : CallR X f r) : CallR X f (fun xs H Q => r xs H (lkQ m Q)) := by
  cases m with
  | true => exact h
  | false => exact call_lock h
theorem sl_lk (m : Bool) {r : V → Option Int → Option Int → Hp → VK → Prop} (h : SlR X r) : SlR X (fun x lo hi H Q => r x lo hi H (lkQ m Q)) := by
  cases m with
  | true => exact h
  | false => exact sl_lock h
end
/-! ### slices -/
def cutD {α : Type} (xs : List α) (lo hi : Option Int) : List α := (xs.drop (HT.sIx xs.length 0 lo)).take (HT.sIx xs.length xs.length hi - HT.sIx xs.length 0 lo)
theorem RDs.cut {K : PySem.W.Frag} {ι : List Addr} {H : Hp} {ds : List D} {vs : List V} {lo hi : Option Int} (h : RDs K ι H ds vs) : RDs K ι H (cutD ds lo hi) (cutV vs lo hi) := by
  unfold cutD cutV
  rw [h.len]
  exact (h.drop _).take _
def dSl (m : Bool) (a : D) (lo hi : Option Int) (st : Sto) : Out D := match a with
  | .str z => if z.length ≤ sizeLine then .val (.str (cutS z lo hi)) st else .bad
  | .tup xs => if (decide (HT.sIx xs.length 0 lo = 0) && decide (HT.sIx xs.length xs.length hi = xs.length)) = true then .bad else .val (.tup (cutD xs lo hi)) st
  | a => match listOf st a with
    | some xs => mkL m (cutD xs lo hi) st
    | none => .bad
def rslD (K : PySem.W.Frag) (g : D → Option Int → Option Int → Sto → Out D) : V → Option Int → Option Int → Hp → VK → Prop := fun x lo hi H Q => ∃ ι st a, RSto K ι st H ∧ RD K ι H a x ∧ PV K Q ι H (g a lo hi st)
section
variable {X : Cx}
theorem sl_dSl (m : Bool) : SlR X (rslD X.K (dSl m)) := by
  intro pins s σ H x v vl vu lo hi sl Q I rx hs pl pu ⟨ι, st, a, r, ra, h⟩
  unfold dSl at h
  split at h
  · obtain rfl := ra
    split at h
    · rename_i hz
      exact sl_str pins s σ H _ v vl vu lo hi sl Q I rx hs pl pu ⟨_, rfl, hz, PV.val r h rfl⟩
    · exact h.elim
  · obtain ⟨p, vs, rfl, h1, h2⟩ := ra
    split at h
    · exact h.elim
    · rename_i hw
      refine sl_tup pins s σ H _ v vl vu lo hi sl Q I rx hs pl pu ⟨p, vs, rfl, h1, fun z => hw ?_, PV.tup r h h2.cut⟩
      rw [h2.len] at z
      rw [Bool.and_eq_true]
      exact ⟨decide_eq_true z.1, decide_eq_true z.2⟩
  · split at h
    · rename_i e1
      obtain ⟨p, vs, rfl, h1, h2⟩ := listOf_ok r e1 ra
      exact sl_lk m sl_list pins s σ H _ v vl vu lo hi sl Q I rx hs pl pu ⟨p, vs, rfl, h1.sq, PV.mkL r h h2.cut⟩
    · exact h.elim
end
/-! ### built-in functions -/
def intsOf : List D → Option (List Int)
  | [] => some []
  | .int i :: r => (intsOf r).map (i :: ·)
  | _ :: _ => none
theorem intsOf_ok {K : PySem.W.Frag} {ι : List Addr} {H : Hp} : ∀ {ds : List D} {ns : List Int} {vs : List V}, intsOf ds = some ns → RDs K ι H ds vs → vs = ns.map V.int
  | [], ns, vs, h, q => by cases h; rw [show vs = [] from q]; rfl
  | d :: r, ns, vs, h, q => by
    cases d with
    | int i =>
      obtain ⟨ms, e, rfl⟩ := Option.map_eq_some_iff.mp (show (intsOf r).map (i :: ·) = some ns from h)
      obtain ⟨y, ys, rfl, h1, h2⟩ := q
      rw [show y = .int i from h1, intsOf_ok e h2]
      rfl
    | _ => cases h
def blsOf : List D → Option (List Bool)
  | [] => some []
  | .bl i :: r => (blsOf r).map (i :: ·)
  | _ :: _ => none
theorem blsOf_ok {K : PySem.W.Frag} {ι : List Addr} {H : Hp} : ∀ {ds : List D} {ns : List Bool} {vs : List V}, blsOf ds = some ns → RDs K ι H ds vs → vs = ns.map V.bl
  | [], ns, vs, h, q => by cases h; rw [show vs = [] from q]; rfl
  | d :: r, ns, vs, h, q => by
    cases d with
    | bl i =>
      obtain ⟨ms, e, rfl⟩ := Option.map_eq_some_iff.mp (show (blsOf r).map (i :: ·) = some ns from h)
      obtain ⟨y, ys, rfl, h1, h2⟩ := q
      rw [show y = .bl i from h1, blsOf_ok e h2]
      rfl
    | _ => cases h
def fLen (xs : List D) (st : Sto) : Out D := match xs with
  | [.str z] => if z.length ≤ sizeLine then .val (.int z.length) st else .bad
  | [.tup xs] => .val (.int xs.length) st
  | [d] => (match listOf st d with
    | some xs => .val (.int xs.length) st
    | none => .bad)
  | _ => .bad
def fAbs (xs : List D) (st : Sto) : Out D := match xs with
  | [.int i] => .val (.int (if i < 0 then -i else i)) st
  | _ => .bad
def fInt (xs : List D) (st : Sto) : Out D := match xs with
  | [.int i] => .val (.int i) st
  | [.bl b] => .val (.int (if b then 1 else 0)) st
  | _ => .bad
def fMax (xs : List D) (st : Sto) : Out D := match xs with
  | [.int i, .int j] => .val (.int (if j > i then j else i)) st
  | _ => .bad
def fMin (xs : List D) (st : Sto) : Out D := match xs with
  | [.int i, .int j] => .val (.int (if j < i then j else i)) st
  | _ => .bad
def fSum (xs : List D) (st : Sto) : Out D := match xs with
  | [d] => (match (listOf st d).bind intsOf with
    | some ns => .val (.int ns.sum) st
    | none => .bad)
  | _ => .bad
def fAny (xs : List D) (st : Sto) : Out D := match xs with
  | [d] => (match (listOf st d).bind blsOf with
    | some ns => .val (.bl (ns.any id)) st
    | none => .bad)
  | _ => .bad
def fAll (xs : List D) (st : Sto) : Out D := match xs with
  | [d] => (match (listOf st d).bind blsOf with
    | some ns => .val (.bl (ns.all id)) st
    | none => .bad)
  | _ => .bad
def fList (m : Bool) (xs : List D) (st : Sto) : Out D := match xs with
  | [.tup xs] => mkL m xs st
  | [d] => (match listOf st d with
    | some xs => mkL m xs st
    | none => .bad)
  | _ => .bad
def fTuple (xs : List D) (st : Sto) : Out D := match xs with
  | [.tup xs] => .val (.tup xs) st
  | [d] => (match listOf st d with
    | some xs => .val (.tup xs) st
    | none => .bad)
  | _ => .bad
/-- what repr takes: data, a dict only with flat keys and values -/
def keyP : Key → PyData
  | .inl i => .int i
  | .inr x => .str x
def flatD : D → Option PyData
  | .non => some .none
  | .bl b => some (.bool b)
  | .int i => some (.int i)
  | .str x => some (.str x)
  | _ => none
def kvsP : List (Key × D) → Option (List (PyData × PyData))
  | [] => some []
  | (k, d) :: r => match flatD d, kvsP r with
    | some p, some ps => some ((keyP k, p) :: ps)
    | _, _ => none
def rpd (st : Sto) (d : D) : Option PyData := match dctOf st d with
  | some kvs => (kvsP kvs).map .dict
  | none => pd st d
def fRepr (xs : List D) (st : Sto) : Out D := match xs with
  | [d] => (match rpd st d with
    | some p => if (p.showable && decide (p.depth ≤ 64) && decide (p.shown.length ≤ sizeLine) && (!p.hasDict || (dctOf st d).isSome)) = true then .val (.str p.shown) st else .bad
    | none => .bad)
  | _ => .bad
end L2.Ev

/-! Calls of built-in functions, isinstance, an error's value, methods of lists: rules. -/
namespace L2.Ev
open PySem PySem.Spec PyProof.Rows
section
variable {X : Cx}
theorem call_fLen : CallR X (.builtin "len") (rnD X.K fLen) := by
  intro pins s σ H xs us Q I rx ⟨ι, st, ds, r, rd, h⟩
  unfold fLen at h
  split at h
  · obtain ⟨v, rfl, q⟩ := rd.one
    obtain rfl := q
    split at h
    · rename_i hz
      exact call_len pins s σ H _ us Q I rx ⟨_, _, rfl, ⟨hz, rfl⟩, PV.val r h rfl⟩
    · exact h.elim
  · obtain ⟨v, rfl, q⟩ := rd.one
    obtain ⟨a, vs, rfl, h1, h2⟩ := q
    exact call_len pins s σ H _ us Q I rx ⟨_, vs.length, rfl, .inr ⟨vs, h1, rfl⟩, by rw [h2.len]; exact PV.val r h rfl⟩
  · obtain ⟨v, rfl, q⟩ := rd.one
    split at h
    · rename_i e
      obtain ⟨a, vs, rfl, h1, h2⟩ := listOf_ok r e q
      exact call_len pins s σ H _ us Q I rx ⟨_, vs.length, rfl, .inl ⟨vs, h1.sq, rfl⟩, by rw [h2.len]; exact PV.val r h rfl⟩
    · exact h.elim
  · exact h.elim
theorem call_fAbs : CallR X (.builtin "abs") (rnD X.K fAbs) := by
  intro pins s σ H xs us Q I rx ⟨ι, st, ds, r, rd, h⟩
  unfold fAbs at h
  split at h
  · obtain ⟨v, rfl, q⟩ := rd.one
    obtain rfl := q
    exact call_abs pins s σ H _ us Q I rx ⟨_, rfl, PV.val r h rfl⟩
  · exact h.elim
theorem call_fInt : CallR X (.type "int") (rnD X.K fInt) := by
  intro pins s σ H xs us Q I rx ⟨ι, st, ds, r, rd, h⟩
  unfold fInt at h
  split at h
  · obtain ⟨v, rfl, q⟩ := rd.one
    obtain rfl := q
    exact call_int1 pins s σ H _ us Q I rx (.inl ⟨_, rfl, PV.val r h rfl⟩)
  · obtain ⟨v, rfl, q⟩ := rd.one
    obtain rfl := q
    exact call_int1 pins s σ H _ us Q I rx (.inr ⟨_, rfl, PV.val r h rfl⟩)
  · exact h.elim
theorem call_fMax (hc : X.calm = true) : CallR X (.builtin "max") (rnD X.K fMax) := by
  intro pins s σ H xs us Q I rx ⟨ι, st, ds, r, rd, h⟩
  unfold fMax at h
  split at h
  · obtain ⟨v, w, rfl, q1, q2⟩ := rd.two
    obtain rfl := q1
    obtain rfl := q2
    exact call_max2 hc pins s σ H _ us Q I rx ⟨_, _, rfl, PV.val r h rfl⟩
  · exact h.elim
theorem call_fMin (hc : X.calm = true) : CallR X (.builtin "min") (rnD X.K fMin) := by
  intro pins s σ H xs us Q I rx ⟨ι, st, ds, r, rd, h⟩
  unfold fMin at h
  split at h
  · obtain ⟨v, w, rfl, q1, q2⟩ := rd.two
    obtain rfl := q1
    obtain rfl := q2
    exact call_min2 hc pins s σ H _ us Q I rx ⟨_, _, rfl, PV.val r h rfl⟩
  · exact h.elim
theorem call_fSum (hc : X.calm = true) : CallR X (.builtin "sum") (rnD X.K fSum) := by
  intro pins s σ H xs us Q I rx ⟨ι, st, ds, r, rd, h⟩
  unfold fSum at h
  split at h
  · obtain ⟨v, rfl, q⟩ := rd.one
    split at h
    · rename_i e
      obtain ⟨ys, e1, e2⟩ := Option.bind_eq_some_iff.mp e
      obtain ⟨a, vs, rfl, h1, h2⟩ := listOf_ok r e1 q
      have e3 := intsOf_ok e2 h2
      exact cr_sum hc pins s σ H _ us Q I rx ⟨_, _, rfl, by rw [← e3]; exact h1.sq, PV.val r h rfl⟩
    · exact h.elim
  · exact h.elim
theorem call_fAny (hc : X.calm = true) : CallR X (.builtin "any") (rnD X.K fAny) := by
  intro pins s σ H xs us Q I rx ⟨ι, st, ds, r, rd, h⟩
  unfold fAny at h
  split at h
  · obtain ⟨v, rfl, q⟩ := rd.one
    split at h
    · rename_i e
      obtain ⟨ys, e1, e2⟩ := Option.bind_eq_some_iff.mp e
      obtain ⟨a, vs, rfl, h1, h2⟩ := listOf_ok r e1 q
      have e3 := blsOf_ok e2 h2
      exact cr_any hc pins s σ H _ us Q I rx ⟨_, _, rfl, by rw [← e3]; exact h1.sq, PV.val r h rfl⟩
    · exact h.elim
  · exact h.elim
theorem call_fAll (hc : X.calm = true) : CallR X (.builtin "all") (rnD X.K fAll) := by
  intro pins s σ H xs us Q I rx ⟨ι, st, ds, r, rd, h⟩
  unfold fAll at h
  split at h
  · obtain ⟨v, rfl, q⟩ := rd.one
    split at h
    · rename_i e
      obtain ⟨ys, e1, e2⟩ := Option.bind_eq_some_iff.mp e
      obtain ⟨a, vs, rfl, h1, h2⟩ := listOf_ok r e1 q
      have e3 := blsOf_ok e2 h2
      exact cr_all hc pins s σ H _ us Q I rx ⟨_, _, rfl, by rw [← e3]; exact h1.sq, PV.val r h rfl⟩
    · exact h.elim
  · exact h.elim
theorem call_fList (m : Bool) : CallR X (.type "list") (rnD X.K (fList m)) := by
  intro pins s σ H xs us Q I rx ⟨ι, st, ds, r, rd, h⟩
  unfold fList at h
  split at h
  · obtain ⟨v, rfl, q⟩ := rd.one
    obtain ⟨a, vs, rfl, h1, h2⟩ := q
    exact call_lk m call_list_of pins s σ H _ us Q I rx ⟨a, vs, rfl, .inr h1, PV.mkL r h h2⟩
  · obtain ⟨v, rfl, q⟩ := rd.one
    split at h
    · rename_i e
      obtain ⟨a, vs, rfl, h1, h2⟩ := listOf_ok r e q
      exact call_lk m call_list_of pins s σ H _ us Q I rx ⟨a, vs, rfl, .inl h1.sq, PV.mkL r h h2⟩
    · exact h.elim
  · exact h.elim
theorem call_fTuple : CallR X (.type "tuple") (rnD X.K fTuple) := by
  intro pins s σ H xs us Q I rx ⟨ι, st, ds, r, rd, h⟩
  unfold fTuple at h
  split at h
  · obtain ⟨v, rfl, q⟩ := rd.one
    have q0 := q
    obtain ⟨a, vs, rfl, h1, h2⟩ := q
    exact call_tuple_of pins s σ H _ us Q I rx ⟨a, vs, rfl, .inr ⟨h1, PV.val r h q0⟩⟩
  · obtain ⟨v, rfl, q⟩ := rd.one
    split at h
    · rename_i e
      obtain ⟨a, vs, rfl, h1, h2⟩ := listOf_ok r e q
      exact call_tuple_of pins s σ H _ us Q I rx ⟨a, vs, rfl, .inl ⟨h1.sq, PV.tup r h h2⟩⟩
    · exact h.elim
  · exact h.elim

/-! ### repr -/
section
variable {pins : List (Addr × Obj)} {σ : St} {H : Hp} {s : Shared} {ι : List Addr} {st : Sto}
theorem flat_reads {h : Heap} {d : D} {p : PyData} {v : V} {u : Value} (e : flatD d = some p) (q : RD X.K ι H d v) (r : RelV v u) : Reads h u p [] := by
  cases d with
  | non => cases e; obtain rfl := q; cases r; exact Reads.none
  | bl b => cases e; obtain rfl := q; cases r; exact Reads.bool b
  | int i => cases e; obtain rfl := q; obtain ⟨t, rfl⟩ := r; exact Reads.int i t
  | str x => cases e; obtain rfl := q; obtain ⟨t, rfl⟩ := r; exact Reads.str x t
  | _ => cases e
theorem key_reads {h : Heap} {k : Key} {u : Value} (e : keyIs k u = true) : Reads h u (keyP k) [] := by
  rcases keyIs_shape e with ⟨i, t, rfl, rfl⟩ | ⟨x, t, rfl, rfl⟩
  · exact Reads.int i t
  · exact Reads.str x t
theorem kvs_reads {prog : Program} {w : World} {h : Heap} : ∀ {kvs : List (Key × D)} {ps : List (PyData × PyData)} {vs : List (Key × V)} {us : List (Key × Value)} {es : List DictEntry}, kvsP kvs = some ps → RKv X.K ι H kvs vs → KV vs us → Pairs (mixKind prog w) es us →
    ReadsAll h (es.map (·.key)) (ps.map (·.1)) [] ∧ ReadsAll h (es.map (·.val)) (ps.map (·.2)) []
  | [], ps, vs, us, es, e, q, r, p => by
    cases e
    obtain rfl := q
    cases r
    cases p
    exact ⟨.nil, .nil⟩
  | (k, d) :: kr, ps, vs, us, es, e, q, r, p => by
    obtain ⟨v, vr, rfl, q1, q2⟩ := q
    cases r with
    | cons r1 r2 =>
      cases p with
      | cons p1 p2 p3 =>
        have e' : (match flatD d, kvsP kr with
          | some p, some ps => some ((keyP k, p) :: ps)
          | _, _ => none) = some ps := e
        cases e1 : flatD d with
        | none => rw [e1] at e'; cases e'
        | some pp =>
          cases e2 : kvsP kr with
          | none => rw [e1, e2] at e'; cases e'
          | some pps =>
            rw [e1, e2] at e'
            cases e'
            obtain ⟨z1, z2⟩ := kvs_reads (h := h) e2 q2 r2 p3
            have ek := r1.1
            refine ⟨ReadsAll.cons (as := []) (bs := []) (key_reads ?_) z1, ReadsAll.cons (as := []) (bs := []) (flat_reads e1 q1 ?_) z2⟩
            · have p1' : keyIs _ _ = true := p1
              rw [← ek] at p1'
              exact p1'
            · show RelV _ (DictEntry.val _)
              rw [p2]
              exact r1.2
theorem rpd_reads (I : Inv X pins σ H s) (rs : RSto X.K ι st H) {d : D} {p : PyData} {v : V} {u : Value} (h : rpd st d = some p) (q : RD X.K ι H d v) (r : RelV v u) : ∃ as, Reads s.heap u p as ∧ ((dctOf st d).isSome = true → sysModules ∉ as) := by
  unfold rpd at h
  split at h
  · rename_i kvs e
    obtain ⟨ps, h1, rfl⟩ := Option.map_eq_some_iff.mp h
    obtain ⟨a, vs, rfl, h2, h3⟩ := dctOf_ok rs e q
    cases r
    obtain ⟨hz, hS, us, rk, o, es, ep, ho, hx, hd, _, hp, _⟩ := I.hok a _ h2
    obtain ⟨z1, z2⟩ := kvs_reads (h := s.heap) h1 h3 rk hp
    refine ⟨_, Reads.dict ho hx.1 hd z1 z2, fun _ => ?_⟩
    intro hm
    have hm' : sysModules = a := by simpa using hm
    rw [← hm'] at hS
    simp at hS
  · rename_i e
    obtain ⟨as, z⟩ := pd_reads I rs h q r
    refine ⟨as, z, fun hs => ?_⟩
    rw [e] at hs
    cases hs
end
theorem call_fRepr (hg : X.A.guards = some []) (hu : X.A.units + 66 < cLine) : CallR X (.builtin "repr") (rnD X.K fRepr) := by
  intro pins s σ H xs us Q I rx ⟨ι, st, ds, r, rd, h⟩
  unfold fRepr at h
  split at h
  · obtain ⟨v, rfl, q⟩ := rd.one
    split at h
    · rename_i p e
      split at h
      · rename_i hz
        obtain ⟨hz, hd⟩ := Bool.and_eq_true_iff.mp hz
        obtain ⟨hz, hl⟩ := Bool.and_eq_true_iff.mp hz
        obtain ⟨hs, hp⟩ := Bool.and_eq_true_iff.mp hz
        have hl' := of_decide_eq_true hl
        have hp' := of_decide_eq_true hp
        obtain ⟨u, rfl, ru⟩ := vals1 rx
        obtain ⟨as, rr, ns⟩ := rpd_reads I r e q ru
        have fin : ∀ h' k tk, (∀ b o, s.heap.get? b = some o → h'.get? b = some o) → EP X pins σ Q (.str p.shown k) { s with heap := h', toks := tk } := fun h' k tk hk => ⟨.str p.shown, H, I.kept hk, ⟨_, rfl⟩, PV.val r h rfl⟩
        have hdx : p.hasDict = true → (dctOf st _).isSome = true := fun hx => by
          rcases Bool.or_eq_true_iff.mp hd with z | z
          · rw [hx] at z
            cases z
          · exact z
        cases rr with
        | none => exact PySem.P.repr_of_none (fin _ _ _ fun _ _ e => e)
        | bool b => exact PySem.P.repr_of_bool (fin s.heap s.toks _ fun _ _ e => e)
        | int i t => exact PySem.P.repr_of_int (of_decide_eq_true hs) (fin s.heap s.toks _ fun _ _ e => e)
        | str x t => exact PySem.P.repr_of_str (fin s.heap s.toks _ fun _ _ e => e) hl'
        | list h1 h2 h3 h4 => exact repr_of_reads' (.list h1 h2 h3 h4) hs (fun hx => ns (hdx hx)) hg (by omega) (fun _ _ e => e) (fun h' k tk hk => fin h' k tk hk) hl'
        | tuple h1 h2 h3 h4 => exact repr_of_reads' (.tuple h1 h2 h3 h4) hs (fun hx => ns (hdx hx)) hg (by omega) (fun _ _ e => e) (fun h' k tk hk => fin h' k tk hk) hl'
        | dict h1 h2 h3 h4 h5 => exact repr_of_reads' (.dict h1 h2 h3 h4 h5) hs (fun hx => ns (hdx hx)) hg (by omega) (fun _ _ e => e) (fun h' k tk hk => fin h' k tk hk) hl'
      · exact h.elim
    · exact h.elim
  · exact h.elim
end
end L2.Ev

/-! isinstance; an error's value; an own error as a value; methods of lists. -/
namespace L2.Ev
open PySem PySem.Spec PyProof.Rows

/-! ### isinstance -/
def tyD (isE : Str → Bool) (st : Sto) : D → Option D
  | .non => some (.ty "NoneType")
  | .bl _ => some (.ty "bool")
  | .int _ => some (.ty "int")
  | .str _ => some (.ty "str")
  | .tup _ => some (.ty "tuple")
  | .ro _ => some (.ty "list")
  | .exc c _ => if isE c = true then some (.glo c) else none
  | .obj n => match st[n]? with
    | some (.lst _) => some (.ty "list")
    | some (.dct _) => some (.ty "dict")
    | _ => none
  | _ => none
/-- a class as a value of the model -/
def tV (K : PySem.W.Frag) : D → Value
  | .ty n => .type n
  | .glo x => .ref (gA K x)
  | _ => .none
def isCls : D → Bool
  | .ty _ => true
  | .glo _ => true
  | _ => false
def kAny (kit : D → D → Option Bool) (t : D) : List D → Option Bool
  | [] => some false
  | c :: r => if isCls c = true then (match kit t c with
    | some true => some true
    | some false => kAny kit t r
    | none => none) else none
def fIsi (isE : Str → Bool) (kit : D → D → Option Bool) (xs : List D) (st : Sto) : Out D := match xs with
  | [d, .tup cs] => (match (tyD isE st d).bind fun t => kAny kit t cs with
    | some b => .val (.bl b) st
    | none => .bad)
  | [d, c] => if isCls c = true then (match (tyD isE st d).bind fun t => kit t c with
    | some b => .val (.bl b) st
    | none => .bad) else .bad
  | _ => .bad
def KitOk (K : PySem.W.Frag) (kit : D → D → Option Bool) : Prop := ∀ t c b, kit t c = some b → PySem.W.kitOne K (tV K t) (tV K c) = some b
theorem cls_val {K : PySem.W.Frag} {ι : List Addr} {H : Hp} {c : D} {v : V} {u : Value} (h : isCls c = true) (q : RD K ι H c v) (r : RelV v u) : u = tV K c := by
  cases c with
  | ty n => obtain rfl := q; exact r
  | glo x => obtain rfl := q; exact r
  | _ => cases h
theorem kAny_ok {K : PySem.W.Frag} {ι : List Addr} {H : Hp} {kit : D → D → Option Bool} (hk : KitOk K kit) {t : D} : ∀ {cs : List D} {b : Bool} {vs : List V} {us : List Value}, kAny kit t cs = some b → RDs K ι H cs vs → Vals vs us → PySem.W.kitAny K (tV K t) us = some b
  | [], b, vs, us, h, q, r => by
    obtain rfl := q
    cases r
    exact h
  | c :: cs, b, vs, us, h, q, r => by
    obtain ⟨v, vr, rfl, q1, q2⟩ := q
    cases r with
    | cons r1 r2 =>
      unfold kAny at h
      split at h
      · rename_i hc
        have e := cls_val hc q1 r1
        rw [e]
        unfold PySem.W.kitAny
        split at h
        · rename_i e2
          rw [hk _ _ _ e2]
          exact h
        · rename_i e2
          rw [hk _ _ _ e2]
          exact kAny_ok hk h q2 r2
        · cases h
      · cases h
section
variable {X : Cx} {S fI : Addr} {isE : Str → Bool}
/-- what isinstance asks of a value -/
theorem kit_D {pins : List (Addr × Obj)} {σ : St} {H : Hp} {s : Shared} {ι : List Addr} {st : Sto} {d t : D} {v : V} {u : Value} (hE : ∀ c, isE c = true → SayC X.K S fI (gA X.K c)) (hs : PySem.W.specialIn X.K (.builtin "object.__class__") "__get__" = some (some (.builtin "getset_descriptor.__get__"))) (htk : PySem.W.takesIn X.K (.builtin "object.__class__") = some true)
    (I : Inv X pins σ H s) (r : RSto X.K ι st H) (e : tyD isE st d = some t) (q : RD X.K ι H d v) (ru : RelV v u) :
    ∃ P : Heap → Prop, PySem.W.KitX X.K u (tV X.K t) P ∧ P s.heap ∧ u ≠ .builtin "__main__.__loader__#opaque" := by
  cases d with
  | non => cases e; obtain rfl := q; exact kit_of I ru (.base .non)
  | bl b => cases e; obtain rfl := q; exact kit_of I ru (.base (.bl b))
  | int i => cases e; obtain rfl := q; exact kit_of I ru (.base (.int i))
  | str x => cases e; obtain rfl := q; exact kit_of I ru (.base (.str x))
  | tup xs =>
    cases e
    obtain ⟨a, vs, rfl, h1, h2⟩ := q
    rcases h1 with (h1 | ⟨o, h1⟩) | ⟨o, its, n, h1, h3, _⟩
    · exact kit_of I ru (.base (.tup h1))
    · exact kit_of I ru (.fTuple h1)
    · exact kit_of I ru (.kTuple h1 h3)
  | ro xs =>
    cases e
    obtain ⟨a, vs, rfl, h1, h2⟩ := q
    rcases h1 with ⟨o, h1⟩ | ⟨its, n, h1, _⟩
    · exact kit_of I ru (.base (.frz h1))
    · exact kit_of I ru (.kList h1 rfl)
  | obj n =>
    have e' : (match st[n]? with
      | some (.lst _) => some (D.ty "list")
      | some (.dct _) => some (D.ty "dict")
      | _ => none) = some t := e
    obtain ⟨a, rfl, h2⟩ := q
    cases es : st[n]? with
    | none => rw [es] at e'; cases e'
    | some o =>
      rw [es] at e'
      cases o with
      | lst ys =>
        cases e'
        obtain ⟨vs, q1, q2⟩ := r.at_ n a _ h2 es
        exact kit_of I ru (.base (.lst q1))
      | dct ys =>
        cases e'
        obtain ⟨vs, q1, q2⟩ := r.at_ n a _ h2 es
        exact kit_of I ru (.base (.dK q1))
      | _ => cases e'
  | exc c w =>
    have e' : (if isE c = true then some (D.glo c) else none) = some t := e
    split at e'
    case isFalse => cases e'
    rename_i hc
    cases e'
    obtain ⟨a, dd, y, rfl, h1, h2, h3⟩ := q
    cases (show u = Value.ref a from ru)
    have C := hE c hc
    have hcl : (PySem.W.clsIn X.K (gA X.K c)).isSome = true := by
      obtain ⟨cd, hc, _⟩ := PySem.W.any_some C.hd
      rw [hc]
      rfl
    obtain ⟨⟨oe, vs, g1, g2, g3, g4⟩, _⟩ := (show ObjOk X.prog X.w H s.heap a (exH (gA X.K c) dd a) from I.hok a _ h1)
    obtain ⟨mA, hns, hr⟩ := (show ObjOk X.prog X.w H s.heap dd (.xd _) from I.hok dd _ h2)
    obtain ⟨od, ho, hl⟩ := lookIn_ns hns
    have J : PySem.W.InstAt s.heap a oe (gA X.K c) (some od) := ⟨g1, g2, by unfold PySem.W.notCls; rw [g4] <;> rfl, by rw [g3]; exact ho⟩
    exact ⟨_, PySem.W.kitx_exc hcl C.ga C.gg C.exC C.ca hs htk C.ob, J, fun z => nomatch z⟩
  | glo _ => cases e
  | ty _ => cases e
theorem call_fIsi {kit : D → D → Option Bool} (hk : KitOk X.K kit) (hE : ∀ c, isE c = true → SayC X.K S fI (gA X.K c)) (hs : PySem.W.specialIn X.K (.builtin "object.__class__") "__get__" = some (some (.builtin "getset_descriptor.__get__"))) (htk : PySem.W.takesIn X.K (.builtin "object.__class__") = some true) : CallR X (.builtin "isinstance") (rnD X.K (fIsi isE kit)) := by
  intro pins s σ H xs us Q I rx ⟨ι, st, ds, r, rd, h⟩
  unfold fIsi at h
  split at h
  · split at h
    · rename_i e
      obtain ⟨t, e1, e2⟩ := Option.bind_eq_some_iff.mp e
      obtain ⟨v, w, rfl, q1, q2⟩ := rd.two
      obtain ⟨a, vs, rfl, h1, h2⟩ := q2
      obtain ⟨u1, u2, rfl, r1, r2⟩ := vals2 rx
      cases (show u2 = Value.ref a from r2)
      obtain ⟨P, Z, p, hx⟩ := kit_D hE hs htk I r e1 q1 r1
      obtain ⟨its, rv, ⟨o, ho, hc, n, hd⟩, _⟩ := I.tuple h1
      obtain ⟨oc, od, dt, sl⟩ := o
      simp only at hc hd
      subst hc hd
      exact PySem.W.kia_tup Z I.kIn p ho (kAny_ok hk e2 h2 rv) hx fun tk => ⟨.bl _, H, I.tok tk, rfl, PV.val r h rfl⟩
    · exact h.elim
  · split at h
    · rename_i hc
      split at h
      · rename_i e
        obtain ⟨t, e1, e2⟩ := Option.bind_eq_some_iff.mp e
        obtain ⟨v, w, rfl, q1, q2⟩ := rd.two
        obtain ⟨u1, u2, rfl, r1, r2⟩ := vals2 rx
        have ec := cls_val hc q2 r2
        rw [ec]
        obtain ⟨P, Z, p, hx⟩ := kit_D hE hs htk I r e1 q1 r1
        exact PySem.W.kia_one Z I.kIn p (hk _ _ _ e2) hx fun tk => ⟨.bl _, H, I.tok tk, rfl, PV.val r h rfl⟩
      · exact h.elim
    · exact h.elim
  · exact h.elim
end
/-! ### the value of an error -/
def baseOk : Expr → Bool
  | .Call (.Name _ _) [] [] _ => false
  | _ => true
theorem base_ok {o : Expr} {m : Str} {env : Env} {w : Sem Value} (h : baseOk o = true) : attributeBase o m env w = w := by
  unfold attributeBase
  split
  · cases h
  · rfl
def eVal (d : D) (st : Sto) : Out D := match d with
  | .exc _ v => .val v st
  | _ => .bad
section
variable {X : Cx} {S fI : Addr} {isE : Str → Bool} {e : Expr} {fe : Env' → Sto → Out D} {W : WX} {pos : Pos}
theorem pe_eVal (hE : ∀ c, isE c = true → SayC X.K S fI (gA X.K c)) (hb : baseOk e = true) (he : PE X e (tE X.K W fe)) :
    PE X (.Attribute e "value" pos) (tE X.K W fun env st => (fe env st).bind fun d st => match d with
      | .exc c v => if isE c = true then .val v st else .bad
      | _ => .bad) := by
  refine ⟨fun pins s σ H Q I h => ?_⟩
  obtain ⟨ι, st, env, r, re, h⟩ := h
  refine attr_of (base_ok hb) (thn (he.run pins s σ H _ I (tG_bind (Q := fun v H1 => ∃ ι1 st1 d, RSto X.K ι1 st1 H1 ∧ RD X.K ι1 H1 d v ∧ PG X.K (RD X.K) W Q σ ι1 H1 (match d with
      | .exc c v => if isE c = true then .val v st1 else .bad
      | _ => .bad)) r re h fun d st1 ι1 H1 v e1 r1 re1 q1 h1 => ⟨ι1, st1, d, r1, q1, h1⟩)) fun u s1 hh => ?_)
  obtain ⟨x, H1, I1, rx, ι1, st1, d, r1, q1, h1⟩ := hh
  split at h1
  · rename_i c v
    split at h1
    · rename_i hc
      obtain ⟨a, dd, y, rfl, g1, g2, g3⟩ := q1
      cases (show u = Value.ref a from rx)
      have C := hE c hc
      obtain ⟨⟨oe, vs, z1, z2, z3, z4⟩, _⟩ := (show ObjOk X.prog X.w H1 s1.heap a (exH (gA X.K c) dd a) from I1.hok a _ g1)
      obtain ⟨mA, hns, hr⟩ := (show ObjOk X.prog X.w H1 s1.heap dd (.xd [(("value" : Str), y)]) from I1.hok dd _ g2)
      obtain ⟨od, ho, hl⟩ := lookIn_ns hns
      have l : List.lookup ("value" : Str) [(("value" : Str), y)] = some y := by simp [List.lookup]
      obtain ⟨u, hu, ru⟩ := RelO.some_of (v := y) (o := mA "value") (by rw [← l]; exact hr "value")
      have J : PySem.W.InstAt s1.heap a oe (gA X.K c) (some od) := ⟨z1, z2, by unfold PySem.W.notCls; rw [z4] <;> rfl, by rw [z3]; exact ho⟩
      exact HandSPX.exc_get I1.kIn J C.ga C.gg C.exC (PySem.W.findObj_own C.hd C.noV rfl (by rw [hl, hu])) (handed_of ru) ⟨y, H1, I1.tok _, ru, PG.val r1 h1 g3⟩
    · exact h1.elim
  · exact h1.elim
end
/-! ### calls -/
section
variable {X : Cx} {W : WX} {σ : St} {f : Value} {g : List D → Sto → Out D} {x : Str} {p pos : Pos} {es : List Expr} {fs : List (Env' → Sto → Out D)}
/-- the call of a built-in function by values -/
theorem tcb_ok (K : PySem.W.Frag) (fa : Env' → Sto → Out (List D)) : ∀ σ H Q, tE K W (fun env st => (fa env st).bind fun ds st => (g ds st).pure') σ H Q → tCB (rnD K g) (tA K W fa) σ H Q := fun σ H Q ⟨ι, st, env, r, re, h⟩ =>
  tG_bind r re h fun d st1 ι1 H1 v e1 r1 re1 q1 h1 => ⟨ι1, st1, d, r1, q1, PV.of h1⟩
theorem pe_bf {id : String} (hc : CallR X (.builtin id) (rnD X.K g)) (hg : Gl X x) (hm : X.mg x = none) (hv : bootBuiltins x = some (.builtin id)) (ha : PEs X W es fs) (hn : x ≠ "__name__") (hdb : (x == ("__debug__" : Str)) = false) (hst : es.all notStar = true) (hne : es ≠ []) :
    PE X (.Call (.Name x p) es [] pos) (tE X.K W fun env st => (evs fs env st).bind fun ds st => (g ds st).pure') := by
  cases es with
  | nil => exact absurd rfl hne
  | cons e es =>
    obtain ⟨h1, h2⟩ := Bool.and_eq_true_iff.mp (show (notStar e && es.all notStar) = true from hst)
    exact (pe_callB hc hg hm hv (as_ok ha hst) hn hdb (star_cons h1) (star_plain h2)).weak (tcb_ok X.K (evs fs))
theorem pe_bt {T : String} (hc : CallR X (.type T) (rnD X.K g)) (hg : Gl X x) (hm : X.mg x = none) (hv : bootBuiltins x = some (.type T)) (ha : PEs X W es fs) (hn : x ≠ "__name__") (hdb : (x == ("__debug__" : Str)) = false) (hst : es.all notStar = true) (hne : es ≠ []) :
    PE X (.Call (.Name x p) es [] pos) (tE X.K W fun env st => (evs fs env st).bind fun ds st => (g ds st).pure') := by
  cases es with
  | nil => exact absurd rfl hne
  | cons e es =>
    obtain ⟨h1, h2⟩ := Bool.and_eq_true_iff.mp (show (notStar e && es.all notStar) = true from hst)
    exact (pe_callTy hc hg hm hv (as_ok ha hst) hn hdb (star_cons h1) (star_plain h2)).weak (tcb_ok X.K (evs fs))
/-- an own error as a value -/
def fSay (c : Str) (xs : List D) (st : Sto) : Out D := match xs with
  | [v] => .val (.exc c v) st
  | _ => .bad
theorem rSay_ok {K : PySem.W.Frag} {c : Str} {vs : List V} {H : Hp} {Q : VK} {ι : List Addr} {st : Sto} {ds : List D} (r : RSto K ι st H) (q : RDs K ι H ds vs) (h : PG K (RD K) W Q σ ι H (fSay c ds st)) : rSay K (gA K c) vs H Q := by
  unfold fSay at h
  split at h
  · obtain ⟨v, rfl, q1⟩ := q.one
    refine ⟨v, rfl, fun e d he hd hne => ?_⟩
    have e1 : Evo ι H ι (upd H d (.xd [(("value" : Str), v)])) := Evo.side hd
    have r1 := r.side (o := .xd [(("value" : Str), v)]) hd
    have he1 : upd H d (.xd [(("value" : Str), v)]) e = none := by rw [upd_ne hne.symm]; exact he
    have e2 : Evo ι (upd H d (.xd [(("value" : Str), v)])) ι (upd (upd H d (.xd [(("value" : Str), v)])) e (exH (gA K c) d e)) := Evo.side he1
    refine h ι _ _ (Evo.trans r1 e1 e2) (r1.side he1) ⟨e, d, v, rfl, upd_same, by rw [upd_ne hne, upd_same], RD.mono (Evo.trans r1 e1 e2).kp _ _ q1⟩
  · exact h.elim
theorem pe_err {S fI cc cda : Addr} {c : Str} (T : SayT X.prog X.K S fI cc cda) (TC : SayC X.K S fI (gA X.K c)) (hs : X.mg "super" = none) (hdp : X.A.depth + 1 < recursionLimit) (hg : Gl X c) (hm : X.mg c = some (.ref (gA X.K c))) (ha : PEs X W es fs)
    (hdb : (c == ("__debug__" : Str)) = false) (hst : es.all notStar = true) (hl : es.length = 1) :
    PE X (.Call (.Name c p) es [] pos) (tE X.K W fun env st => (evs fs env st).bind fun ds st => fSay c ds st) := by
  match es, hl with
  | [e], _ =>
    obtain ⟨h1, h2⟩ := Bool.and_eq_true_iff.mp (show (notStar e && ([] : List Expr).all notStar) = true from hst)
    refine (pe_say T TC hs hdp hg hm (as_ok ha hst) hdb (star_cons h1)).weak fun σ H Q ⟨ι, st, env, r, re, h⟩ => ?_
    exact tG_bind r re h fun d st1 ι1 H1 v e1 r1 re1 q1 h1 => rSay_ok r1 q1 h1
end
/-! ### methods of lists -/
def mApp (d : D) (xs : List D) (st : Sto) : Out D := match d, xs with
  | .obj n, [x] => (match st[n]? with
    | some (.lst ys) => if ys.length < sizeLine then .val .non (st.set n (.lst (ys ++ [x]))) else .bad
    | _ => .bad)
  | _, _ => .bad
def mExt (d : D) (xs : List D) (st : Sto) : Out D := match d, xs with
  | .obj n, [x] => (match st[n]?, listOf st x with
    | some (.lst ys), some zs => if ys.length + zs.length ≤ sizeLine then .val .non (st.set n (.lst (ys ++ zs))) else .bad
    | _, _ => .bad)
  | _, _ => .bad
def rmD (K : PySem.W.Frag) (g : D → List D → Sto → Out D) : V → List V → Hp → VK → Prop := fun x xs H Q => ∃ ι st d ds, RSto K ι st H ∧ RD K ι H d x ∧ RDs K ι H ds xs ∧ PV K Q ι H (g d ds st)
def rExtL (K : PySem.W.Frag) : V → List V → Hp → VK → Prop := fun x vs H Q => ∃ l b xs zs, x = .ref l ∧ vs = [.ref b] ∧ H l = some (.lst xs) ∧ RdL K H b zs ∧ xs.length + zs.length ≤ sizeLine ∧ Q .non (upd H l (.lst (xs ++ zs)))
section
variable {X : Cx}
theorem mt_extL : MtM X "list.extend" (rExtL X.K) := by
  intro pins s σ H x vs v us Q I rx rv h
  obtain ⟨l, b, xs, zs, rfl, rfl, hH, hB, hz, q⟩ := h
  cases rx
  obtain ⟨u, rfl, ru⟩ := rv.one
  cases ru
  obtain ⟨z, its, n, r, hl, e⟩ := I.lstM hH
  obtain ⟨its2, n2, r2, e2, z2, hl2⟩ := inv_rdl I hB
  have hsz : its.toArray.size + its2.toArray.size ≤ sizeLine := by rw [List.size_toArray, List.size_toArray]; omega
  have hlong : ¬ (!its.toArray.isEmpty && Builtin.List.listTooLong (its.toArray.size + its2.toArray.size)) = true := by
    rw [notLongL hsz, Bool.and_false]
    exact Bool.false_ne_true
  refine call_meets F.slot_list_extend ⟨_, e, rfl⟩ F.entry_list_extend (F.args_list_extend_2 _ _)
    (AutoSeq1.list_extend_list_list_0 l its.toArray n b its2.toArray n2 hlong (by rw [List.size_toArray]; omega) (by omega)) ⟨e, e2, ?_⟩
  refine ⟨.non, _, I.lset (its' := its ++ its2) hH e (by simp) (r.append r2) ?_, rfl, q⟩
  rw [List.length_append]
  omega
theorem mt_mApp : MtM X "list.append" (rmD X.K mApp) := by
  intro pins s σ H x vs v us Q I rx rv ⟨ι, st, d, ds, r, rd, rds, h⟩
  unfold mApp at h
  split at h
  · rename_i n y
    split at h
    · rename_i ys e
      obtain ⟨a, ws, rfl, h1, h2, h3⟩ := obj_lst r e rd
      obtain ⟨w, rfl, q⟩ := rds.one
      split at h
      · rename_i hz
        exact mt_append pins s σ H _ _ v us Q I rx rv ⟨a, ws, w, rfl, rfl, h2, by rw [h3.len]; exact hz, PV.put r h1 h2 h (h3.app ⟨w, [], rfl, q, rfl⟩) rfl⟩
      · exact h.elim
    · exact h.elim
  · exact h.elim
theorem mt_mExt : MtM X "list.extend" (rmD X.K mExt) := by
  intro pins s σ H x vs v us Q I rx rv ⟨ι, st, d, ds, r, rd, rds, h⟩
  unfold mExt at h
  split at h
  · rename_i n y
    split at h
    · rename_i ys zs e e2
      obtain ⟨a, ws, rfl, h1, h2, h3⟩ := obj_lst r e rd
      obtain ⟨w, rfl, q⟩ := rds.one
      obtain ⟨b, us', rfl, g1, g2⟩ := listOf_ok r e2 q
      split at h
      · rename_i hz
        exact mt_extL pins s σ H _ _ v us Q I rx rv ⟨a, b, ws, us', rfl, rfl, h2, g1, by rw [h3.len, g2.len]; exact hz, PV.put r h1 h2 h (h3.app g2) rfl⟩
      · exact h.elim
    · exact h.elim
  · exact h.elim
end
end L2.Ev

/-! What loops and comprehensions walk; statements. -/
namespace L2.Ev
open PySem PySem.Spec PyProof.Rows

/-! ### what is walked -/
inductive Src where
  | seq (d : D)
  | rng (lo : Int) (n : Nat)
  | enum (d : D)
  | zip (d e : D)
  | str (x : Str)
def seqOf (st : Sto) : D → Option (List D)
  | .tup xs => some xs
  | d => listOf st d
def zipAt : Option D → Option D → Option D
  | some x, some y => some (.tup [x, y])
  | _, _ => none
/-- at turn i: an item, the end (some none), nothing known (none) -/
def Src.at_ (st : Sto) (i : Nat) : Src → Option (Option D)
  | .seq d => (seqOf st d).map fun xs => xs[i]?
  | .rng lo n => some (if i < n then some (.int (lo + i)) else none)
  | .enum d => (listOf st d).map fun xs => (xs[i]?).map fun x => .tup [.int i, x]
  | .zip d e => (listOf st d).bind fun xs => (listOf st e).map fun ys => zipAt xs[i]? ys[i]?
  | .str x => some ((x.cps[i]?).map fun c => .str ⟨#[c]⟩)
def Src.len (st : Sto) : Src → Nat
  | .seq d => ((seqOf st d).getD []).length
  | .rng lo n => n
  | .enum d => ((listOf st d).getD []).length
  | .zip d e => ((listOf st d).getD []).length
  | .str x => x.cps.size
def SrcR (K : PySem.W.Frag) (ι : List Addr) (H : Hp) (src : Src) (J : It) : Prop := ∀ (ι1 : List Addr) (H1 : Hp) (st1 : Sto), Evo ι H ι1 H1 → RSto K ι1 st1 H1 → ∀ i,
  (src.at_ st1 i = some none → J.stop i H1) ∧ ∀ x, src.at_ st1 i = some (some x) → J.go i H1 ∧ ∀ v H', J.yld i H1 v H' → Evo ι1 H1 ι1 H' ∧ RSto K ι1 st1 H' ∧ RD K ι1 H' x v
abbrev tI (K : PySem.W.Frag) (W : WX) (f : Env' → Sto → Out Src) : TI := tG K (SrcR K) W f
section
variable {K : PySem.W.Frag} {ι : List Addr} {H : Hp} {st : Sto}
theorem src_list {d : D} {a : Addr} (q : RD K ι H d (.ref a)) (hd : ∀ xs, d ≠ .tup xs) : SrcR K ι H (.seq d) (Itl K a) := by
  intro ι1 H1 st1 e r i
  have q1 := RD.mono e.kp _ _ q
  have es : seqOf st1 d = listOf st1 d := by
    unfold seqOf
    split
    · exact absurd rfl (hd _)
    · rfl
  refine ⟨fun h => ?_, fun x h => ?_⟩
  · obtain ⟨xs, e1, e2⟩ := Option.map_eq_some_iff.mp (show (seqOf st1 d).map (fun xs => xs[i]?) = some none from h)
    rw [es] at e1
    obtain ⟨b, vs, eb, h1, h2⟩ := listOf_ok r e1 q1
    cases eb
    exact ⟨vs, h1.sq, by rw [h2.len]; exact List.getElem?_eq_none_iff.mp e2⟩
  · obtain ⟨xs, e1, e2⟩ := Option.map_eq_some_iff.mp (show (seqOf st1 d).map (fun xs => xs[i]?) = some (some x) from h)
    rw [es] at e1
    obtain ⟨b, vs, eb, h1, h2⟩ := listOf_ok r e1 q1
    cases eb
    obtain ⟨v, e3, q3⟩ := h2.get e2
    refine ⟨⟨vs, v, h1.sq, e3⟩, fun w H' y => ?_⟩
    obtain ⟨rfl, hy⟩ := y
    have := hy vs h1.sq
    rw [e3] at this
    cases this
    exact ⟨Evo.refl, r, q3⟩
theorem src_tup {xs : List D} {a : Addr} (q : RD K ι H (.tup xs) (.ref a)) : SrcR K ι H (.seq (.tup xs)) (Itt K a) := by
  intro ι1 H1 st1 e r i
  obtain ⟨b, vs, eb, h1, h2⟩ := RD.mono e.kp _ _ q
  cases eb
  refine ⟨fun h => ?_, fun x h => ?_⟩
  · have e2 : xs[i]? = none := Option.some.inj h
    exact ⟨vs, h1, by rw [h2.len]; exact List.getElem?_eq_none_iff.mp e2⟩
  · have e2 : xs[i]? = some x := Option.some.inj h
    obtain ⟨v, e3, q3⟩ := h2.get e2
    refine ⟨⟨vs, v, h1, e3⟩, fun w H' y => ?_⟩
    obtain ⟨rfl, hy⟩ := y
    have := hy vs h1
    rw [e3] at this
    cases this
    exact ⟨Evo.refl, r, q3⟩
theorem src_rng {lo : Int} {n : Nat} : SrcR K ι H (.rng lo n) (Itr lo n) := by
  intro ι1 H1 st1 e r i
  refine ⟨fun h => ?_, fun x h => ?_⟩
  · have h' := Option.some.inj h
    split at h'
    · cases h'
    · rename_i hn
      exact Nat.le_of_not_lt hn
  · have h' := Option.some.inj h
    split at h'
    · rename_i hn
      cases h'
      refine ⟨hn, fun w H' y => ?_⟩
      obtain ⟨rfl, rfl⟩ := y
      exact ⟨Evo.refl, r, rfl⟩
    · cases h'
theorem src_str {z : Str} : SrcR K ι H (.str z) (Its z) := by
  intro ι1 H1 st1 e r i
  refine ⟨fun h => ?_, fun x h => ?_⟩
  · have h' := Option.some.inj h
    have h2 : z.cps[i]? = none := Option.map_eq_none_iff.mp h'
    exact Array.getElem?_eq_none_iff.mp h2
  · have h' := Option.some.inj h
    obtain ⟨c, e1, rfl⟩ := Option.map_eq_some_iff.mp h'
    refine ⟨(Array.getElem?_eq_some_iff.mp e1).1, fun w H' y => ?_⟩
    obtain ⟨rfl, c', e2, rfl⟩ := y
    rw [e1] at e2
    cases e2
    exact ⟨Evo.refl, r, rfl⟩
theorem src_enum {d : D} {a : Addr} (q : RD K ι H d (.ref a)) : SrcR K ι H (.enum d) (Ite K a) := by
  intro ι1 H1 st1 e r i
  have q1 := RD.mono e.kp _ _ q
  refine ⟨fun h => ?_, fun x h => ?_⟩
  · obtain ⟨xs, e1, e2⟩ := Option.map_eq_some_iff.mp (show (listOf st1 d).map (fun xs => (xs[i]?).map fun x => D.tup [.int i, x]) = some none from h)
    obtain ⟨b, vs, eb, h1, h2⟩ := listOf_ok r e1 q1
    cases eb
    exact ⟨vs, h1.sq, by rw [h2.len]; exact List.getElem?_eq_none_iff.mp (Option.map_eq_none_iff.mp e2)⟩
  · obtain ⟨xs, e1, e2⟩ := Option.map_eq_some_iff.mp (show (listOf st1 d).map (fun xs => (xs[i]?).map fun x => D.tup [.int i, x]) = some (some x) from h)
    obtain ⟨y, e3, rfl⟩ := Option.map_eq_some_iff.mp e2
    obtain ⟨b, vs, eb, h1, h2⟩ := listOf_ok r e1 q1
    cases eb
    obtain ⟨v, e4, q4⟩ := h2.get e3
    refine ⟨⟨vs, v, h1.sq, e4⟩, fun w H' z => ?_⟩
    obtain ⟨T, x2, rfl, hn, rfl, hx⟩ := z
    have := hx vs h1.sq
    rw [e4] at this
    cases this
    exact ⟨Evo.side hn, r.side hn, T, _, rfl, .inl (.inl upd_same), _, _, rfl, rfl, _, _, rfl, RD.mono (Evo.side hn).kp _ _ q4, rfl⟩
theorem src_zip {d d' : D} {a a' : Addr} (q : RD K ι H d (.ref a)) (q' : RD K ι H d' (.ref a')) : SrcR K ι H (.zip d d') (Itz K a a') := by
  intro ι1 H1 st1 e r i
  have q1 := RD.mono e.kp _ _ q
  have q2 := RD.mono e.kp _ _ q'
  have get : ∀ o, (Src.zip d d').at_ st1 i = some o → ∃ xs ys, listOf st1 d = some xs ∧ listOf st1 d' = some ys ∧ zipAt xs[i]? ys[i]? = o := fun o h => by
    obtain ⟨xs, e1, h2⟩ := Option.bind_eq_some_iff.mp (show ((listOf st1 d).bind fun xs => (listOf st1 d').map fun ys => zipAt xs[i]? ys[i]?) = some o from h)
    obtain ⟨ys, e2, h3⟩ := Option.map_eq_some_iff.mp h2
    exact ⟨xs, ys, e1, e2, h3⟩
  refine ⟨fun h => ?_, fun x h => ?_⟩
  · obtain ⟨xs, ys, e1, e2, h3⟩ := get _ h
    obtain ⟨b, vs, eb, h1, h2⟩ := listOf_ok r e1 q1
    cases eb
    obtain ⟨b', ws, eb, g1, g2⟩ := listOf_ok r e2 q2
    cases eb
    refine ⟨vs, ws, h1.sq, g1.sq, ?_⟩
    rw [h2.len, g2.len]
    cases e3 : xs[i]? with
    | none => exact .inl (List.getElem?_eq_none_iff.mp e3)
    | some x =>
      cases e4 : ys[i]? with
      | none => exact .inr (List.getElem?_eq_none_iff.mp e4)
      | some y =>
        rw [e3, e4] at h3
        cases h3
  · obtain ⟨xs, ys, e1, e2, h3⟩ := get _ h
    obtain ⟨b, vs, eb, h1, h2⟩ := listOf_ok r e1 q1
    cases eb
    obtain ⟨b', ws, eb, g1, g2⟩ := listOf_ok r e2 q2
    cases eb
    cases e3 : xs[i]? with
    | none => rw [e3] at h3; cases h3
    | some x1 =>
      cases e4 : ys[i]? with
      | none => rw [e3, e4] at h3; cases h3
      | some y1 =>
        rw [e3, e4] at h3
        cases h3
        obtain ⟨v, f1, f2⟩ := h2.get e3
        obtain ⟨w, f3, f4⟩ := g2.get e4
        refine ⟨⟨vs, ws, v, w, h1.sq, g1.sq, f1, f3⟩, fun u H' z => ?_⟩
        obtain ⟨T, x2, y2, rfl, hn, rfl, hx, hy⟩ := z
        have t1 := hx vs h1.sq
        rw [f1] at t1
        cases t1
        have t2 := hy ws g1.sq
        rw [f3] at t2
        cases t2
        have mo := (Evo.side (ι := ι1) (o := .tup [v, w]) hn).kp
        exact ⟨Evo.side hn, r.side hn, T, _, rfl, .inl (.inl upd_same), _, _, rfl, RD.mono mo _ _ f2, _, _, rfl, RD.mono mo _ _ f4, rfl⟩
end
theorem pi_or {X : Cx} {tg e : Expr} {w1 w2 : TI} (h1 : PI X tg e w1) (h2 : PI X tg e w2) : PI X tg e (fun σ H R => w1 σ H R ∨ w2 σ H R) :=
  ⟨fun pins s σ H R I h => h.elim (h1.run pins s σ H R I) (h2.run pins s σ H R I)⟩
theorem pi_weak {X : Cx} {tg e : Expr} {w w' : TI} (h : PI X tg e w) (i : ∀ σ H R, w' σ H R → w σ H R) : PI X tg e w' := ⟨fun pins s σ H R I q => h.run pins s σ H R I (i σ H R q)⟩
def srcD (d : D) (st : Sto) : Out Src := match d with
  | .str x => .val (.str x) st
  | .tup xs => .val (.seq (.tup xs)) st
  | d => if (listOf st d).isSome = true then .val (.seq d) st else .bad
section
variable {X : Cx} {tg e : Expr} {W : WX} {fe : Env' → Sto → Out D}
theorem pi_srcD (he : PE X e (tE X.K W fe)) : PI X tg e (tI X.K W fun env st => (fe env st).bind srcD) := by
  refine pi_weak (pi_or (pi_str he) (pi_or (pi_tup he) (pi_list he))) fun σ H R ⟨ι, st, env, r, re, h⟩ => ?_
  have h : PG X.K (SrcR X.K) W R σ ι H ((fe env st).bind srcD) := h
  cases ef : fe env st with
  | bad =>
    rw [ef] at h
    exact h.elim
  | exc c v st1 =>
    rw [ef] at h
    refine .inl ⟨ι, st, env, r, re, ?_⟩
    rw [ef]
    exact h
  | val d st1 =>
    rw [ef] at h
    have h2 : PG X.K (SrcR X.K) W R σ ι H (srcD d st1) := h
    unfold srcD at h2
    split at h2
    · refine .inl ⟨ι, st, env, r, re, ?_⟩
      rw [ef]
      exact fun ι1 H1 v e1 r1 q1 => ⟨_, q1, h2 ι1 H1 _ e1 r1 src_str⟩
    · refine .inr (.inl ⟨ι, st, env, r, re, ?_⟩)
      rw [ef]
      intro ι1 H1 v e1 r1 q1
      have q0 := q1
      obtain ⟨a, vs, rfl, g1, g2⟩ := q1
      exact ⟨a, rfl, ⟨vs, g1⟩, h2 ι1 H1 _ e1 r1 (src_tup q0)⟩
    · rename_i hn1 hn2
      split at h2
      · rename_i hs
        refine .inr (.inr ⟨ι, st, env, r, re, ?_⟩)
        rw [ef]
        intro ι1 H1 v e1 r1 q1
        obtain ⟨xs, ex⟩ := Option.isSome_iff_exists.mp hs
        have q0 := q1
        obtain ⟨a, vs, rfl, g1, g2⟩ := listOf_ok r1 ex q1
        exact ⟨a, rfl, ⟨vs, g1.sq⟩, h2 ι1 H1 _ e1 r1 (src_list q0 fun ys z => hn2 ys z)⟩
      · exact h2.elim
/-- range(..) -/
def srcRng1 (xs : List D) (st : Sto) : Out Src := match xs with
  | [.int j] => if -(2 ^ 62) ≤ j ∧ j < 2 ^ 62 then .val (.rng 0 j.toNat) st else .bad
  | _ => .bad
def srcRng2 (xs : List D) (st : Sto) : Out Src := match xs with
  | [.int i, .int j] => if -(2 ^ 62) ≤ i ∧ i < 2 ^ 62 ∧ -(2 ^ 62) ≤ j ∧ j < 2 ^ 62 then .val (.rng i (j - i).toNat) st else .bad
  | _ => .bad
def srcEnum (xs : List D) (st : Sto) : Out Src := match xs with
  | [d] => if (listOf st d).isSome = true then .val (.enum d) st else .bad
  | _ => .bad
def srcZip (xs : List D) (st : Sto) : Out Src := match xs with
  | [d, d'] => if ((listOf st d).isSome && (listOf st d').isSome) = true then .val (.zip d d') st else .bad
  | _ => .bad
theorem star_two {a b : Expr} {env : Env} (h1 : notStar a = true) (h2 : notStar b = true) : starEach [a, b] env = [(false, eval a env), (false, eval b env)] := by
  rw [star_cons h1, star_cons h2]
  rfl
theorem star_one {a : Expr} {env : Env} (h1 : notStar a = true) : starEach [a] env = [(false, eval a env)] := by
  rw [star_cons h1]
  rfl
variable {es : List Expr} {fs : List (Env' → Sto → Out D)} {p pos : Pos}
theorem pi_rng1 {a : Expr} (hg : Gl X "range") (hm : X.mg "range" = none) (ha : PEs X W [a] fs) (hst : notStar a = true) : PI X tg (.Call (.Name "range" p) [a] [] pos) (tI X.K W fun env st => (evs fs env st).bind srcRng1) := by
  refine pi_weak (pi_range1 hg hm (as_ok ha (by simp [hst])) (star_one hst)) fun σ H R ⟨ι, st, env, r, re, h⟩ => ?_
  refine tG_bind r re h fun ds st1 ι1 H1 vs e1 r1 re1 q1 k1 => ?_
  unfold srcRng1 at k1
  split at k1
  · obtain ⟨v, rfl, q⟩ := q1.one
    obtain rfl := q
    split at k1
    · rename_i hz
      exact ⟨_, rfl, hz.1, hz.2, k1 ι1 H1 _ Evo.refl r1 src_rng⟩
    · exact k1.elim
  · exact k1.elim
theorem pi_rng2 {a b : Expr} (hg : Gl X "range") (hm : X.mg "range" = none) (ha : PEs X W [a, b] fs) (hst : notStar a = true) (hst2 : notStar b = true) : PI X tg (.Call (.Name "range" p) [a, b] [] pos) (tI X.K W fun env st => (evs fs env st).bind srcRng2) := by
  refine pi_weak (pi_range2 hg hm (as_ok ha (by simp [hst, hst2])) (star_two hst hst2) (star_one hst2)) fun σ H R ⟨ι, st, env, r, re, h⟩ => ?_
  refine tG_bind r re h fun ds st1 ι1 H1 vs e1 r1 re1 q1 k1 => ?_
  unfold srcRng2 at k1
  split at k1
  · obtain ⟨v, w, rfl, q, q'⟩ := q1.two
    obtain rfl := q
    obtain rfl := q'
    split at k1
    · rename_i hz
      exact ⟨_, _, rfl, hz, k1 ι1 H1 _ Evo.refl r1 src_rng⟩
    · exact k1.elim
  · exact k1.elim
theorem pi_enumD {a : Expr} {elts : List Expr} {kk : Nat} {tpos : Pos} (hg : Gl X "enumerate") (hm : X.mg "enumerate" = none) (ha : PEs X W [a] fs) (hst : notStar a = true) : PI X (.Tuple elts kk tpos) (.Call (.Name "enumerate" p) [a] [] pos) (tI X.K W fun env st => (evs fs env st).bind srcEnum) := by
  refine pi_weak (pi_enum hg hm (as_ok ha (by simp [hst])) (star_one hst)) fun σ H R ⟨ι, st, env, r, re, h⟩ => ?_
  refine tG_bind r re h fun ds st1 ι1 H1 vs e1 r1 re1 q1 k1 => ?_
  unfold srcEnum at k1
  split at k1
  · obtain ⟨v, rfl, q⟩ := q1.one
    split at k1
    · rename_i hz
      obtain ⟨xs, ex⟩ := Option.isSome_iff_exists.mp hz
      have q0 := q
      obtain ⟨a, vs, rfl, g1, g2⟩ := listOf_ok r1 ex q
      exact ⟨a, vs, rfl, g1.sq, k1 ι1 H1 _ Evo.refl r1 (src_enum q0)⟩
    · exact k1.elim
  · exact k1.elim
theorem pi_zipD {a b : Expr} {elts : List Expr} {kk : Nat} {tpos : Pos} (hg : Gl X "zip") (hm : X.mg "zip" = none) (ha : PEs X W [a, b] fs) (hst : notStar a = true) (hst2 : notStar b = true) : PI X (.Tuple elts kk tpos) (.Call (.Name "zip" p) [a, b] [] pos) (tI X.K W fun env st => (evs fs env st).bind srcZip) := by
  refine pi_weak (pi_zip hg hm (as_ok ha (by simp [hst, hst2])) (star_cons hst) (by rw [star_one hst2]; rfl)) fun σ H R ⟨ι, st, env, r, re, h⟩ => ?_
  refine tG_bind r re h fun ds st1 ι1 H1 vs e1 r1 re1 q1 k1 => ?_
  unfold srcZip at k1
  split at k1
  · obtain ⟨v, w, rfl, q, q'⟩ := q1.two
    split at k1
    · rename_i hz
      obtain ⟨z1, z2⟩ := Bool.and_eq_true_iff.mp hz
      obtain ⟨xs, ex⟩ := Option.isSome_iff_exists.mp z1
      obtain ⟨ys, ey⟩ := Option.isSome_iff_exists.mp z2
      have q0 := q
      have q0' := q'
      obtain ⟨a, vs, rfl, g1, g2⟩ := listOf_ok r1 ex q
      obtain ⟨a', vs', rfl, g1', g2'⟩ := listOf_ok r1 ey q'
      exact ⟨a, a', vs, vs', rfl, g1.sq, g1'.sq, k1 ι1 H1 _ Evo.refl r1 (src_zip q0 q0')⟩
    · exact k1.elim
  · exact k1.elim
end
end L2.Ev

/-! Statements by evaluations. -/
namespace L2.Ev
open PySem PySem.Spec PyProof.Rows

/-- a statement's end -/
inductive SOut where
  | nx (env : Env') (st : Sto)
  | rt (d : D) (st : Sto)
  | bk (env : Env') (st : Sto)
  | ct (env : Env') (st : Sto)
  | exc (c : Str) (v : D) (env : Env') (st : Sto)
  | bad
def Out.toS {α : Type} (x : Out α) (env : Env') (k : α → Sto → SOut) : SOut := match x with
  | .val a st => k a st
  | .exc c v st => .exc c v env st
  | .bad => .bad
def PGs (K : PySem.W.Frag) (W : WX) (D : Ends) (ι : List Addr) (H : Hp) : SOut → Prop
  | .nx env st => ∀ ι' H' σ', Evo ι H ι' H' → RSto K ι' st H' → REnv K ι' H' env σ' → D.nx σ' H'
  | .rt d st => ∀ ι' H' v, Evo ι H ι' H' → RSto K ι' st H' → RD K ι' H' d v → D.rt v H'
  | .bk env st => ∀ ι' H' σ', Evo ι H ι' H' → RSto K ι' st H' → REnv K ι' H' env σ' → D.bk σ' H'
  | .ct env st => ∀ ι' H' σ', Evo ι H ι' H' → RSto K ι' st H' → REnv K ι' H' env σ' → D.ct σ' H'
  | .exc c d env st => ∀ ι' H' σ' dd v, Evo ι H ι' H' → RSto K ι' st H' → REnv K ι' H' env σ' → H' dd = some (.xd [(("value" : Str), v)]) → RD K ι' H' d v → W (.ref (gA K c)) (some dd) σ' H'
  | .bad => False
def tS (K : PySem.W.Frag) (W : WX) (f : Env' → Sto → SOut) : TS := fun D σ H => ∃ ι st env, RSto K ι st H ∧ REnv K ι H env σ ∧ PGs K W D ι H (f env st)
section
variable {α β : Type} {K : PySem.W.Frag} {Rel : List Addr → Hp → α → β → Prop} {W : WX} {Dn : Ends} {Q : β → Hp → Prop} {σ : St} {ι ι1 : List Addr} {H H1 : Hp} {st st1 : Sto} {env : Env'}
theorem PGs.mono (r1 : RSto K ι1 st1 H1) (e : Evo ι H ι1 H1) {o : SOut} (h : PGs K W Dn ι H o) : PGs K W Dn ι1 H1 o := by
  cases o with
  | nx env st => exact fun ι' H' σ' e2 => h ι' H' σ' (Evo.trans r1 e e2)
  | rt d st => exact fun ι' H' σ' e2 => h ι' H' σ' (Evo.trans r1 e e2)
  | bk env st => exact fun ι' H' σ' e2 => h ι' H' σ' (Evo.trans r1 e e2)
  | ct env st => exact fun ι' H' σ' e2 => h ι' H' σ' (Evo.trans r1 e e2)
  | exc c v env st => exact fun ι' H' σ' dd w e2 => h ι' H' σ' dd w (Evo.trans r1 e e2)
  | bad => exact h
/-- an expression within a statement -/
theorem tS_bind {f : Env' → Sto → Out α} {g : α → Sto → SOut} (r : RSto K ι st H) (re : REnv K ι H env σ) (h : PGs K W Dn ι H ((f env st).toS env g))
    (hQ : ∀ d st1 ι1 H1 v, Evo ι H ι1 H1 → RSto K ι1 st1 H1 → REnv K ι1 H1 env σ → Rel ι1 H1 d v → PGs K W Dn ι1 H1 (g d st1) → Q v H1) : tG K Rel W f σ H Q := by
  refine ⟨ι, st, env, r, re, ?_⟩
  cases e : f env st with
  | val d st1 =>
    rw [e] at h
    exact fun ι1 H1 v e1 r1 q => hQ d st1 ι1 H1 v e1 r1 (re.mono e1.kp) q (PGs.mono r1 e1 h)
  | exc c d st1 =>
    rw [e] at h
    exact fun ι1 H1 dd v e1 r1 q1 q2 => h ι1 H1 σ dd v e1 r1 (re.mono e1.kp) q1 q2
  | bad =>
    rw [e] at h
    exact h
end
/-! ### in a row -/
def seqS (f g : Env' → Sto → SOut) (env : Env') (st : Sto) : SOut := match f env st with
  | .nx env st => g env st
  | o => o
section
variable {X : Cx} {W : WX} {s : Stmt} {ss : List Stmt} {f g : Env' → Sto → SOut} {pos : Pos}
theorem pss_nil' : PSs X [] (tS X.K W fun env st => .nx env st) := pss_nil.weak fun D σ H ⟨ι, st, env, r, re, h⟩ => h ι H σ Evo.refl r re
theorem pss_cons' (h1 : PS X s (tS X.K W f)) (h2 : PSs X ss (tS X.K W g)) : PSs X (s :: ss) (tS X.K W (seqS f g)) := by
  refine (pss_cons h1 h2).weak fun D σ H ⟨ι, st, env, r, re, h⟩ => ⟨ι, st, env, r, re, ?_⟩
  have h' : PGs X.K W D ι H (match f env st with
    | .nx env st => g env st
    | o => o) := h
  cases e : f env st with
  | nx env1 st1 =>
    rw [e] at h'
    exact fun ι' H' σ' e2 r2 re2 => ⟨ι', st1, env1, r2, re2, PGs.mono r2 e2 h'⟩
  | rt d st1 => rw [e] at h'; exact h'
  | bk env1 st1 => rw [e] at h'; exact h'
  | ct env1 st1 => rw [e] at h'; exact h'
  | exc c v env1 st1 => rw [e] at h'; exact h'
  | bad => rw [e] at h'; exact h'
theorem ps_pass' : PS X (.Pass pos) (tS X.K W fun env st => .nx env st) := ps_pass.weak fun D σ H ⟨ι, st, env, r, re, h⟩ => h ι H σ Evo.refl r re
theorem ps_break' : PS X (.Break pos) (tS X.K W fun env st => .bk env st) := ps_break.weak fun D σ H ⟨ι, st, env, r, re, h⟩ => h ι H σ Evo.refl r re
theorem ps_cont' : PS X (.Continue pos) (tS X.K W fun env st => .ct env st) := ps_continue.weak fun D σ H ⟨ι, st, env, r, re, h⟩ => h ι H σ Evo.refl r re
theorem ps_bad {s : Stmt} : PS X s (tS X.K W fun env st => .bad) := ⟨fun pins s σ H D I ⟨ι, st, env, r, re, h⟩ => h.elim⟩
theorem pe_bad {e : Expr} : PE X e (tE X.K W fun env st => .bad) := ⟨fun pins s σ H Q I ⟨ι, st, env, r, re, h⟩ => h.elim⟩
theorem pt_bad {e : Expr} : PT X e (tT X.K W fun env st => .bad) := ⟨fun pins s σ H Q I ⟨ι, st, env, r, re, h⟩ => h.elim⟩
theorem pi_bad {tg e : Expr} : PI X tg e (tI X.K W fun env st => .bad) := ⟨fun pins s σ H Q I ⟨ι, st, env, r, re, h⟩ => h.elim⟩
def noComp : Expr → Bool
  | .ListComp _ _ _ _ => false
  | .SetComp _ _ _ _ => false
  | .DictComp _ _ _ _ _ => false
  | .GeneratorExp _ _ _ _ => false
  | _ => true
theorem sw_no {e : Expr} {o : Option Expr} {l : Nat} {env : Env} (h : noComp e = true) : swapsWith e o l env = pure false := by
  cases e <;> first
    | rfl
    | cases h
theorem ps_expr' {e : Expr} {fe : Env' → Sto → Out D} (hs : noComp e = true) (he : PE X e (tE X.K W fe)) : PS X (.Expr e pos) (tS X.K W fun env st => (fe env st).toS env fun _ st => .nx env st) := by
  refine (ps_expr he (sw_no hs)).weak fun D σ H ⟨ι, st, env, r, re, h⟩ => ?_
  exact tS_bind r re h fun d st1 ι1 H1 v e1 r1 re1 q1 h1 => h1 ι1 H1 σ Evo.refl r1 re1
theorem ps_ret' {e : Expr} {fe : Env' → Sto → Out D} (he : PE X e (tE X.K W fe)) : PS X (.Return (some e) pos) (tS X.K W fun env st => (fe env st).toS env fun d st => .rt d st) := by
  refine (ps_ret he).weak fun D σ H ⟨ι, st, env, r, re, h⟩ => ?_
  exact tS_bind r re h fun d st1 ι1 H1 v e1 r1 re1 q1 h1 => h1 ι1 H1 v Evo.refl r1 q1
theorem ps_retN' : PS X (.Return none pos) (tS X.K W fun env st => .rt .non st) := ps_retN.weak fun D σ H ⟨ι, st, env, r, re, h⟩ => h ι H .non Evo.refl r rfl
theorem ps_if' {c : Expr} {a b : List Stmt} {fc : Env' → Sto → Out Bool} (hc : PT X c (tT X.K W fc)) (ha : PSs X a (tS X.K W f)) (hb : PSs X b (tS X.K W g)) :
    PS X (.If c a b pos) (tS X.K W fun env st => (fc env st).toS env fun k st => match k with
      | true => f env st
      | false => g env st) := by
  refine (ps_if hc ha hb).weak fun D σ H ⟨ι, st, env, r, re, h⟩ => ?_
  refine tS_bind r re h fun d st1 ι1 H1 v e1 r1 re1 q1 h1 => ?_
  obtain rfl := q1
  cases v with
  | true => rw [if_pos rfl]; exact ⟨ι1, st1, env, r1, re1, h1⟩
  | false => rw [if_neg Bool.false_ne_true]; exact ⟨ι1, st1, env, r1, re1, h1⟩
theorem ps_raise' {c : Str} {p p2 : Pos} {es : List Expr} {fs : List (Env' → Sto → Out D)} {S fI cc cda : Addr} (hc : X.calm = true) (tk : Takes X W) (T : SayT X.prog X.K S fI cc cda) (TC : SayC X.K S fI (gA X.K c)) (hs : X.mg "super" = none) (hdp : X.A.depth + 1 < recursionLimit) (hg : Gl X c) (hm : X.mg c = some (.ref (gA X.K c))) (ha : PEs X W es fs)
    (hdb : (c == ("__debug__" : Str)) = false) (hst : es.all notStar = true) (hl : es.length = 1) :
    PS X (.Raise (some (.Call (.Name c p) es [] p2)) none pos) (tS X.K W fun env st => (evs fs env st).toS env fun ds st => match ds with
      | [v] => .exc c v env st
      | _ => .bad) := by
  match es, hl with
  | [e], _ =>
    obtain ⟨h1, h2⟩ := Bool.and_eq_true_iff.mp (show (notStar e && ([] : List Expr).all notStar) = true from hst)
    refine (ps_raise hc tk (pmk_say T TC hs hdp hg hm (as_ok ha hst) hdb (star_cons h1))).weak fun D σ H ⟨ι, st, env, r, re, h⟩ => ?_
    refine tS_bind r re h fun ds st1 ι1 H1 v e1 r1 re1 q1 h1 => ?_
    split at h1
    · obtain ⟨w, rfl, q⟩ := q1.one
      refine ⟨w, rfl, fun d hd => ?_⟩
      exact h1 ι1 _ σ d w (Evo.side hd) (r1.side hd) (re1.mono (Evo.side hd).kp) upd_same (RD.mono (Evo.side hd).kp _ _ q)
    · exact h1.elim
end
/-! ### targets -/
def tgD (K : PySem.W.Frag) (L : List Nat) (f : D → Env' → Option Env') : TG := fun v σ H Q => ∃ ι env d env', REnv K ι H env σ ∧ RD K ι H d v ∧ f d env = some env' ∧ ∀ σ', REnv K ι H env' σ' → (∀ vs, (∀ i ∈ L, i ∈ vs) → L2.wipe σ' vs = L2.wipe σ vs) → Q σ' H
def tgsD (K : PySem.W.Frag) (L : List Nat) (f : List D → Env' → Option Env') : TGs := fun v σ H Q => ∃ ι env d env', REnv K ι H env σ ∧ RDs K ι H d v ∧ f d env = some env' ∧ ∀ σ', REnv K ι H env' σ' → (∀ vs, (∀ i ∈ L, i ∈ vs) → L2.wipe σ' vs = L2.wipe σ vs) → Q σ' H
theorem wipe_set {σ : St} {i : Nat} {x : Option V} : ∀ {vs : List Nat}, i ∈ vs → L2.wipe (σ.set i x) vs = L2.wipe σ vs
  | [], h => by cases h
  | v :: vs, h => by
    show (L2.wipe (σ.set i x) vs).set v none = (L2.wipe σ vs).set v none
    by_cases hv : i ∈ vs
    · rw [wipe_set hv]
    · have e : i = v := by
        rcases List.mem_cons.mp h with z | z
        · exact z
        · exact absurd z hv
      subst e
      have out : ∀ (vs : List Nat), i ∉ vs → L2.wipe (σ.set i x) vs = (L2.wipe σ vs).set i x := by
        intro vs
        induction vs with
        | nil => intro _; rfl
        | cons w ws ih =>
          intro hn
          show (L2.wipe (σ.set i x) ws).set w none = ((L2.wipe σ ws).set w none).set i x
          rw [ih fun z => hn (List.mem_cons_of_mem _ z)]
          exact List.set_comm _ _ fun z => hn (by rw [z]; exact List.mem_cons_self)
      rw [out vs hv, List.set_set]
section
variable {X : Cx} {pos : Pos}
theorem pg_weak {tg : Expr} {t t' : TG} (h : L2.PG X tg t) (i : ∀ v σ H Q, t' v σ H Q → t v σ H Q) : L2.PG X tg t' := ⟨fun pins s σ H v u Q I r q => h.run pins s σ H v u Q I r (i _ _ _ _ q)⟩
end
end L2.Ev

/-! Targets, loops, comprehensions by evaluations. -/
namespace L2.Ev
open PySem PySem.Spec PyProof.Rows
def tgNil (ds : List D) (env : Env') : Option Env' := match ds with
  | [] => some env
  | _ => none
def tgCons (f : D → Env' → Option Env') (g : List D → Env' → Option Env') (ds : List D) (env : Env') : Option Env' := match ds with
  | d :: ds => (f d env).bind fun env => g ds env
  | [] => none
def tgTup (n : Nat) (g : List D → Env' → Option Env') (d : D) (env : Env') : Option Env' := match d with
  | .tup ds => if ds.length = n then g ds env else none
  | _ => none
def tgName (i : Nat) (d : D) (env : Env') : Option Env' := some (env.set i (some d))
section
variable {X : Cx} {pos : Pos}
theorem tg_name {i : Nat} {x : Str} (hN : X.N.Nodup) (hi : X.N[i]? = some x) (hx : Loc X.env.scope x) (hf : X.fn x = true ∨ X.env.scope.names.lookup x = some .local) : L2.PG X (.Name x pos) (tgD X.K [i] (tgName i)) := by
  refine pg_weak (pg_name hN hi hx hf) fun v σ H Q ⟨ι, env, d, env', re, q, e, h⟩ => ?_
  cases e
  exact h _ (re.set i q) fun vs hv => wipe_set (hv i (List.mem_singleton.mpr rfl))
theorem tgs_nil : L2.PGs X [] (tgsD X.K [] tgNil) := ⟨fun pins s σ H vs us Q I r ⟨ι, env, ds, env', re, q, e, h⟩ => by
  unfold tgNil at e
  split at e
  · cases e
    exact (pgs_nil (X := X)).run pins s σ H vs us Q I r ⟨q, h σ re fun _ _ => rfl⟩
  · cases e⟩
def isTgt : Expr → Bool
  | .Name _ _ => true
  | .Tuple _ _ _ => true
  | _ => false
theorem asg_cons {e : Expr} {es : List Expr} {env : Env} (h : isTgt e = true) : (assignEach (e :: es) env).map (·.2) = assign e env :: (assignEach es env).map (·.2) := by
  cases e <;> first
    | rfl
    | cases h
theorem asg_len : ∀ {es : List Expr} {env : Env}, es.all isTgt = true → (assignEach es env).length = es.length ∧ (assignEach es env).findIdx? (·.1) = none
  | [], _, _ => ⟨rfl, rfl⟩
  | e :: es, env, h => by
    obtain ⟨h1, h2⟩ := Bool.and_eq_true_iff.mp (show (isTgt e && es.all isTgt) = true from h)
    obtain ⟨g1, g2⟩ := asg_len (env := env) h2
    have q : ∃ t, assignEach (e :: es) env = (false, t) :: assignEach es env := by
      cases e <;> first
        | exact ⟨_, rfl⟩
        | cases h1
    obtain ⟨t, q⟩ := q
    rw [q]
    refine ⟨by simp [g1], ?_⟩
    rw [List.findIdx?_cons, g2]
    rfl
theorem tgs_cons {e : Expr} {es : List Expr} {L L' : List Nat} {f : D → Env' → Option Env'} {g : List D → Env' → Option Env'} (h1 : L2.PG X e (tgD X.K L f)) (h2 : L2.PGs X es (tgsD X.K L' g)) (hs : isTgt e = true) :
    L2.PGs X (e :: es) (tgsD X.K (L ++ L') (tgCons f g)) := ⟨fun pins s σ H vs us Q I r ⟨ι, env, ds, env', re, q, e, h⟩ => by
  unfold tgCons at e
  split at e
  · rename_i d ds
    obtain ⟨v, vr, rfl, q1, q2⟩ := q
    obtain ⟨env1, e1, e2⟩ := Option.bind_eq_some_iff.mp e
    refine (pgs_cons h1 h2 (asg_cons hs)).run pins s σ H _ us Q I r ⟨v, vr, rfl, ι, env, d, env1, re, q1, e1, fun σ1 re1 w1 => ?_⟩
    exact ⟨ι, env1, ds, env', re1, q2, e2, fun σ2 re2 w2 => h σ2 re2 fun vs hv => (w2 vs fun i hi => hv i (List.mem_append_right _ hi)).trans (w1 vs fun i hi => hv i (List.mem_append_left _ hi))⟩
  · cases e⟩
theorem tg_tup {es : List Expr} {k : Nat} {L : List Nat} {g : List D → Env' → Option Env'} (hc : X.calm = true) (h : L2.PGs X es (tgsD X.K L g)) (hs : es.all isTgt = true) : L2.PG X (.Tuple es k pos) (tgD X.K L (tgTup es.length g)) := by
  obtain ⟨g1, g2⟩ := asg_len (env := X.env) hs
  refine pg_weak (pg_tup hc h g1 g2) fun v σ H Q ⟨ι, env, d, env', re, q, e, hq⟩ => ?_
  unfold tgTup at e
  split at e
  · split at e
    · rename_i hl
      obtain ⟨a, vs, rfl, q1, q2⟩ := q
      exact ⟨a, vs, rfl, q1, by rw [q2.len]; exact hl, ι, env, _, env', re, q2, e, hq⟩
    · cases e
  · cases e
/-- name = e -/
theorem ps_set' {W : WX} {i : Nat} {x : Str} {e : Expr} {fe : Env' → Sto → Out D} {pos' : Pos} (hN : X.N.Nodup) (hi : X.N[i]? = some x) (hx : Loc X.env.scope x) (hf : X.fn x = true ∨ X.env.scope.names.lookup x = some .local) (hs : swapsWith e (some (.Name x pos')) pos.line X.env = pure false) (he : PE X e (tE X.K W fe)) :
    PS X (.Assign [.Name x pos'] e pos) (tS X.K W fun env st => (fe env st).toS env fun d st => .nx (env.set i (some d)) st) := by
  refine (ps_set hN hi hx he hs hf).weak fun D σ H ⟨ι, st, env, r, re, h⟩ => ?_
  exact tS_bind r re h fun d st1 ι1 H1 v e1 r1 re1 q1 h1 => h1 ι1 H1 _ Evo.refl r1 (re1.set i q1)
/-- name op= e -/
theorem ps_aug' {W : WX} {i : Nat} {x : Str} {e : Expr} {op : Operator} {fe : Env' → Sto → Out D} {pos' : Pos} {g : D → D → Sto → Out D} (hN : X.N.Nodup) (hi : X.N[i]? = some x) (hx : Loc X.env.scope x) (hf : X.fn x = true ∨ X.env.scope.names.lookup x = some .local) (ho : OpR X (inplaceOp op) (r2D X.K g)) (he : PE X e (tE X.K W fe)) :
    PS X (.AugAssign (.Name x pos') op e pos) (tS X.K W fun env st => match getS env i with
      | some a => (fe env st).toS env fun b st => ((g a b st).pure').toS env fun d st => .nx (env.set i (some d)) st
      | none => .bad) := by
  refine (ps_aug hN hi hx he ho hf).weak fun D σ H ⟨ι, st, env, r, re, h⟩ => ?_
  have h' : PGs X.K W D ι H (match getS env i with
      | some a => (fe env st).toS env fun b st => ((g a b st).pure').toS env fun d st => .nx (env.set i (some d)) st
      | none => .bad) := h
  cases eg : getS env i with
  | none => rw [eg] at h'; exact h'.elim
  | some a =>
    rw [eg] at h'
    have ea : env[i]? = some (some a) := by
      unfold getS at eg
      split at eg
      · rename_i o eo
        rw [eo, eg]
      · cases eg
    obtain ⟨v, ev, qv⟩ := re.at_ i a ea
    refine ⟨v, ev, ?_⟩
    refine tS_bind r re h' fun b st1 ι1 H1 w e1 r1 re1 q1 h1 => ?_
    refine ⟨ι1, st1, a, b, r1, RD.mono e1.kp _ _ qv, q1, ?_⟩
    cases og : g a b st1 with
    | val d st2 =>
      rw [og] at h1
      exact fun ι2 H2 z e2 r2 q2 => h1 ι2 H2 _ e2 r2 ((re1.mono e2.kp).set i q2)
    | exc c z st2 => rw [og] at h1; exact h1
    | bad => rw [og] at h1; exact h1
/-- o[i] = e -/
def plainIx : Expr → Bool
  | .Slice _ _ _ _ => false
  | .Constant _ _ _ => true
  | .Name _ _ => true
  | .BinOp _ _ _ _ => true
  | .UnaryOp _ _ _ => true
  | .Call _ _ _ _ => true
  | .Subscript _ _ _ => true
  | .Attribute _ _ _ => true
  | .Tuple _ _ _ => true
  | .IfExp _ _ _ _ => true
  | _ => false
theorem plain_ix {b : Expr} (h : plainIx b = true) : PlainIx b := by
  intro o i
  cases b <;> first
    | rfl
    | cases h
def dSet (d i v : D) (st : Sto) : Option Sto := match d, i with
  | .obj n, .int k => (match st[n]? with
    | some (.lst xs) => (ixN xs.length k).map fun j => st.set n (.lst (xs.set j v))
    | _ => none)
  | _, _ => none
theorem asg_sub {o i : Expr} {env : Env} {p : Pos} (h : plainIx i = true) : ∀ v, assign (.Subscript o i p) env v = (do
      let ov ← holding [v] (eval o env)
      let iv ← holding [v, ov] (eval i env)
      standAt p
      holding [v, ov, iv] (setItem ov iv v)
      release [v, ov, iv] []) := by
  intro v
  cases i <;> first
    | rfl
    | cases h
def noSwap : Expr → Bool
  | .Name _ _ => false
  | _ => true
theorem ps_setIx {W : WX} {o i e : Expr} {fo fi fe : Env' → Sto → Out D} {p : Pos} (hs : noComp e = true) (hi : plainIx i = true) (hx : swapsWithSole [.Subscript o i p] e pos.line X.env = pure false) (hw : swappedStores [.Subscript o i p] e X.env = pure none) (he : PE X e (tE X.K W fe)) (ho : PE X o (tE X.K W fo)) (hii : PE X i (tE X.K W fi)) :
    PS X (.Assign [.Subscript o i p] e pos) (tS X.K W fun env st => (fe env st).toS env fun v st => (fo env st).toS env fun d st => (fi env st).toS env fun k st => match dSet d k v st with
      | some st => .nx env st
      | none => .bad) := by
  refine (ps_asg he (pg_sub ho hii set_list (asg_sub hi)) hx hw rfl).weak fun D σ H ⟨ι, st, env, r, re, h⟩ => ?_
  refine tS_bind r re h fun v st1 ι1 H1 w e1 r1 re1 q1 h1 => ?_
  refine tS_bind r1 re1 h1 fun d st2 ι2 H2 w2 e2 r2 re2 q2 h2 => ?_
  refine tS_bind r2 re2 h2 fun k st3 ι3 H3 w3 e3 r3 re3 q3 h3 => ?_
  cases ed : dSet d k v st3 with
  | none => rw [ed] at h3; exact h3.elim
  | some st4 =>
    rw [ed] at h3
    unfold dSet at ed
    split at ed
    · rename_i n z
      split at ed
      · rename_i xs es
        obtain ⟨j, ej, rfl⟩ := Option.map_eq_some_iff.mp ed
        obtain rfl := q3
        obtain ⟨a, vs, rfl, g1, g2, g3⟩ := obj_lst r3 es (RD.mono e3.kp _ _ q2)
        have qv := RD.mono e3.kp _ _ (RD.mono e2.kp _ _ q1)
        have ev : Evo ι3 H3 ι3 (upd H3 a (.lst (vs.set j w))) := Evo.write (List.mem_of_getElem? g1) g2 rfl
        refine ⟨a, vs, z, j, rfl, rfl, g2, by rw [g3.len]; exact ej, ?_⟩
        exact h3 ι3 _ σ ev (r3.write g1 g2 rfl ⟨_, upd_same, RDs.mono ev.kp _ _ (g3.set j qv)⟩) (re3.mono ev.kp)
      · cases ed
    · cases ed
end
/-! ### for -/
def forGo (b : D → Env' → Sto → SOut) (src : Src) : Nat → Nat → Env' → Sto → SOut
  | 0, _, _, _ => .bad
  | f + 1, i, env, st => match src.at_ st i with
    | none => .bad
    | some none => .nx env st
    | some (some x) => match b x env st with
      | .nx env st => forGo b src f (i + 1) env st
      | .ct env st => forGo b src f (i + 1) env st
      | .bk env st => .nx env st
      | .rt d st => .rt d st
      | .exc c v env st => .exc c v env st
      | .bad => .bad
def asgB (g : D → Env' → Option Env') (fb : Env' → Sto → SOut) (x : D) (env : Env') (st : Sto) : SOut := match g x env with
  | some env => fb env st
  | none => .bad
theorem asgB_some {g : D → Env' → Option Env'} {fb : Env' → Sto → SOut} {x : D} {env env2 : Env'} {st : Sto} (h : g x env = some env2) : asgB g fb x env st = fb env2 st := by
  unfold asgB
  rw [h]
theorem asgB_none {g : D → Env' → Option Env'} {fb : Env' → Sto → SOut} {x : D} {env : Env'} {st : Sto} (h : g x env = none) : asgB g fb x env st = .bad := by
  unfold asgB
  rw [h]
section
variable {X : Cx} {pos : Pos} {W : WX}
theorem ps_for' {tg iter : Expr} {body : List Stmt} {L : List Nat} {g : D → Env' → Option Env'} {fi : Env' → Sto → Out Src} {fb : Env' → Sto → SOut} (hp : PassesOwn (model X.prog X.w) X.A X.env X.xe) (hc : X.calm = true) (hi : PI X tg iter (tI X.K W fi)) (hg : L2.PG X tg (tgD X.K L g)) (hb : PSs X body (tS X.K W fb))
    (hs : ∀ x, foldedSetIterable iter X.env x = pure x) : PS X (.For tg iter body [] pos) (tS X.K W fun env st => (fi env st).toS env fun src st => forGo (asgB g fb) src (src.len st + 1) 0 env st) := by
  refine (ps_for hp hc hi hg hb hs).weak fun D σ H ⟨ι, st, env, r, re, h⟩ => ?_
  refine tS_bind r re h fun src st1 ι1 H1 J e1 r1 re1 hsrc h1 => ?_
  refine ⟨fun i m σ' H' => ∃ ι' st' env', RSto X.K ι' st' H' ∧ REnv X.K ι' H' env' σ' ∧ Evo ι1 H1 ι' H' ∧ PGs X.K W D ι' H' (forGo (asgB g fb) src m i env' st'), ⟨_, ι1, st1, env, r1, re1, Evo.refl, h1⟩, ?_⟩
  rintro i m σ' H' ⟨ι', st', env', r', re', ev, h'⟩
  cases m with
  | zero => exact h'.elim
  | succ m =>
    unfold forGo at h'
    have S := hsrc ι' H' st' ev r' i
    cases ea : src.at_ st' i with
    | none => rw [ea] at h'; exact h'.elim
    | some o =>
      rw [ea] at h'
      cases o with
      | none => exact .inl ⟨S.1 ea, h' ι' H' σ' Evo.refl r' re'⟩
      | some x =>
        obtain ⟨go, yl⟩ := S.2 x ea
        refine .inr ⟨go, fun σ2 H2 => ∃ ι2 st2 env2, RSto X.K ι2 st2 H2 ∧ REnv X.K ι2 H2 env2 σ2 ∧ Evo ι1 H1 ι2 H2 ∧ PGs X.K W D ι2 H2 (forGo (asgB g fb) src m (i + 1) env2 st2), fun σ2 H2 z => ⟨m, Nat.lt_succ_self m, z⟩, fun v H2 y => ?_⟩
        obtain ⟨ev2, r2, q2⟩ := yl v H2 y
        have evt := Evo.trans r' ev ev2
        have h2 : PGs X.K W D ι' H2 (match asgB g fb x env' st' with
          | .nx env st => forGo (asgB g fb) src m (i + 1) env st
          | .ct env st => forGo (asgB g fb) src m (i + 1) env st
          | .bk env st => .nx env st
          | .rt d st => .rt d st
          | .exc c v env st => .exc c v env st
          | .bad => .bad) := PGs.mono r2 ev2 h'
        cases eg : g x env' with
        | none =>
          rw [asgB_none eg] at h2
          exact h2.elim
        | some env2 =>
          rw [asgB_some eg] at h2
          refine ⟨ι', env', x, env2, re'.mono ev2.kp, q2, eg, fun σ2 re2 _ => ⟨ι', st', env2, r2, re2, ?_⟩⟩
          have again : ∀ {env3 st3}, PGs X.K W D ι' H2 (forGo (asgB g fb) src m (i + 1) env3 st3) → ∀ ι3 H3 σ3, Evo ι' H2 ι3 H3 → RSto X.K ι3 st3 H3 → REnv X.K ι3 H3 env3 σ3 → ∃ ι2 st2 env2, RSto X.K ι2 st2 H3 ∧ REnv X.K ι2 H3 env2 σ3 ∧ Evo ι1 H1 ι2 H3 ∧ PGs X.K W D ι2 H3 (forGo (asgB g fb) src m (i + 1) env2 st2) :=
            fun {env3 st3} hh ι3 H3 σ3 e3 r3 re3 => ⟨ι3, st3, env3, r3, re3, Evo.trans r2 evt e3, PGs.mono r3 e3 hh⟩
          cases ef : fb env2 st' with
          | nx env3 st3 =>
            rw [ef] at h2
            exact again h2
          | ct env3 st3 =>
            rw [ef] at h2
            exact again h2
          | bk env3 st3 => rw [ef] at h2; exact h2
          | rt d st3 => rw [ef] at h2; exact h2
          | exc c w env3 st3 => rw [ef] at h2; exact h2
          | bad => rw [ef] at h2; exact h2
end
/-! ### while -/
def whlGo (c : Env' → Sto → Out Bool) (b : Env' → Sto → SOut) : Nat → Env' → Sto → SOut
  | 0, _, _ => .bad
  | f + 1, env, st => (c env st).toS env fun k st => match k with
    | false => .nx env st
    | true => match b env st with
      | .nx env st => whlGo c b f env st
      | .ct env st => whlGo c b f env st
      | .bk env st => .nx env st
      | .rt d st => .rt d st
      | .exc c v env st => .exc c v env st
      | .bad => .bad
section
variable {X : Cx} {pos : Pos} {W : WX}
theorem ps_whl' {c : Expr} {body : List Stmt} {fc : Env' → Sto → Out Bool} {fb : Env' → Sto → SOut} (n : Nat) (hp : PassesOwn (model X.prog X.w) X.A X.env X.xe) (hc : PT X c (tT X.K W fc)) (hb : PSs X body (tS X.K W fb)) : PS X (.While c body [] pos) (tS X.K W fun env st => whlGo fc fb n env st) := by
  refine (ps_while hp hc hb).weak fun D σ H ⟨ι, st, env, r, re, h⟩ => ?_
  refine ⟨fun m σ' H' => ∃ ι' st' env', RSto X.K ι' st' H' ∧ REnv X.K ι' H' env' σ' ∧ PGs X.K W D ι' H' (whlGo fc fb m env' st'), ⟨n, ι, st, env, r, re, h⟩, ?_⟩
  rintro m σ' H' ⟨ι', st', env', r', re', h'⟩
  cases m with
  | zero => exact h'.elim
  | succ m =>
    unfold whlGo at h'
    refine tS_bind r' re' h' fun k st1 ι1 H1 v e1 r1 re1 q1 h1 => ?_
    obtain rfl := q1
    cases v with
    | false =>
      rw [if_neg Bool.false_ne_true]
      exact h1 ι1 H1 σ' Evo.refl r1 re1
    | true =>
      rw [if_pos rfl]
      refine ⟨fun σ2 H2 => ∃ ι2 st2 env2, RSto X.K ι2 st2 H2 ∧ REnv X.K ι2 H2 env2 σ2 ∧ PGs X.K W D ι2 H2 (whlGo fc fb m env2 st2), fun σ2 H2 z => ⟨m, Nat.lt_succ_self m, z⟩, ι1, st1, env', r1, re1, ?_⟩
      have h2 : PGs X.K W D ι1 H1 (match fb env' st1 with
        | .nx env st => whlGo fc fb m env st
        | .ct env st => whlGo fc fb m env st
        | .bk env st => .nx env st
        | .rt d st => .rt d st
        | .exc c v env st => .exc c v env st
        | .bad => .bad) := h1
      cases ef : fb env' st1 with
      | nx env3 st3 =>
        rw [ef] at h2
        exact fun ι3 H3 σ3 e3 r3 re3 => ⟨ι3, st3, env3, r3, re3, PGs.mono r3 e3 h2⟩
      | ct env3 st3 =>
        rw [ef] at h2
        exact fun ι3 H3 σ3 e3 r3 re3 => ⟨ι3, st3, env3, r3, re3, PGs.mono r3 e3 h2⟩
      | bk env3 st3 => rw [ef] at h2; exact h2
      | rt d st3 => rw [ef] at h2; exact h2
      | exc c w env3 st3 => rw [ef] at h2; exact h2
      | bad => rw [ef] at h2; exact h2
end
end L2.Ev

/-! Comprehensions; calls of the text's functions. -/
namespace L2.Ev
open PySem PySem.Spec PyProof.Rows
section
variable {K : PySem.W.Frag} {ι ι1 : List Addr} {st st1 : Sto} {H H1 : Hp} {a : Addr} {o u : HO}
theorem Kp.off (h : H a = some u) (hs : isSt u = true) : Kp ι H ι (upd H a o) := ⟨fun _ _ h => h, fun b v n e => by
  rw [upd_ne fun z => ?_]
  · exact e
  · rw [z, h] at e
    cases e
    rw [hs] at n
    cases n⟩
theorem RSto.off (r : RSto K ι st H) (nd : a ∉ ι) (h : H a = some u) (hs : isSt u = true) : RSto K ι st (upd H a o) :=
  ⟨r.len, r.nd, fun i b v e1 e2 => RO.mono (Kp.off h hs) (r.at_ i b v e1 e2) (upd_ne fun z => nd (by rw [← z]; exact List.mem_of_getElem? e1))⟩
theorem Evo.off (e : Evo ι H ι1 H1) (hn : H a = none) : Evo ι H ι1 (upd H1 a o) := ⟨e.pre, fun b v hb q => by
  rw [upd_ne (ne_of_none q hn)]
  exact e.keep b v hb q⟩
theorem Evo.out (e : Evo ι H ι1 H1) (nd : a ∉ ι) (h : H a = some u) : a ∉ ι1 ∧ H1 a = some u := by
  refine ⟨fun z => ?_, e.keep a u (.inl nd) h⟩
  obtain ⟨l, rfl, hl⟩ := e.pre
  rcases List.mem_append.mp z with z | z
  · exact nd z
  · rw [hl a z] at h
    cases h
end
theorem wipe_none {σ : St} {i : Nat} : ∀ {vs : List Nat}, i ∈ vs → (L2.wipe σ vs).set i none = L2.wipe σ vs
  | [], h => by cases h
  | v :: vs, h => by
    show ((L2.wipe σ vs).set v none).set i none = (L2.wipe σ vs).set v none
    by_cases hv : i = v
    · subst hv
      rw [List.set_set]
    · have hi : i ∈ vs := by
        rcases List.mem_cons.mp h with z | z
        · exact absurd z hv
        · exact z
      rw [List.set_comm _ _ (Ne.symm hv), wipe_none hi]
theorem wipe_wipe (σ : St) (ws : List Nat) : ∀ vs : List Nat, (∀ i ∈ vs, i ∈ ws) → L2.wipe (L2.wipe σ ws) vs = L2.wipe σ ws
  | [], _ => rfl
  | v :: vs, h => by
    show (L2.wipe (L2.wipe σ ws) vs).set v none = L2.wipe σ ws
    rw [wipe_wipe σ ws vs fun i hi => h i (List.mem_cons_of_mem _ hi)]
    exact wipe_none (h v List.mem_cons_self)
/-- no error leaves -/
def Wno : WX := fun _ _ _ _ => False
def lcGo (g : D → Env' → Option Env') (t : Env' → Sto → Out Bool) (e : Env' → Sto → Out D) (src : Src) (env0 : Env') : Nat → Nat → List D → Sto → Out (List D)
  | 0, _, _, _ => .bad
  | f + 1, i, acc, st => match src.at_ st i with
    | none => .bad
    | some none => .val acc st
    | some (some x) => match g x env0 with
      | none => .bad
      | some env => ((t env st).pure').bind fun b st => match b with
        | false => lcGo g t e src env0 f (i + 1) acc st
        | true => ((e env st).pure').bind fun d st => if acc.length < sizeLine then lcGo g t e src env0 f (i + 1) (acc ++ [d]) st else .bad
section
variable {K : PySem.W.Frag} {W : WX} {Q : VK} {σ : St} {H : Hp} {m : Bool} {fi : Env' → Sto → Out Src} {g : D → Env' → Option Env'} {ft : Env' → Sto → Out Bool} {fe : Env' → Sto → Out D} {L vs : List Nat}
theorem lc_evQ {Q' : VK} (hQ : ∀ v H, lkQ m Q v H → Q' v H) (hL : ∀ i ∈ L, i ∈ vs) (h : tE K W (fun env st => (fi env st).bind fun src st => (lcGo g ft fe src (wipeE env vs) (src.len st + 1) 0 [] st).bind fun ds st => mkL m ds st) σ H Q) :
    tLc (tI K W fi) (tgD K L g) (tT K Wno ft) (tE K Wno fe) vs σ H Q' := by
  obtain ⟨ι, st, env, r, re, h⟩ := h
  refine tG_bind r re h fun src st1 ι1 H1 J e1 r1 re1 hsrc h1 => ?_
  intro Dd hD
  refine ⟨fun i n H' => ∃ ι' st' acc us, RSto K ι' st' H' ∧ H' Dd = some (.lst us) ∧ Dd ∉ ι' ∧ RDs K ι' H' acc us ∧ Evo ι1 H1 ι' H' ∧ PG K (RD K) W Q σ ι1 H1 ((lcGo g ft fe src (wipeE env vs) n i acc st').bind fun ds st => mkL m ds st), ⟨src.len st1 + 1, ι1, st1, [], [], r1.side hD, upd_same, r1.fresh hD, rfl, Evo.side hD, h1⟩, ?_⟩
  rintro i n H' ⟨ι', st', acc, us, r', hd, nd, ra, ev, h'⟩
  cases n with
  | zero => exact h'.elim
  | succ n =>
    unfold lcGo at h'
    have S := hsrc ι' H' st' ev r' i
    cases ea : src.at_ st' i with
    | none => rw [ea] at h'; exact h'.elim
    | some o =>
      rw [ea] at h'
      cases o with
      | none =>
        refine .inl ⟨S.1 ea, hQ _ _ ?_⟩
        cases m with
        | true =>
          have ev2 : Evo ι1 H1 (ι' ++ [Dd]) H' := by
            obtain ⟨⟨l, el, hl⟩, kp⟩ := ev
            refine ⟨⟨l ++ [Dd], by rw [el, List.append_assoc], fun b hb => ?_⟩, kp⟩
            rcases List.mem_append.mp hb with z | z
            · exact hl b z
            · rw [List.mem_singleton.mp z]
              exact hD
          have kp2 : Kp ι' H' (ι' ++ [Dd]) H' := ⟨fun k b q => by
            rw [List.getElem?_append_left (List.getElem?_eq_some_iff.mp q).1]
            exact q, fun _ _ _ q => q⟩
          have r2 : RSto K (ι' ++ [Dd]) (st' ++ [.lst acc]) H' := by
            refine ⟨by simp [r'.len], List.nodup_append.mpr ⟨r'.nd, by simp, fun x hx y hy z => nd (by rw [List.mem_singleton] at hy; rw [z, hy] at hx; exact hx)⟩, fun k b w q1 q2 => ?_⟩
            by_cases hk : k < ι'.length
            · rw [List.getElem?_append_left hk] at q1
              rw [List.getElem?_append_left (by rw [← r'.len]; exact hk)] at q2
              exact RO.mono kp2 (r'.at_ k b w q1 q2) rfl
            · have ek : k = ι'.length := by
                have := (List.getElem?_eq_some_iff.mp q1).1
                rw [List.length_append, List.length_singleton] at this
                omega
              subst ek
              rw [List.getElem?_append_right (Nat.le_refl _), Nat.sub_self] at q1
              rw [r'.len, List.getElem?_append_right (Nat.le_refl _), Nat.sub_self] at q2
              cases (Option.some.inj q1)
              cases (Option.some.inj q2)
              exact ⟨us, hd, RDs.mono kp2 _ _ ra⟩
          exact h' (ι' ++ [Dd]) H' (.ref Dd) ev2 r2 ⟨Dd, rfl, at_last r' Dd⟩
        | false =>
          refine ⟨Dd, us, rfl, hd, fun od => ?_⟩
          exact h' ι' _ (.ref Dd) (Evo.off ev hD) (r'.off nd hd rfl) ⟨Dd, us, rfl, .inl ⟨od, upd_same⟩, RDs.mono (Kp.off hd rfl) _ _ ra⟩
      | some x =>
        obtain ⟨go, yl⟩ := S.2 x ea
        refine .inr ⟨go, fun H3 => ∃ ι' st' acc us, RSto K ι' st' H3 ∧ H3 Dd = some (.lst us) ∧ Dd ∉ ι' ∧ RDs K ι' H3 acc us ∧ Evo ι1 H1 ι' H3 ∧ PG K (RD K) W Q σ ι1 H1 ((lcGo g ft fe src (wipeE env vs) n (i + 1) acc st').bind fun ds st => mkL m ds st), fun H3 z => ⟨n, Nat.lt_succ_self n, z⟩, fun v H2 y => ?_⟩
        obtain ⟨ev2, r2, q2⟩ := yl v H2 y
        have evt := Evo.trans r' ev ev2
        obtain ⟨nd2, hd2⟩ := ev2.out nd hd
        have ra2 := RDs.mono ev2.kp _ _ ra
        have re2 := (re1.mono ev.kp).mono ev2.kp
        cases eg : g x (wipeE env vs) with
        | none => simp only [eg] at h'; exact h'.elim
        | some env2 =>
          simp only [eg] at h'
          refine ⟨ι', wipeE env vs, x, env2, re2.wipe vs, q2, eg, fun σ2 re3 hw => ⟨(hw vs hL).trans (wipe_wipe σ vs vs fun _ z => z), ?_⟩⟩
          refine ⟨ι', st', env2, r2, re3, ?_⟩
          cases et : ft env2 st' with
          | bad => rw [et] at h'; exact h'.elim
          | exc c w st3 => rw [et] at h'; exact h'.elim
          | val b st3 =>
            rw [et] at h'
            intro ι3 H3 b' e3 r3 eb
            obtain rfl := eb
            obtain ⟨nd3, hd3⟩ := e3.out nd2 hd2
            have evt3 := Evo.trans r2 evt e3
            have ra3 := RDs.mono e3.kp _ _ ra2
            cases b' with
            | false =>
              rw [if_neg Bool.false_ne_true]
              exact ⟨ι3, st3, acc, us, r3, hd3, nd3, ra3, evt3, h'⟩
            | true =>
              rw [if_pos rfl]
              refine ⟨ι3, st3, env2, r3, re3.mono e3.kp, ?_⟩
              have h2 : PG K (RD K) W Q σ ι1 H1 ((((fe env2 st3).pure').bind fun d st => if acc.length < sizeLine then lcGo g ft fe src (wipeE env vs) n (i + 1) (acc ++ [d]) st else .bad).bind fun ds st => mkL m ds st) := h'
              cases ee : fe env2 st3 with
              | bad => rw [ee] at h2; exact h2.elim
              | exc c w st4 => rw [ee] at h2; exact h2.elim
              | val d st4 =>
                rw [ee] at h2
                intro ι4 H4 w e4 r4 q4
                obtain ⟨nd4, hd4⟩ := e4.out nd3 hd3
                have evt4 := Evo.trans r3 evt3 e4
                have ra4 := RDs.mono e4.kp _ _ ra3
                have h3 : PG K (RD K) W Q σ ι1 H1 ((if acc.length < sizeLine then lcGo g ft fe src (wipeE env vs) n (i + 1) (acc ++ [d]) st4 else .bad).bind fun ds st => mkL m ds st) := h2
                split at h3
                · rename_i hz
                  refine ⟨us, hd4, by rw [ra4.len]; exact hz, ι4, st4, acc ++ [d], us ++ [w], r4.off nd4 hd4 rfl, upd_same, nd4, ?_, Evo.off evt4 hD, h3⟩
                  exact RDs.mono (Kp.off hd4 rfl) _ _ (ra4.app ⟨w, [], rfl, q4, rfl⟩)
                · exact h3.elim
end
theorem lc_ev {K : PySem.W.Frag} {W : WX} {Q : VK} {σ : St} {H : Hp} {m : Bool} {fi : Env' → Sto → Out Src} {g : D → Env' → Option Env'} {ft : Env' → Sto → Out Bool} {fe : Env' → Sto → Out D} {L vs : List Nat} (hL : ∀ i ∈ L, i ∈ vs) (h : tE K W (fun env st => (fi env st).bind fun src st => (lcGo g ft fe src (wipeE env vs) (src.len st + 1) 0 [] st).bind fun ds st => mkL m ds st) σ H Q) :
    tLc (tI K W fi) (tgD K L g) (tT K Wno ft) (tE K Wno fe) vs σ H (lkQ m Q) := lc_evQ (fun _ _ q => q) hL h
theorem ps_lock {X : Cx} {s : Stmt} {t : TS} (h : PS X s t) : PS X s (fun D σ H => t { D with nx := fun σ' H' => ∃ a xs, H' a = some (.lst xs) ∧ ∀ od, D.nx σ' (upd H' a (.frz od (.lst xs))) } σ H) := by
  refine ⟨fun pins s σ H D I q => thn (h.run pins s σ H _ I q) fun f s1 q1 => ?_⟩
  cases f with
  | next =>
    obtain ⟨σ', H', I', a, xs, e, q⟩ := q1
    obtain ⟨od, I2⟩ := I'.lock e trivial
    exact ⟨σ', _, I2, q od⟩
  | brk => exact q1
  | cont => exact q1
  | ret u => exact q1
section
variable {X : Cx} {W : WX} {m : Bool} {fi : Env' → Sto → Out Src} {g : D → Env' → Option Env'} {ft : Env' → Sto → Out Bool} {fe : Env' → Sto → Out D} {L : List Nat} {elt tg iter : Expr} {ifs : List Expr} {scope : Scope} {own : List (Str × Nat)} {pos : Pos}
theorem pe_lc' (m : Bool) (hc : X.calm = true) (hN : X.N.Nodup) (hi : PI X tg iter (tI X.K W fi)) (ok : BlkOk X.N X.env.scope scope own) (hL : ∀ i ∈ L, i ∈ own.map (·.2))
    (hg : ∀ (s : Shared) (H : Hp) (C : Addr) (cl : List (Str × Addr)) (fp : List Addr), L2.PG (X.blk s H scope (compEnvC scope cl C X.env) fp) tg (tgD X.K L g)) (ht : ∀ (s : Shared) (H : Hp) (C : Addr) (cl : List (Str × Addr)) (fp : List Addr), PTs (X.blk s H scope (compEnvC scope cl C X.env) fp) ifs (tT X.K Wno ft))
    (he : ∀ (s : Shared) (H : Hp) (C : Addr) (cl : List (Str × Addr)) (fp : List Addr), PE (X.blk s H scope (compEnvC scope cl C X.env) fp) elt (tE X.K Wno fe)) (hs : ∀ x, foldedSetIterable iter X.env x = pure x) :
    PE X (.ListComp elt [⟨tg, iter, ifs, 0⟩] scope pos) (tE X.K W fun env st => (fi env st).bind fun src st => (lcGo g ft fe src (wipeE env (own.map (·.2))) (src.len st + 1) 0 [] st).bind fun ds st => mkL m ds st) :=
  (pe_lk m (pe_lc hc hN hi ok hg ht he hs)).weak fun σ H Q h => lc_ev hL h
/-- name = [..] -/
theorem ps_setLc' (m : Bool) {i : Nat} {y : Str} {py spos : Pos} (hc : X.calm = true) (hN : X.N.Nodup) (hy : X.N[i]? = some y) (hyl : X.env.scope.names.lookup y = some .local)
    (hsw : swapsWith (.ListComp elt [⟨tg, iter, ifs, 0⟩] scope pos) (some (.Name y py)) spos.line X.env = pure true) (hi : PI X tg iter (tI X.K W fi)) (ok : BlkOk X.N X.env.scope scope own) (hL : ∀ i ∈ L, i ∈ own.map (·.2))
    (hg : ∀ (s : Shared) (H : Hp) (C : Addr) (cl : List (Str × Addr)) (fp : List Addr), L2.PG (X.blk s H scope (compEnvC scope cl C X.env) fp) tg (tgD X.K L g)) (ht : ∀ (s : Shared) (H : Hp) (C : Addr) (cl : List (Str × Addr)) (fp : List Addr), PTs (X.blk s H scope (compEnvC scope cl C X.env) fp) ifs (tT X.K Wno ft))
    (he : ∀ (s : Shared) (H : Hp) (C : Addr) (cl : List (Str × Addr)) (fp : List Addr), PE (X.blk s H scope (compEnvC scope cl C X.env) fp) elt (tE X.K Wno fe)) (hs : ∀ x, foldedSetIterable iter X.env x = pure x) :
    PS X (.Assign [.Name y py] (.ListComp elt [⟨tg, iter, ifs, 0⟩] scope pos) spos) (tS X.K W fun env st => ((fi env st).bind fun src st => (lcGo g ft fe src (wipeE env (own.map (·.2))) (src.len st + 1) 0 [] st).bind fun ds st => mkL m ds st).toS env fun d st => .nx (env.set i (some d)) st) := by
  cases m with
  | true =>
    refine (ps_setLc hc hN hy hyl hsw hi ok hg ht he hs).weak fun D σ H ⟨ι, st, env, r, re, h⟩ => ?_
    have q : tE X.K W (fun env st => (fi env st).bind fun src st => (lcGo g ft fe src (wipeE env (own.map (·.2))) (src.len st + 1) 0 [] st).bind fun ds st => mkL true ds st) σ H (fun x H1 => gName i x σ H1 D.nx) :=
      tS_bind r re h fun d st1 ι1 H1 v e1 r1 re1 q1 h1 => h1 ι1 H1 _ Evo.refl r1 (re1.set i q1)
    exact lc_ev (m := true) hL q
  | false =>
    refine (ps_lock (ps_setLc hc hN hy hyl hsw hi ok hg ht he hs)).weak fun D σ H ⟨ι, st, env, r, re, h⟩ => ?_
    have q : tE X.K W (fun env st => (fi env st).bind fun src st => (lcGo g ft fe src (wipeE env (own.map (·.2))) (src.len st + 1) 0 [] st).bind fun ds st => mkL false ds st) σ H (fun x H1 => gName i x σ H1 D.nx) :=
      tS_bind r re h fun d st1 ι1 H1 v e1 r1 re1 q1 h1 => h1 ι1 H1 _ Evo.refl r1 (re1.set i q1)
    refine lc_evQ (m := false) (fun v H' z => ?_) hL q
    obtain ⟨a, xs, rfl, e, z⟩ := z
    exact ⟨a, xs, e, z⟩
end
end L2.Ev

/-! Tests, displays, calls of defs, defs. -/
namespace L2.Ev
open PySem PySem.Spec PyProof.Rows
/-! ### tests -/
def plainT : Expr → Bool
  | .BoolOp _ _ _ => false
  | .UnaryOp _ _ _ => false
  | .IfExp _ _ _ _ => false
  | .Compare _ _ _ _ => false
  | _ => true
def chkB (d : D) (st : Sto) : Out Bool := match d with
  | .bl b => .val b st
  | _ => .bad
section
variable {X : Cx} {W : WX} {a b c : Expr} {fa fb fc : Env' → Sto → Out D} {ta tb : Env' → Sto → Out Bool} {rest : List Expr} {pos : Pos}
theorem pt_tru (hp : plainT a = true) (ha : PE X a (tE X.K W fa)) : PT X a (tT X.K W fun env st => (fa env st).bind truO) := by
  refine (pt_truth ha (fun whole => ?_)).weak fun σ H Q ⟨ι, st, env, r, re, h⟩ => ?_
  · cases a <;> first
      | rfl
      | cases hp
  · exact tG_bind r re h fun d st1 ι1 H1 v e1 r1 re1 q1 h1 => PG.tru r1 h1 q1
theorem PG.chk {K : PySem.W.Frag} {ι : List Addr} {H : Hp} {st : Sto} {d : D} {v : V} {Q : Bool → Hp → Prop} {σ : St} (r : RSto K ι st H) (h : Ev.PG K (fun _ _ a b => b = a) W Q σ ι H (chkB d st)) (q : RD K ι H d v) : ∃ k, v = .bl k ∧ Q k H := by
  unfold chkB at h
  split at h
  · exact ⟨_, q, h ι H _ Evo.refl r rfl⟩
  · exact h.elim
theorem pt_cmp' {op : CmpOp} {g : D → D → Sto → Out D} (ho : OpR X (compareOp op) (r2D X.K g)) (ha : PE X a (tE X.K W fa)) (hb : PE X b (tE X.K W fb)) (hm : behindInMarks op b = false) :
    PT X (.Compare a [op] [b] pos) (tT X.K W fun env st => (fa env st).bind fun x st => (fb env st).bind fun y st => ((g x y st).pure').bind chkB) := by
  refine (pt_cmpR ho ha hb hm).weak fun σ H Q ⟨ι, st, env, r, re, h⟩ => ?_
  refine tG_bind r re h fun d st1 ι1 H1 v e1 r1 re1 q1 h1 => ?_
  refine tG_bind r1 re1 h1 fun d2 st2 ι2 H2 v2 e2 r2 re2 q2 h2 => ?_
  refine ⟨ι2, st2, d, d2, r2, RD.mono e2.kp _ _ q1, q2, ?_⟩
  cases og : g d d2 st2 with
  | val z st3 =>
    rw [og] at h2
    intro ι3 H3 w e3 r3 q3
    exact PG.chk (W := W) (σ := σ) r3 (Ev.PG.mono r3 e3 h2) q3
  | exc c z st3 => rw [og] at h2; exact h2
  | bad => rw [og] at h2; exact h2
def chainE (g g' : D → D → Sto → Out D) (fa fb fc : Env' → Sto → Out D) (env : Env') (st : Sto) : Out D := (fa env st).bind fun x st => (fb env st).bind fun y st => ((g x y st).pure').bind fun z st => (chkB z st).bind fun k st => match k with
  | true => (fc env st).bind fun w st => (g' y w st).pure'
  | false => .val (.bl false) st
theorem chain_ev {op op' : CmpOp} {g g' : D → D → Sto → Out D} {σ : St} {H : Hp} {Q : VK} (h : tE X.K W (chainE g g' fa fb fc) σ H Q) : tChain (r2D X.K g) (r2D X.K g') (tE X.K W fa) (tE X.K W fb) (tE X.K W fc) σ H Q := by
  obtain ⟨ι, st, env, r, re, h⟩ := h
  unfold chainE at h
  refine tG_bind r re h fun d st1 ι1 H1 v e1 r1 re1 q1 h1 => ?_
  refine tG_bind r1 re1 h1 fun d2 st2 ι2 H2 v2 e2 r2 re2 q2 h2 => ?_
  refine ⟨ι2, st2, d, d2, r2, RD.mono e2.kp _ _ q1, q2, ?_⟩
  cases og : g d d2 st2 with
  | exc c z st3 => rw [og] at h2; exact h2
  | bad => rw [og] at h2; exact h2
  | val z st3 =>
    rw [og] at h2
    intro ι3 H3 w e3 r3 q3
    have h3 : Ev.PG X.K (RD X.K) W Q σ ι3 H3 ((chkB z st3).bind fun k st => match k with
      | true => (fc env st).bind fun w st => (g' d2 w st).pure'
      | false => .val (.bl false) st) := Ev.PG.mono r3 e3 h2
    unfold chkB at h3
    split at h3
    · rename_i k
      refine ⟨k, q3, ?_⟩
      cases k with
      | true =>
        rw [if_pos rfl]
        have h4 : Ev.PG X.K (RD X.K) W Q σ ι3 H3 ((fc env st3).bind fun w st => (g' d2 w st).pure') := h3
        refine tG_bind r3 ((re2.mono e3.kp)) h4 fun d3 st4 ι4 H4 v4 e4 r4 re4 q4 h5 => ?_
        exact ⟨ι4, st4, d2, d3, r4, RD.mono e4.kp _ _ (RD.mono e3.kp _ _ q2), q4, PV.of h5⟩
      | false =>
        rw [if_neg Bool.false_ne_true]
        exact Ev.PG.val r3 h3 rfl
    · exact h3.elim
theorem pe_chain' {op op' : CmpOp} {g g' : D → D → Sto → Out D} (ho : OpR X (compareOp op) (r2D X.K g)) (ho' : OpR X (compareOp op') (r2D X.K g')) (ha : PE X a (tE X.K W fa)) (hb : PE X b (tE X.K W fb)) (hc : PE X c (tE X.K W fc)) (hm : lastMarks [op, op'] [b, c] = false) :
    PE X (.Compare a [op, op'] [b, c] pos) (tE X.K W (chainE g g' fa fb fc)) := (pe_chain ho ho' ha hb hc hm).weak fun σ H Q h => chain_ev (op := op) (op' := op') h
theorem pt_chain' {op op' : CmpOp} {g g' : D → D → Sto → Out D} (ho : OpR X (compareOp op) (r2D X.K g)) (ho' : OpR X (compareOp op') (r2D X.K g')) (ha : PE X a (tE X.K W fa)) (hb : PE X b (tE X.K W fb)) (hc : PE X c (tE X.K W fc)) (hm : lastMarks [op, op'] [b, c] = false) :
    PT X (.Compare a [op, op'] [b, c] pos) (tT X.K W fun env st => (chainE g g' fa fb fc env st).bind chkB) := by
  refine (pt_chain ho ho' ha hb hc hm).weak fun σ H Q ⟨ι, st, env, r, re, h⟩ => ?_
  refine chain_ev (op := op) (op' := op') (W := W) (tG_bind r re h fun d st1 ι1 H1 v e1 r1 re1 q1 h1 => ?_)
  exact PG.chk r1 h1 q1
theorem pt_not' (ha : PT X a (tT X.K W ta)) : PT X (.UnaryOp .Not a pos) (tT X.K W fun env st => (ta env st).bind fun b st => .val (!b) st) := by
  refine (pt_not ha).weak fun σ H Q ⟨ι, st, env, r, re, h⟩ => ?_
  refine tG_bind r re h fun d st1 ι1 H1 v e1 r1 re1 q1 h1 => ?_
  obtain rfl := q1
  exact Ev.PG.val r1 h1 rfl
theorem pw_and1' (ha : PT X a (tT X.K W ta)) : PW X (.BoolOp .And [a] pos) (tT X.K W ta) := pw_and1 ha
theorem pw_or1' (ha : PT X a (tT X.K W ta)) : PW X (.BoolOp .Or [a] pos) (tT X.K W ta) := pw_or1 ha
theorem pw_and' (ha : PT X a (tT X.K W ta)) (hb : PW X (.BoolOp .And (b :: rest) pos) (tT X.K W tb)) : PW X (.BoolOp .And (a :: b :: rest) pos) (tT X.K W fun env st => (ta env st).bind fun k st => match k with
    | true => tb env st
    | false => .val false st) := by
  refine (pw_and ha hb).weak fun σ H Q ⟨ι, st, env, r, re, h⟩ => ?_
  refine tG_bind r re h fun d st1 ι1 H1 v e1 r1 re1 q1 h1 => ?_
  obtain rfl := q1
  cases v with
  | true => rw [if_pos rfl]; exact ⟨ι1, st1, env, r1, re1, h1⟩
  | false => rw [if_neg Bool.false_ne_true]; exact Ev.PG.val r1 h1 rfl
theorem pw_or' (ha : PT X a (tT X.K W ta)) (hb : PW X (.BoolOp .Or (b :: rest) pos) (tT X.K W tb)) : PW X (.BoolOp .Or (a :: b :: rest) pos) (tT X.K W fun env st => (ta env st).bind fun k st => match k with
    | true => .val true st
    | false => tb env st) := by
  refine (pw_or ha hb).weak fun σ H Q ⟨ι, st, env, r, re, h⟩ => ?_
  refine tG_bind r re h fun d st1 ι1 H1 v e1 r1 re1 q1 h1 => ?_
  obtain rfl := q1
  cases v with
  | true => rw [if_pos rfl]; exact Ev.PG.val r1 h1 rfl
  | false => rw [if_neg Bool.false_ne_true]; exact ⟨ι1, st1, env, r1, re1, h1⟩
/-! ### values by truth -/
theorem pe_or' (ha : PE X a (tE X.K W fa)) (hb : PE X (.BoolOp .Or (b :: rest) pos) (tE X.K W fb)) : PE X (.BoolOp .Or (a :: b :: rest) pos) (tE X.K W fun env st => (fa env st).bind fun x st => (truO x st).bind fun k st => match k with
    | true => .val x st
    | false => fb env st) := by
  refine (pe_orT ha hb).weak fun σ H Q ⟨ι, st, env, r, re, h⟩ => ?_
  refine tG_bind r re h fun d st1 ι1 H1 v e1 r1 re1 q1 h1 => ?_
  unfold truO at h1
  split at h1
  · rename_i k e
    refine ⟨k, tru_ok' r1 e q1, ?_⟩
    cases k with
    | true => rw [if_pos rfl]; exact Ev.PG.val r1 h1 q1
    | false => rw [if_neg Bool.false_ne_true]; exact ⟨ι1, st1, env, r1, re1, h1⟩
  · exact h1.elim
theorem pe_and' (ha : PE X a (tE X.K W fa)) (hb : PE X (.BoolOp .And (b :: rest) pos) (tE X.K W fb)) : PE X (.BoolOp .And (a :: b :: rest) pos) (tE X.K W fun env st => (fa env st).bind fun x st => (truO x st).bind fun k st => match k with
    | true => fb env st
    | false => .val x st) := by
  refine (pe_andT ha hb).weak fun σ H Q ⟨ι, st, env, r, re, h⟩ => ?_
  refine tG_bind r re h fun d st1 ι1 H1 v e1 r1 re1 q1 h1 => ?_
  unfold truO at h1
  split at h1
  · rename_i k e
    refine ⟨k, tru_ok' r1 e q1, ?_⟩
    cases k with
    | true => rw [if_pos rfl]; exact ⟨ι1, st1, env, r1, re1, h1⟩
    | false => rw [if_neg Bool.false_ne_true]; exact Ev.PG.val r1 h1 q1
  · exact h1.elim
theorem pe_not' (ha : PE X a (tE X.K W fa)) : PE X (.UnaryOp .Not a pos) (tE X.K W fun env st => (fa env st).bind fun x st => (truO x st).bind fun k st => .val (.bl (!k)) st) := by
  refine (pe_notT ha).weak fun σ H Q ⟨ι, st, env, r, re, h⟩ => ?_
  refine tG_bind r re h fun d st1 ι1 H1 v e1 r1 re1 q1 h1 => ?_
  unfold truO at h1
  split at h1
  · rename_i k e
    exact ⟨k, tru_ok' r1 e q1, Ev.PG.val r1 h1 rfl⟩
  · exact h1.elim
theorem pe_if' (hc : PT X c (tT X.K W ta)) (ha : PE X a (tE X.K W fa)) (hb : PE X b (tE X.K W fb)) : PE X (.IfExp c a b pos) (tE X.K W fun env st => (ta env st).bind fun k st => match k with
    | true => fa env st
    | false => fb env st) := by
  refine (pe_ifExp hc ha hb).weak fun σ H Q ⟨ι, st, env, r, re, h⟩ => ?_
  refine tG_bind r re h fun d st1 ι1 H1 v e1 r1 re1 q1 h1 => ?_
  obtain rfl := q1
  cases v with
  | true => rw [if_pos rfl]; exact ⟨ι1, st1, env, r1, re1, h1⟩
  | false => rw [if_neg Bool.false_ne_true]; exact ⟨ι1, st1, env, r1, re1, h1⟩
end
/-! ### names, constants, displays, subscripts -/
section
variable {X : Cx} {W : WX} {a b : Expr} {es : List Expr} {fs : List (Env' → Sto → Out D)} {fa fb : Env' → Sto → Out D} {pos : Pos}
def ofEnv (i : Nat) (env : Env') (st : Sto) : Out D := match getS env i with
  | some d => .val d st
  | none => .bad
theorem pe_var' {i : Nat} {x : Str} (hN : X.N[i]? = some x) (hv : Vis X.env.scope x) (hd : (x == ("__debug__" : Str)) = false) (hcd : (x == ("__classdict__" : Str)) = false) : PE X (.Name x pos) (tE X.K W (ofEnv i)) := by
  refine (pe_var hN hv hd hcd).weak fun σ H Q ⟨ι, st, env, r, re, h⟩ => ?_
  unfold ofEnv at h
  split at h
  · rename_i d e
    unfold getS at e
    split at e
    · rename_i o eo
      obtain ⟨v, e2, q⟩ := re.at_ i d (by rw [eo, e])
      exact ⟨v, e2, Ev.PG.val r h q⟩
    · cases e
  · exact h.elim
theorem pe_con' {v : V} {d : D} {e : Expr} (h : PE X e (tC v)) (hd : ∀ ι H, RD X.K ι H d v) : PE X e (tE X.K W fun _ st => .val d st) := h.weak fun σ H Q ⟨ι, st, env, r, re, h⟩ => Ev.PG.val r h (hd ι H)
def mkT (ds : List D) (st : Sto) : Out D := if ds.length ≤ sizeLine then .val (.tup ds) st else .bad
def mkLs (m : Bool) (ds : List D) (st : Sto) : Out D := if ds.length ≤ sizeLine then mkL m ds st else .bad
theorem pe_tup' {k : Nat} (ha : PEs X W es fs) (hst : es.all notStar = true) : PE X (.Tuple es k pos) (tE X.K W fun env st => (evs fs env st).bind mkT) := by
  refine (pe_tup (as_ok ha hst)).weak fun σ H Q ⟨ι, st, env, r, re, h⟩ => ?_
  refine tG_bind r re h fun ds st1 ι1 H1 vs e1 r1 re1 q1 h1 => ?_
  unfold mkT at h1
  split at h1
  · rename_i hz
    exact ⟨by rw [q1.len]; exact hz, Ev.PG.tup r1 h1 q1⟩
  · exact h1.elim
theorem pe_lst' (m : Bool) (ha : PEs X W es fs) (hst : es.all notStar = true) : PE X (.List es pos) (tE X.K W fun env st => (evs fs env st).bind (mkLs m)) := by
  refine (pe_lk m (pe_lst (as_ok ha hst))).weak fun σ H Q ⟨ι, st, env, r, re, h⟩ => ?_
  refine tG_bind r re h fun ds st1 ι1 H1 vs e1 r1 re1 q1 h1 => ?_
  unfold mkLs at h1
  split at h1
  · rename_i hz
    exact ⟨by rw [q1.len]; exact hz, Ev.PG.mkL r1 h1 q1⟩
  · exact h1.elim
theorem pe_ix' (hs : plainIx b = true) (ha : PE X a (tE X.K W fa)) (hb : PE X b (tE X.K W fb)) : PE X (.Subscript a b pos) (tE X.K W fun env st => (fa env st).bind fun x st => (fb env st).bind fun y st => (dIx x y st).pure') := by
  refine (pe_ix ix_dIx ha hb (plain_ix hs)).weak fun σ H Q ⟨ι, st, env, r, re, h⟩ => ?_
  refine tG_bind r re h fun d st1 ι1 H1 v e1 r1 re1 q1 h1 => ?_
  refine tG_bind r1 re1 h1 fun d2 st2 ι2 H2 v2 e2 r2 re2 q2 h2 => ?_
  exact ⟨ι2, st2, d, d2, r2, RD.mono e2.kp _ _ q1, q2, PV.of h2⟩
/-- a part of a slice -/
abbrev tO (K : PySem.W.Frag) (W : WX) (f : Env' → Sto → Out (Option Int)) : TO := tG K (fun _ _ a b => b = a) W f
def prtO (d : D) (st : Sto) : Out (Option Int) := match d with
  | .int i => .val (some i) st
  | _ => .bad
theorem po_weak {e : Option Expr} {t t' : TO} (h : PO X e t) (i : ∀ σ H Q, t' σ H Q → t σ H Q) : PO X e t' := ⟨fun pins s σ H Q I q => h.run pins s σ H Q I (i σ H Q q)⟩
theorem po_none' : PO X none (tO X.K W fun _ st => .val none st) := po_weak po_none fun σ H Q ⟨ι, st, env, r, re, h⟩ => Ev.PG.val r h rfl
theorem po_some' (ha : PE X a (tE X.K W fa)) : PO X (some a) (tO X.K W fun env st => (fa env st).bind prtO) := by
  refine po_weak (po_some ha) fun σ H Q ⟨ι, st, env, r, re, h⟩ => ?_
  refine tG_bind r re h fun d st1 ι1 H1 v e1 r1 re1 q1 h1 => ?_
  unfold prtO at h1
  split at h1
  · exact ⟨_, q1, Ev.PG.val r1 h1 rfl⟩
  · exact h1.elim
theorem pe_sl' (m : Bool) {lo hi : Option Expr} {p2 : Pos} {fl fh : Env' → Sto → Out (Option Int)} (ha : PE X a (tE X.K W fa)) (hl : PO X lo (tO X.K W fl)) (hh : PO X hi (tO X.K W fh)) : PE X (.Subscript a (.Slice lo hi none p2) pos) (tE X.K W fun env st => (fa env st).bind fun x st => (fl env st).bind fun l st => (fh env st).bind fun u st => (dSl m x l u st).pure') := by
  refine (pe_slice (sl_dSl m) ha hl hh).weak fun σ H Q ⟨ι, st, env, r, re, h⟩ => ?_
  refine tG_bind r re h fun d st1 ι1 H1 v e1 r1 re1 q1 h1 => ?_
  refine tG_bind r1 re1 h1 fun l st2 ι2 H2 v2 e2 r2 re2 q2 h2 => ?_
  refine tG_bind r2 re2 h2 fun u st3 ι3 H3 v3 e3 r3 re3 q3 h3 => ?_
  obtain rfl := q2
  obtain rfl := q3
  exact ⟨ι3, st3, d, r3, RD.mono e3.kp _ _ (RD.mono e2.kp _ _ q1), PV.of h3⟩
/-- list(range(..)) -/
def rgD (a b : Int) : List D := (List.range (b - a).toNat).map fun i => D.int (a + (i : Nat))
theorem rgD_ok {K : PySem.W.Frag} {ι : List Addr} {H : Hp} (a b : Int) : RDs K ι H (rgD a b) (rgV a b) := by
  unfold rgD rgV
  have go : ∀ l : List Nat, RDs K ι H (l.map fun (i : Nat) => D.int (a + (i : Nat))) (l.map fun (i : Nat) => V.int (a + (i : Nat))) := by
    intro l
    induction l with
    | nil => rfl
    | cons x l ih => exact ⟨_, _, rfl, rfl, ih⟩
  exact go _
def lrg (m : Bool) (a b : Int) (st : Sto) : Out D := if -(2 ^ 62) ≤ a ∧ a < 2 ^ 62 ∧ -(2 ^ 62) ≤ b ∧ b < 2 ^ 62 ∧ (b - a).toNat ≤ 2 ^ 24 then mkL m (rgD a b) st else .bad
def lrg1 (m : Bool) (d : D) (st : Sto) : Out D := match d with
  | .int n => lrg m 0 n st
  | _ => .bad
def lrg2 (m : Bool) (d d' : D) (st : Sto) : Out D := match d, d' with
  | .int n, .int k => lrg m n k st
  | _, _ => .bad
theorem lrg_ok {m : Bool} {K : PySem.W.Frag} {ι : List Addr} {H : Hp} {st : Sto} {i j : Int} {Q : VK} {σ : St} (r : RSto K ι st H) (h : Ev.PG K (RD K) W Q σ ι H (lrg m i j st)) : RgOk i j ∧ ∀ q, H q = none → lkQ m Q (.ref q) (upd H q (.lst (rgV i j))) := by
  unfold lrg at h
  split at h
  · rename_i hz
    exact ⟨hz, Ev.PG.mkL r h (rgD_ok i j)⟩
  · exact h.elim
theorem pe_lrg1 (m : Bool) {p p' pos' : Pos} (hc : X.calm = true) (hg : Gl X "list") (hm : X.mg "list" = none) (hg' : Gl X "range") (hm' : X.mg "range" = none) (ha : PE X a (tE X.K W fa)) (na : notStar a = true) :
    PE X (.Call (.Name "list" p) [.Call (.Name "range" p') [a] [] pos'] [] pos) (tE X.K W fun env st => (fa env st).bind (lrg1 m)) := by
  refine (pe_lk m (pe_listRg hc hg hm (prg_1 hg' hm' ha (star_cons na)) rfl)).weak fun σ H Q ⟨ι, st, env, r, re, h⟩ => ?_
  refine tG_bind r re h fun d st1 ι1 H1 v e1 r1 re1 q1 h1 => ?_
  unfold lrg1 at h1
  split at h1
  · exact ⟨_, q1, lrg_ok r1 h1⟩
  · exact h1.elim
theorem pe_lrg2 (m : Bool) {p p' pos' : Pos} (hc : X.calm = true) (hg : Gl X "list") (hm : X.mg "list" = none) (hg' : Gl X "range") (hm' : X.mg "range" = none) (ha : PE X a (tE X.K W fa)) (hb : PE X b (tE X.K W fb)) (na : notStar a = true) (nb : notStar b = true) :
    PE X (.Call (.Name "list" p) [.Call (.Name "range" p') [a, b] [] pos'] [] pos) (tE X.K W fun env st => (fa env st).bind fun x st => (fb env st).bind fun y st => lrg2 m x y st) := by
  refine (pe_lk m (pe_listRg hc hg hm (prg_2 hg' hm' ha hb (star_cons na) (star_cons nb) (by rw [star_cons nb]; rfl)) rfl)).weak fun σ H Q ⟨ι, st, env, r, re, h⟩ => ?_
  refine tG_bind r re h fun d st1 ι1 H1 v e1 r1 re1 q1 h1 => ?_
  refine tG_bind r1 re1 h1 fun d2 st2 ι2 H2 v2 e2 r2 re2 q2 h2 => ?_
  unfold lrg2 at h2
  split at h2
  · exact ⟨_, _, q1, q2, lrg_ok r2 h2⟩
  · exact h2.elim
end
end L2.Ev

/-! Methods' calls, dict displays, calls of defs, defs. -/
namespace L2.Ev
open PySem PySem.Spec PyProof.Rows
/-! ### methods of lists -/
section
variable {X : Cx} {W : WX} {o : Expr} {es : List Expr} {fo : Env' → Sto → Out D} {fs : List (Env' → Sto → Out D)} {apos cpos : Pos} {name : Str} {id : String} {g : D → List D → Sto → Out D}
theorem few_ok {es : List Expr} {env : Env} {cpos : Pos} (h : es.all notStar = true) (hl : es.length < 30) : ((backTo cpos (starEach es env)).all (fun x => !x.1) && (backToKw cpos (keywordEach [] env)).all (fun x => x.1.isSome)
      && decide (es.length + ([] : List Keyword).length + (if ([] : List Keyword).isEmpty then 0 else 1) < 30)) = true := by
  have e1 : (backTo cpos (starEach es env)).all (fun x => !x.1) = true := by
    rw [List.all_eq_true]
    intro x hx
    have q := star_plain (env := env) (pos := cpos) h
    rw [List.any_eq_false] at q
    have := q x hx
    simpa using this
  rw [e1]
  have e2 : (backToKw cpos (keywordEach [] env)).all (fun x => x.1.isSome) = true := rfl
  rw [e2]
  simp
  exact hl
theorem mt_weak {r r' : V → List V → Hp → VK → Prop} (h : MtR X id r) (i : ∀ x xs H Q, r' x xs H Q → r x xs H Q) : MtR X id r' := fun pins s σ H x xs v us Q I rx rs q => h pins s σ H x xs v us Q I rx rs (i _ _ _ _ q)
/-- a list's method whose receiver is a thing of the store -/
theorem pe_mL (slot : Slot "list" name id) (hty : typeOf (.builtin id) = pure (.type "method_descriptor")) (hm : MtR X id (rmD X.K g)) (ho : PE X o (tE X.K W fo)) (ha : PEs X W es fs) (hst : es.all notStar = true) (hb : baseOk o = true) (hline : (apos.endLine == cpos.line) = true) (hn : es.length < 30) (hne : es ≠ []) :
    PE X (.Call (.Attribute o name apos) es [] cpos) (tE X.K W fun env st => (fo env st).bind fun d st => if (listOf st d).isSome = true then (evs fs env st).bind fun ds st => (g d ds st).pure' else .bad) := by
  match es, hne with
  | e :: es, _ =>
    obtain ⟨h1, h2⟩ := Bool.and_eq_true_iff.mp (show (notStar e && es.all notStar) = true from hst)
    refine (pe_bm F.plainAttrs_list slot hty hm ho (as_ok ha hst) (base_ok hb) (few_ok hst hn) hline (star_cons h1) (star_plain h2)).weak fun σ H Q ⟨ι, st, env, r, re, h⟩ => ?_
    refine tG_bind r re h fun d st1 ι1 H1 v e1 r1 re1 q1 k1 => ?_
    split at k1
    · rename_i hz
      obtain ⟨xs, ex⟩ := Option.isSome_iff_exists.mp hz
      obtain ⟨a, vs, ev, g1, g2⟩ := listOf_ok r1 ex q1
      refine ⟨by rw [ev]; exact .inl ⟨rfl, vs, g1.sq⟩, ?_⟩
      refine tG_bind r1 re1 k1 fun ds st2 ι2 H2 us e2 r2 re2 q2 k2 => ?_
      exact ⟨ι2, st2, d, ds, r2, RD.mono e2.kp _ _ q1, q2, PV.of k2⟩
    · exact k1.elim
end
/-! ### a dict that is written out -/
def keyOf : D → Option Key
  | .int i => some (.inl i)
  | .str x => some (.inr x)
  | _ => none
def putD (kvs : List (Key × D)) (k : Key) (v : D) : List (Key × D) :=
  if (kvs.any fun kv => decide (kv.1 = k)) = true then kvs.map (fun kv => if kv.1 = k then (kv.1, v) else kv) else kvs ++ [(k, v)]
theorem RKv.any {K : PySem.W.Frag} {ι : List Addr} {H : Hp} {k : Key} : ∀ {ds : List (Key × D)} {vs : List (Key × V)}, RKv K ι H ds vs → (vs.any fun kv => decide (kv.1 = k)) = (ds.any fun kv => decide (kv.1 = k))
  | [], _, h => by rw [show _ = [] from h]; rfl
  | (k', d) :: ds, vs, ⟨y, ys, h1, h2, h3⟩ => by rw [h1, List.any_cons, List.any_cons, RKv.any h3]
theorem RKv.app {K : PySem.W.Frag} {ι : List Addr} {H : Hp} : ∀ {ds es : List (Key × D)} {vs ws : List (Key × V)}, RKv K ι H ds vs → RKv K ι H es ws → RKv K ι H (ds ++ es) (vs ++ ws)
  | [], _, _, _, h, q => by rw [show _ = [] from h]; exact q
  | (k, d) :: ds, _, _, _, ⟨y, ys, h1, h2, h3⟩, q => ⟨y, ys ++ _, by rw [h1]; rfl, h2, RKv.app h3 q⟩
theorem RKv.rep {K : PySem.W.Frag} {ι : List Addr} {H : Hp} {k : Key} {d : D} {v : V} (q : RD K ι H d v) : ∀ {ds : List (Key × D)} {vs : List (Key × V)}, RKv K ι H ds vs → RKv K ι H (ds.map fun kv => if kv.1 = k then (kv.1, d) else kv) (vs.map fun kv => if kv.1 = k then (kv.1, v) else kv)
  | [], _, h => by rw [show _ = [] from h]; rfl
  | (k', d') :: ds, vs, ⟨y, ys, h1, h2, h3⟩ => by
    rw [h1, List.map_cons, List.map_cons]
    by_cases e : k' = k
    · simp only [e, if_true]
      exact ⟨v, _, rfl, q, RKv.rep q h3⟩
    · simp only [e, if_false]
      exact ⟨y, _, rfl, h2, RKv.rep q h3⟩
theorem RKv.put {K : PySem.W.Frag} {ι : List Addr} {H : Hp} {k : Key} {d : D} {v : V} {ds : List (Key × D)} {vs : List (Key × V)} (h : RKv K ι H ds vs) (q : RD K ι H d v) : RKv K ι H (putD ds k d) (putK vs k v) := by
  unfold putD putK
  rw [h.any]
  split
  · exact RKv.rep q h
  · exact RKv.app h ⟨v, [], rfl, q, rfl⟩
/-- the pairs of a display -/
def prs : List ((Env' → Sto → Out D) × (Env' → Sto → Out D)) → Env' → Sto → Out (List (Key × D))
  | [], _, st => .val [] st
  | (fk, fv) :: r, env, st => (fk env st).bind fun k st => (fv env st).bind fun v st => match keyOf k with
    | some k => (prs r env st).bind fun ps st => .val ((k, v) :: ps) st
    | none => .bad
theorem key_rel {K : PySem.W.Frag} {ι : List Addr} {H : Hp} {d : D} {k : Key} {v : V} (h : keyOf d = some k) (q : RD K ι H d v) : v = kV k := by
  cases d with
  | int i => cases h; exact q
  | str x => cases h; exact q
  | _ => cases h
def RelP (K : PySem.W.Frag) (ι : List Addr) (H : Hp) (kds : List (Key × D)) (ps : List (V × V)) : Prop := ∃ kvs : List (Key × V), ps = kvs.map (fun kv => (kV kv.1, kv.2)) ∧ RKv K ι H kds kvs
section
variable {K : PySem.W.Frag} {W : WX} {σ : St}
theorem prs_ev : ∀ {fs : List ((Env' → Sto → Out D) × (Env' → Sto → Out D))} {ι : List Addr} {H : Hp} {st : Sto} {env : Env'} {Q : List (V × V) → Hp → Prop}, RSto K ι st H → REnv K ι H env σ → Ev.PG K (RelP K) W Q σ ι H (prs fs env st) →
    tPairs (fs.map fun p => (tE K W p.1, tE K W p.2)) σ H Q
  | [], ι, H, st, env, Q, r, re, h => h ι H [] Evo.refl r ⟨[], rfl, rfl⟩
  | (fk, fv) :: fs, ι, H, st, env, Q, r, re, h => by
    show tE K W fk σ H fun x H1 => tE K W fv σ H1 fun y H2 => tPairs (fs.map fun p => (tE K W p.1, tE K W p.2)) σ H2 fun ps H3 => Q ((x, y) :: ps) H3
    refine tG_bind (Rel2 := RelP K) (Q2 := Q) r re h fun k st1 ι1 H1 x e1 r1 re1 q1 h1 => ?_
    refine tG_bind (Rel2 := RelP K) (Q2 := Q) r1 re1 h1 fun v st2 ι2 H2 y e2 r2 re2 q2 h2 => ?_
    cases ek : keyOf k with
    | none => rw [ek] at h2; exact h2.elim
    | some kk =>
      rw [ek] at h2
      refine prs_ev r2 re2 ?_
      have h3 : Ev.PG K (RelP K) W Q σ ι2 H2 ((prs fs env st2).bind fun ps st => .val ((kk, v) :: ps) st) := h2
      cases ep : prs fs env st2 with
      | bad => rw [ep] at h3; exact h3
      | exc c w st3 => rw [ep] at h3; exact h3
      | val kds st3 =>
        rw [ep] at h3
        intro ι3 H3 ps e3 r3 q3
        obtain ⟨kvs, rfl, q3⟩ := q3
        have ex := key_rel ek q1
        subst ex
        exact h3 ι3 H3 _ e3 r3 ⟨(kk, y) :: kvs, rfl, y, kvs, rfl, RD.mono e3.kp _ _ q2, q3⟩
end
section
variable {X : Cx} {W : WX}
inductive PPr (X : Cx) (W : WX) : List (Option Expr) → List Expr → List ((Env' → Sto → Out D) × (Env' → Sto → Out D)) → Prop where
  | nil : PPr X W [] [] []
  | cons {k v ks vs fk fv fs} : PE X k (tE X.K W fk) → PE X v (tE X.K W fv) → PPr X W ks vs fs → PPr X W (some k :: ks) (v :: vs) ((fk, fv) :: fs)
theorem PPr.pps {pos : Pos} : ∀ {ks : List (Option Expr)} {vs : List Expr} {fs : List ((Env' → Sto → Out D) × (Env' → Sto → Out D))}, PPr X W ks vs fs → PPs X pos ks vs (fs.map fun p => (tE X.K W p.1, tE X.K W p.2))
  | _, _, _, .nil => pps_nil
  | _, _, _, .cons h1 h2 h3 => pps_cons h1 h2 h3.pps
theorem PPr.some_ : ∀ {ks : List (Option Expr)} {vs : List Expr} {fs : List ((Env' → Sto → Out D) × (Env' → Sto → Out D))}, PPr X W ks vs fs → ks.all (·.isSome) = true ∧ ks.length = vs.length
  | _, _, _, .nil => ⟨rfl, rfl⟩
  | _, _, _, .cons h1 h2 h3 => ⟨by simpa using h3.some_.1, by simpa using h3.some_.2⟩
def mkDc (ps : List (Key × D)) (st : Sto) : Out D := if ps.length ≤ 15 then .val (.obj st.length) (st ++ [.dct (ps.foldl (fun acc kv => putD acc kv.1 kv.2) [])]) else .bad
theorem RKv.fold {K : PySem.W.Frag} {ι : List Addr} {H : Hp} : ∀ {ps : List (Key × D)} {qs : List (Key × V)} {ds : List (Key × D)} {vs : List (Key × V)}, RKv K ι H ps qs → RKv K ι H ds vs → RKv K ι H (ps.foldl (fun acc kv => putD acc kv.1 kv.2) ds) (mergeK vs qs)
  | [], qs, ds, vs, h, q => by rw [show qs = [] from h]; exact q
  | (k, d) :: ps, qs, ds, vs, ⟨y, ys, h1, h2, h3⟩, q => by
    rw [h1]
    show RKv K ι H (ps.foldl (fun acc kv => putD acc kv.1 kv.2) (putD ds k d)) (mergeK (putK vs k y) ys)
    exact RKv.fold h3 (q.put h2)
theorem pe_dict' {pos : Pos} {ks : List (Option Expr)} {vs : List Expr} {fs : List ((Env' → Sto → Out D) × (Env' → Sto → Out D))} (h : PPr X W ks vs fs) (h0 : ks ≠ []) (h15 : ks.length ≤ 15) : PE X (.Dict ks vs pos) (tE X.K W fun env st => (prs fs env st).bind mkDc) := by
  refine (pe_disp h.pps h.some_.1 h.some_.2 h0 h15).weak fun σ H Q ⟨ι, st, env, r, re, h⟩ => ?_
  intro p hp
  have eS : Evo ι H ι (upd H p (.dK [])) := Evo.side hp
  have rS := r.side (o := .dK []) hp
  have nd0 : p ∉ ι := r.fresh hp
  have h' : Ev.PG X.K (RD X.K) W Q σ ι H ((prs fs env st).bind mkDc) := h
  refine prs_ev rS (re.mono eS.kp) ?_
  cases ep : prs fs env st with
  | bad => rw [ep] at h'; exact h'
  | exc c w st1 =>
    rw [ep] at h'
    exact fun ι1 H1 dd v e1 r1 q1 q2 => h' ι1 H1 dd v (Evo.trans rS eS e1) r1 q1 q2
  | val kds st1 =>
    rw [ep] at h'
    intro ι1 H1 ps e1 r1 q1
    obtain ⟨kvs, rfl, q1⟩ := q1
    have h1 : Ev.PG X.K (RD X.K) W Q σ ι H (mkDc kds st1) := h'
    obtain ⟨nd1, hd1⟩ := e1.out nd0 (upd_same (H := H) (a := p) (o := .dK []))
    unfold mkDc at h1
    split at h1
    · rename_i hz
      refine ⟨hd1, kvs, rfl, by rw [q1.len]; exact hz, ?_⟩
      have kpo : Kp ι1 H1 ι1 (upd H1 p (.dK (mergeK [] kvs))) := Kp.off hd1 rfl
      have ro := r1.off (o := .dK (mergeK [] kvs)) nd1 hd1 rfl
      have kp2 : Kp ι1 (upd H1 p (.dK (mergeK [] kvs))) (ι1 ++ [p]) (upd H1 p (.dK (mergeK [] kvs))) := ⟨fun k b q => by
        rw [List.getElem?_append_left (List.getElem?_eq_some_iff.mp q).1]
        exact q, fun _ _ _ q => q⟩
      have r2 : RSto X.K (ι1 ++ [p]) (st1 ++ [.dct (kds.foldl (fun acc kv => putD acc kv.1 kv.2) [])]) (upd H1 p (.dK (mergeK [] kvs))) := by
        refine ⟨by simp [r1.len], List.nodup_append.mpr ⟨r1.nd, by simp, fun x hx y hy z => nd1 (by rw [List.mem_singleton] at hy; rw [z, hy] at hx; exact hx)⟩, fun k b w q1' q2 => ?_⟩
        by_cases hk : k < ι1.length
        · rw [List.getElem?_append_left hk] at q1'
          rw [List.getElem?_append_left (by rw [← r1.len]; exact hk)] at q2
          exact RO.mono kp2 (ro.at_ k b w q1' q2) rfl
        · have ek : k = ι1.length := by
            have := (List.getElem?_eq_some_iff.mp q1').1
            rw [List.length_append, List.length_singleton] at this
            omega
          subst ek
          rw [List.getElem?_append_right (Nat.le_refl _), Nat.sub_self] at q1'
          rw [r1.len, List.getElem?_append_right (Nat.le_refl _), Nat.sub_self] at q2
          cases (Option.some.inj q1')
          cases (Option.some.inj q2)
          exact ⟨_, upd_same, RKv.mono kp2 _ _ (RKv.mono kpo _ _ (RKv.fold q1 rfl))⟩
      have ev : Evo ι H (ι1 ++ [p]) (upd H1 p (.dK (mergeK [] kvs))) := by
        obtain ⟨⟨l, el, hl⟩, kp⟩ := Evo.off (o := .dK (mergeK [] kvs)) (Evo.trans rS eS e1) hp
        refine ⟨⟨l ++ [p], by rw [el, List.append_assoc], fun b hb => ?_⟩, kp⟩
        rcases List.mem_append.mp hb with z | z
        · exact hl b z
        · rw [List.mem_singleton.mp z]
          exact hp
      exact h1 (ι1 ++ [p]) _ (.ref p) ev r2 ⟨p, rfl, at_last ro p⟩
    · exact h1.elim
end
end L2.Ev

/-! Defs: what they promise, their calls, what a body leaves in the store is dropped. -/
namespace L2.Ev
open PySem PySem.Spec PyProof.Rows
mutual
/-- a value that leans on nothing of the store from n on -/
def clD (n : Nat) : D → Bool
  | .tup xs => clDs n xs
  | .ro xs => clDs n xs
  | .exc _ v => clD n v
  | .obj k => decide (k < n)
  | _ => true
def clDs (n : Nat) : List D → Bool
  | [] => true
  | d :: ds => clD n d && clDs n ds
end
def clO (n : Nat) : O → Bool
  | .lst xs => clDs n xs
  | .dct kvs => kvs.all fun p => clD n p.2
  | .ins _ fs => fs.all fun p => clD n p.2
  | .gone => true
def gcO (n : Nat) (o : Out D) : Out D := match o with
  | .val d st => if (clD n d && (st.take n).all (clO n)) = true then .val d (st.take n) else .val d st
  | .exc c d st => if (clD n d && (st.take n).all (clO n)) = true then .exc c d (st.take n) else .exc c d st
  | .bad => .bad
section
variable {K : PySem.W.Frag} {ι l : List Addr} {H : Hp}
mutual
theorem RD.clip : ∀ (d : D) (v : V), clD ι.length d = true → RD K (ι ++ l) H d v → RD K ι H d v
  | .non, _, _, h => h
  | .bl _, _, _, h => h
  | .int _, _, _, h => h
  | .str _, _, _, h => h
  | .tup xs, v, c, ⟨a, vs, h1, h2, h3⟩ => ⟨a, vs, h1, h2, RDs.clip xs vs c h3⟩
  | .exc x d, v, c, ⟨a, dd, w, h1, h2, h3, h4⟩ => ⟨a, dd, w, h1, h2, h3, RD.clip d w c h4⟩
  | .ro xs, v, c, ⟨a, vs, h1, h2, h3⟩ => ⟨a, vs, h1, h2, RDs.clip xs vs c h3⟩
  | .obj n, v, c, ⟨a, h1, h2⟩ => ⟨a, h1, by
    have hn : n < ι.length := of_decide_eq_true c
    rw [List.getElem?_append_left hn] at h2
    exact h2⟩
  | .glo _, _, _, h => h
  | .ty _, _, _, h => h
theorem RDs.clip : ∀ (ds : List D) (vs : List V), clDs ι.length ds = true → RDs K (ι ++ l) H ds vs → RDs K ι H ds vs
  | [], _, _, h => h
  | d :: ds, vs, c, ⟨y, ys, h1, h2, h3⟩ => by
    obtain ⟨c1, c2⟩ := Bool.and_eq_true_iff.mp (show (clD ι.length d && clDs ι.length ds) = true from c)
    exact ⟨y, ys, h1, RD.clip d y c1 h2, RDs.clip ds ys c2 h3⟩
end
theorem RKv.clip : ∀ (ds : List (Key × D)) (vs : List (Key × V)), (ds.all fun p => clD ι.length p.2) = true → RKv K (ι ++ l) H ds vs → RKv K ι H ds vs
  | [], _, _, h => h
  | (k, d) :: ds, vs, c, ⟨y, ys, h1, h2, h3⟩ => by
    obtain ⟨c1, c2⟩ := Bool.and_eq_true_iff.mp (show (clD ι.length d && ds.all fun p => clD ι.length p.2) = true from c)
    exact ⟨y, ys, h1, RD.clip d y c1 h2, RKv.clip ds ys c2 h3⟩
theorem RFs.clip : ∀ (ds : List (Str × D)) (vs : List (Str × V)), (ds.all fun p => clD ι.length p.2) = true → RFs K (ι ++ l) H ds vs → RFs K ι H ds vs
  | [], _, _, h => h
  | (k, d) :: ds, vs, c, ⟨y, ys, h1, h2, h3⟩ => by
    obtain ⟨c1, c2⟩ := Bool.and_eq_true_iff.mp (show (clD ι.length d && ds.all fun p => clD ι.length p.2) = true from c)
    exact ⟨y, ys, h1, RD.clip d y c1 h2, RFs.clip ds ys c2 h3⟩
theorem RO.clip {a : Addr} {o : O} (c : clO ι.length o = true) (h : RO K (ι ++ l) H a o) : RO K ι H a o := by
  cases o with
  | lst xs => obtain ⟨vs, e, q⟩ := h; exact ⟨vs, e, RDs.clip _ _ c q⟩
  | dct xs => obtain ⟨vs, e, q⟩ := h; exact ⟨vs, e, RKv.clip _ _ c q⟩
  | ins x fs => obtain ⟨dx, vs, e, q⟩ := h; exact ⟨dx, vs, e, RFs.clip _ _ c q⟩
  | gone => exact h
theorem RSto.clip {st : Sto} (r : RSto K (ι ++ l) st H) (c : (st.take ι.length).all (clO ι.length) = true) : RSto K ι (st.take ι.length) H := by
  have hl := r.len
  rw [List.length_append] at hl
  refine ⟨by rw [List.length_take]; omega, (List.nodup_append.mp r.nd).1, fun i a o e1 e2 => ?_⟩
  have hi : i < ι.length := (List.getElem?_eq_some_iff.mp e1).1
  refine RO.clip (List.all_eq_true.mp c o (List.mem_of_getElem? e2)) (r.at_ i a o (by rw [List.getElem?_append_left hi]; exact e1) ?_)
  rw [List.getElem?_take_of_lt hi] at e2
  exact e2
end
/-- a def's promise by its evaluation -/
def PGF (K : PySem.W.Frag) (Q : VK) (E : XK) (ι : List Addr) (H : Hp) : Out D → Prop
  | .val d st' => ∀ ι' H' v, Evo ι H ι' H' → RSto K ι' st' H' → RD K ι' H' d v → Q v H'
  | .exc c d st' => ∀ ι' H' dd v, Evo ι H ι' H' → RSto K ι' st' H' → H' dd = some (.xd [(("value" : Str), v)]) → RD K ι' H' d v → E (.ref (gA K c)) (some dd) H'
  | .bad => False
theorem PGF.gc {K : PySem.W.Frag} {Q : VK} {E : XK} {ι : List Addr} {H : Hp} {o : Out D} (h : PGF K Q E ι H (gcO ι.length o)) : PGF K Q E ι H o := by
  cases o with
  | bad => exact h
  | val d st =>
    unfold gcO at h
    dsimp only at h
    split at h
    · rename_i hc
      obtain ⟨c1, c2⟩ := Bool.and_eq_true_iff.mp hc
      intro ι' H' v e r q
      obtain ⟨⟨l, rfl, hl⟩, kp⟩ := e
      exact h ι H' v ⟨⟨[], by simp, by simp⟩, kp⟩ (r.clip c2) (RD.clip d v c1 q)
    · exact h
  | exc c d st =>
    unfold gcO at h
    dsimp only at h
    split at h
    · rename_i hc
      obtain ⟨c1, c2⟩ := Bool.and_eq_true_iff.mp hc
      intro ι' H' dd v e r q1 q
      obtain ⟨⟨l, rfl, hl⟩, kp⟩ := e
      exact h ι H' dd v ⟨⟨[], by simp, by simp⟩, kp⟩ (r.clip c2) q1 (RD.clip d v c1 q)
    · exact h
def spD (K : PySem.W.Frag) (n : Nat) (f : List D → Sto → Out D) : Sp := fun vs H Q E => vs.length = n ∧ ∃ ι st ds, RSto K ι st H ∧ RDs K ι H ds vs ∧ PGF K Q E ι H (f ds st)
/-- the body's end as the call's -/
def SOut.fin : SOut → Out D
  | .nx _ st => .val .non st
  | .rt d st => .val d st
  | .exc c v _ st => .exc c v st
  | _ => .bad
def env0 (n : Nat) (ds : List D) : Env' := ds.map some ++ List.replicate (n - ds.length) none
def callF (n : Nat) (fb : Env' → Sto → SOut) (ds : List D) (st : Sto) : Out D := gcO st.length (fb (env0 n ds) st).fin
theorem renv0 {K : PySem.W.Frag} {ι : List Addr} {H : Hp} {ds : List D} {vs : List V} {N : List Str} (h : RDs K ι H ds vs) : REnv K ι H (env0 N.length ds) (start N vs) := by
  have hl := h.len
  refine ⟨by unfold env0 start; rw [List.length_append, List.length_append, List.length_map, List.length_map, List.length_replicate, List.length_replicate, hl], fun i d e => ?_⟩
  unfold env0 at e
  have hi : i < ds.length := by
    by_cases hi : i < ds.length
    · exact hi
    · rw [List.getElem?_append_right (by simpa using hi), List.getElem?_replicate] at e
      split at e <;> cases e
  rw [List.getElem?_append_left (by simpa using hi), List.getElem?_map] at e
  have e2 : ds[i]? = some d := by
    cases q : ds[i]? with
    | none => rw [q] at e; cases e
    | some x => rw [q] at e; cases e; rfl
  obtain ⟨v, e3, q⟩ := h.get e2
  refine ⟨v, ?_, q⟩
  unfold start
  rw [List.getElem?_append_left (by rw [List.length_map, hl]; exact hi), List.getElem?_map, e3]
  rfl
/-! ### a call -/
section
variable {X : Cx} {k : Nat} {f : Addr} {fd : FuncData} {ps : List Str} {W : WX} {es : List Expr} {fs : List (Env' → Sto → Out D)} {φ : List D → Sto → Out D} {x : Str} {p pos : Pos}
theorem run_D {pins : List (Addr × Obj)} {σ : St} {H : Hp} {s : Shared} {Q : VK} {us : List Value} {vs : List V} {sp : Sp} (F : FnG X.prog X.w X.K X.mg X.base (L2.CX X.prog X.w) k f fd ps sp) (hr : RoomG k X.A) (hb : Binds X.K fd ps []) (tk : Takes X W)
    (I : Inv X pins σ H s) (r : Vals vs us) (h : sp vs H Q fun cls d H' => W cls d σ H') : wpAny (model X.prog X.w) X.A (call (.ref f) us) (EP X pins σ Q) X.xe s := by
  have hl : us.length = ps.length := by rw [← r.length]; exact F.len _ _ _ _ h
  have hb2 := hb s us I.kIn (by rw [List.append_nil]; exact hl)
  rw [List.append_nil] at hb2
  refine wpAny_call (codeAny_mono (F.run X.A X.stack s H ⟨us, []⟩ us vs Q _ hr I.env0 hb2 r h) fun r s' hq => ?_)
  cases r with
  | error e => exact tk e s' (XE.of_call I (fun _ _ _ z => z) hq)
  | ok fl =>
    cases fl with
    | ret u => exact I.after hq
    | next => exact False.elim hq
    | brk => exact False.elim hq
    | cont => exact False.elim hq
theorem spD_of {K : PySem.W.Frag} {n : Nat} {vs : List V} {H : Hp} {Q : VK} {σ : St} {ι : List Addr} {st : Sto} {ds : List D} (r : RSto K ι st H) (q : RDs K ι H ds vs) (h : Ev.PG K (RD K) W Q σ ι H (if ds.length = n then φ ds st else .bad)) : spD K n φ vs H Q fun cls d H' => W cls d σ H' := by
  split at h
  · rename_i hl
    refine ⟨by rw [q.len]; exact hl, ι, st, ds, r, q, ?_⟩
    cases e : φ ds st with
    | val d st1 => rw [e] at h; exact h
    | exc c d st1 => rw [e] at h; exact h
    | bad => rw [e] at h; exact h
  · exact h.elim
theorem pe_callD (F : FnG X.prog X.w X.K X.mg X.base (L2.CX X.prog X.w) k f fd ps (spD X.K ps.length φ)) (hr : RoomG k X.A) (hg : Gl X x) (hm : X.mg x = some (.ref f)) (hk : PySem.W.keepIn X.K (.ref f) = true) (hb : Binds X.K fd ps []) (tk : Takes X W)
    (ha : PEs X W es fs) (hdb : (x == ("__debug__" : Str)) = false) (hst : es.all notStar = true) : PE X (.Call (.Name x p) es [] pos) (tE X.K W fun env st => (evs fs env st).bind fun ds st => if ds.length = ps.length then φ ds st else .bad) := by
  refine ⟨fun pins s σ H Q I ⟨ι, st, env, r, re, h⟩ => ?_⟩
  refine wpAny_Call_Name_kw (ld_glob I hg hm ?_ hdb)
  have hA : (tA X.K W (evs fs)) σ H (fun vs H1 => spD X.K ps.length φ vs H1 Q fun cls d H' => W cls d σ H') := tG_bind r re h fun ds st1 ι1 H1 vs e1 r1 re1 q1 h1 => spD_of r1 q1 h1
  cases es with
  | nil =>
    cases ha
    obtain ⟨ι1, st1, env1, r1, re1, h1⟩ := hA
    exact PySem.W.callWith_K0 I.kIn hk (run_D (us := []) F hr hb tk I .nil (h1 ι1 H [] Evo.refl r1 rfl))
  | cons e es =>
    obtain ⟨h1, h2⟩ := Bool.and_eq_true_iff.mp (show (notStar e && es.all notStar) = true from hst)
    refine PySem.W.callWith_K (h₀ := X.base) I.ok.mod.kin hk (thn ((as_ok ha hst).run pos pins s σ H _ I hA) fun us s1 hh => ?_) (star_cons h1) (star_plain h2)
    obtain ⟨vs, H1, I1, r1, q⟩ := hh
    exact ⟨I1.kIn, run_D F hr hb tk I1 r1 q⟩
end
/-! ### a def -/
section
variable {P : Program} {w : World} {K : PySem.W.Frag} {mg : Str → Option Value} {base : Heap} {k : Nat} {f : Addr} {fd : FuncData} {name qual : Str} {params : Arguments} {body : List Stmt} {scope : Scope} {N ps : List Str} {fb : Env' → Sto → SOut}
theorem def_D (F : FunD K name qual params body scope [] [] f fd) (S : FnScope N ps scope)
    (hbody : ∀ (cdv : Value) (A : Around) (outer : List Env) (s : Shared) (H : Hp) (E : XK), RoomG k (A.deeper (envOfC qual scope s.heap.objs.size f cdv)) →
      PSs (cxOf (L2.CX P w) P w K mg base N qual scope f cdv A outer s H E) body (tS K (fun cls d _ H' => E cls d H') fb)) :
    FnG P w K mg base (L2.CX P w) (k + 1) f fd ps (spD K ps.length (callF N.length fb)) := by
  obtain ⟨oc, od, dV, kV, doc, pm, an, cdv, ct, osl, rfl, lk, hcd, _, _⟩ := F.ex
  refine fn_ofG lk hcd S (fun vs H Q E h => h.1) fun A outer s H vs Q E hr h => ?_
  obtain ⟨hl, ι, st, ds, r, q, h⟩ := h
  refine ⟨_, hbody cdv A outer s H E hr, ι, st, env0 N.length ds, r, renv0 q, ?_⟩
  unfold callF at h
  rw [← r.len] at h
  have h2 := PGF.gc h
  cases e : fb (env0 N.length ds) st with
  | nx env1 st1 =>
    rw [e] at h2
    exact fun ι' H' σ' e1 r1 _ => h2 ι' H' .non e1 r1 rfl
  | rt d st1 =>
    rw [e] at h2
    exact h2
  | bk env1 st1 => rw [e] at h2; exact h2.elim
  | ct env1 st1 => rw [e] at h2; exact h2.elim
  | exc c v env1 st1 =>
    rw [e] at h2
    exact fun ι' H' σ' dd w e1 r1 _ q1 q2 => h2 ι' H' dd w e1 r1 q1 q2
  | bad => rw [e] at h2; exact h2.elim
end
end L2.Ev

/-! The text as evaluations: expressions. -/
namespace L2.Ev
open PySem PySem.Spec PyProof.Rows

/-- a def of the text -/
structure Df where
  name : Str
  params : Arguments
  body : List Stmt
  scope : Scope
  N : List Str
  ps : List Str
structure Cfg where
  isE : Str → Bool
  free : Str → Bool
  cls : Str → Bool
  kit : D → D → Option Bool
  mu : Pos → Bool
  frz : Pos → Bool
  fns : Str → Option Df
structure Sc where
  N : List Str
  sc : Scope
/-- built-in functions by name -/
def bltn (c : Cfg) (m : Bool) (x : Str) : Option (List D → Sto → Out D) :=
  if x = "len" then some fLen
  else if x = "isinstance" then some (fIsi c.isE c.kit)
  else if x = "int" then some fInt
  else if x = "abs" then some fAbs
  else if x = "max" then some fMax
  else if x = "min" then some fMin
  else if x = "sum" then some fSum
  else if x = "any" then some fAny
  else if x = "all" then some fAll
  else if x = "repr" then some fRepr
  else if x = "tuple" then some fTuple
  else if x = "list" then some (fList m)
  else none
def tyName (x : Str) : Option String :=
  if x = "int" then some "int"
  else if x = "str" then some "str"
  else if x = "bool" then some "bool"
  else if x = "tuple" then some "tuple"
  else if x = "list" then some "list"
  else if x = "dict" then some "dict"
  else if x = "ValueError" then some "ValueError"
  else none
/-- methods of lists by name -/
def mthL (m : Str) : Option (D → List D → Sto → Out D) :=
  if m = "append" then some mApp
  else if m = "extend" then some mExt
  else none
def binG : Operator → Option (D → D → Sto → Out D)
  | .Add => some dAdd
  | .Sub => some dSub
  | .Mult => some dMul
  | .Mod => some dMod
  | .FloorDiv => some dFdv
  | .Pow => some dPow
  | _ => none
def cmpG : CmpOp → Option (D → D → Sto → Out D)
  | .Eq => some dEq
  | .NotEq => some dNe
  | .Lt => some dLt
  | .LtE => some dLe
  | .Gt => some dGt
  | .GtE => some dGe
  | .Is => some dIs
  | .IsNot => some dIsNot
  | .In => some (inD false)
  | .NotIn => some (inD true)
def conE : Const → Env' → Sto → Out D
  | .none, _, st => .val .non st
  | .bool b, _, st => .val (.bl b) st
  | .int i, _, st => .val (.int i) st
  | .str x, _, st => .val (.str x) st
  | _, _, _ => .bad
def noDbg (x : Str) : Bool := !(x == ("__debug__" : Str)) && (!(x == ("__classdict__" : Str)) && decide (x ≠ "__name__"))
def isGlo (s : Sc) (x : Str) : Bool := decide (s.sc.names.lookup x = some .globalImplicit) && noDbg x
def isVis (s : Sc) (x : Str) : Bool := decide (s.sc.names.lookup x = some .local ∨ s.sc.names.lookup x = some .cell ∨ s.sc.names.lookup x = some .free) && noDbg x
def badE {α : Type} : Env' → Sto → Out α := fun _ _ => .bad
def nameE (c : Cfg) (s : Sc) (x : Str) : Env' → Sto → Out D :=
  if isVis s x = true then (match s.N.idxOf? x with
    | some i => ofEnv i
    | none => badE)
  else if isGlo s x = true then
    (if c.cls x = true then fun _ st => .val (.glo x) st
    else if c.free x = true then (match tyName x with
      | some T => fun _ st => .val (.ty T) st
      | none => badE)
    else badE)
  else badE
def binE (g : D → D → Sto → Out D) (fa fb : Env' → Sto → Out D) (env : Env') (st : Sto) : Out D := (fa env st).bind fun x st => (fb env st).bind fun y st => (g x y st).pure'
def unE (g : D → Sto → Out D) (fa : Env' → Sto → Out D) (env : Env') (st : Sto) : Out D := (fa env st).bind fun x st => (g x st).pure'
def notE (fa : Env' → Sto → Out D) (env : Env') (st : Sto) : Out D := (fa env st).bind fun x st => (truO x st).bind fun k st => .val (.bl (!k)) st
def orE : List (Env' → Sto → Out D) → Env' → Sto → Out D
  | [], _, _ => .bad
  | [f], env, st => f env st
  | f :: r, env, st => (f env st).bind fun x st => (truO x st).bind fun k st => match k with
    | true => .val x st
    | false => orE r env st
def andE : List (Env' → Sto → Out D) → Env' → Sto → Out D
  | [], _, _ => .bad
  | [f], env, st => f env st
  | f :: r, env, st => (f env st).bind fun x st => (truO x st).bind fun k st => match k with
    | true => andE r env st
    | false => .val x st
def orT : List (Env' → Sto → Out Bool) → Env' → Sto → Out Bool
  | [], _, _ => .bad
  | [f], env, st => f env st
  | f :: r, env, st => (f env st).bind fun k st => match k with
    | true => .val true st
    | false => orT r env st
def andT : List (Env' → Sto → Out Bool) → Env' → Sto → Out Bool
  | [], _, _ => .bad
  | [f], env, st => f env st
  | f :: r, env, st => (f env st).bind fun k st => match k with
    | true => andT r env st
    | false => .val false st
def iteE {α : Type} (t : Env' → Sto → Out Bool) (fa fb : Env' → Sto → Out α) (env : Env') (st : Sto) : Out α := (t env st).bind fun k st => match k with
  | true => fa env st
  | false => fb env st
def cmpT (g : D → D → Sto → Out D) (fa fb : Env' → Sto → Out D) (env : Env') (st : Sto) : Out Bool := (fa env st).bind fun x st => (fb env st).bind fun y st => ((g x y st).pure').bind chkB
def callV (fs : List (Env' → Sto → Out D)) (g : List D → Sto → Out D) (env : Env') (st : Sto) : Out D := (evs fs env st).bind fun ds st => (g ds st).pure'
def callE' (fs : List (Env' → Sto → Out D)) (g : List D → Sto → Out D) (env : Env') (st : Sto) : Out D := (evs fs env st).bind g
def atN (n : Nat) (g : List D → Sto → Out D) (ds : List D) (st : Sto) : Out D := if ds.length = n then g ds st else .bad
def mthE (fo : Env' → Sto → Out D) (fs : List (Env' → Sto → Out D)) (g : D → List D → Sto → Out D) (env : Env') (st : Sto) : Out D := (fo env st).bind fun d st => if (listOf st d).isSome = true then (evs fs env st).bind fun ds st => (g d ds st).pure' else .bad
def valE (c : Cfg) (d : D) (st : Sto) : Out D := match d with
  | .exc x v => if c.isE x = true then .val v st else .bad
  | _ => .bad
def slE (m : Bool) (fa : Env' → Sto → Out D) (fl fh : Env' → Sto → Out (Option Int)) (env : Env') (st : Sto) : Out D := (fa env st).bind fun x st => (fl env st).bind fun l st => (fh env st).bind fun u st => (dSl m x l u st).pure'
def lcE (m : Bool) (fi : Env' → Sto → Out Src) (g : D → Env' → Option Env') (ft : Env' → Sto → Out Bool) (fe : Env' → Sto → Out D) (vs : List Nat) (env : Env') (st : Sto) : Out D := (fi env st).bind fun src st => (lcGo g ft fe src (wipeE env vs) (src.len st + 1) 0 [] st).bind fun ds st => mkL m ds st
def ownOf (N : List Str) (scope : Scope) : List (Str × Nat) := scope.names.filterMap fun y => match y.2 with
  | .local => (N.idxOf? y.1).map fun i => (y.1, i)
  | .cell => (N.idxOf? y.1).map fun i => (y.1, i)
  | _ => none
def noSet : Expr → Bool
  | .Set _ _ _ => false
  | _ => true
def isTup : Expr → Bool
  | .Tuple _ _ _ => true
  | _ => false
/-- targets: names, tuples of them -/
def cG (s : Sc) : Nat → Expr → Option (List Nat × (D → Env' → Option Env'))
  | 0, _ => none
  | n + 1, e => match e with
    | .Name x _ => if s.sc.names.lookup x = some .local ∨ s.sc.names.lookup x = some .cell then (s.N.idxOf? x).map fun i => ([i], tgName i) else none
    | .Tuple es _ _ => (es.foldr (fun e r => match cG s n e, r with
      | some (L, f), some (L', g) => some (L ++ L', tgCons f g)
      | _, _ => none) (some ([], tgNil))).map fun p => (p.1, tgTup es.length p.2)
    | _ => none
section
variable (c : Cfg) (Φ : Fn)
mutual
def cE : Nat → Sc → Expr → Env' → Sto → Out D
  | 0, _, _ => badE
  | n + 1, s, e => match e with
    | .Constant k _ _ => conE k
    | .Name x _ => nameE c s x
    | .BinOp a op b _ => (match binG op with
      | some g => binE g (cE n s a) (cE n s b)
      | none => badE)
    | .UnaryOp .USub a _ => unE dNeg (cE n s a)
    | .UnaryOp .Not a _ => notE (cE n s a)
    | .BoolOp .Or es _ => orE (es.map (cE n s))
    | .BoolOp .And es _ => andE (es.map (cE n s))
    | .IfExp t a b _ => iteE (cT n s t) (cE n s a) (cE n s b)
    | .Compare a [op] [b] _ => (match cmpG op, behindInMarks op b with
      | some g, false => binE g (cE n s a) (cE n s b)
      | _, _ => badE)
    | .Compare a [op, op'] [b, d] _ => (match cmpG op, cmpG op', lastMarks [op, op'] [b, d] with
      | some g, some g', false => chainE g g' (cE n s a) (cE n s b) (cE n s d)
      | _, _, _ => badE)
    | .Tuple es _ _ => if es.all notStar = true then (fun env st => (evs (es.map (cE n s)) env st).bind mkT) else badE
    | .List es p => if es.all notStar = true then (fun env st => (evs (es.map (cE n s)) env st).bind (mkLs (c.mu p))) else badE
    | .Subscript a (.Slice lo hi none _) p => slE (c.mu p) (cE n s a) (cO n s lo) (cO n s hi)
    | .Subscript a b _ => if plainIx b = true then binE dIx (cE n s a) (cE n s b) else badE
    | .Attribute a f _ => if f = "value" ∧ baseOk a = true then (fun env st => (cE n s a env st).bind (valE c)) else badE
    | .Dict ks vs _ => if ks.length ≤ 15 ∧ ks ≠ [] then (match cP n s ks vs with
      | some fs => fun env st => (prs fs env st).bind mkDc
      | none => badE) else badE
    | .ListComp elt [⟨tg, iter, ifs, 0⟩] scope p => (match cL n s elt tg iter ifs scope with
      | some (fi, g, ft, fe) => lcE (c.mu p) fi g ft fe ((ownOf s.N scope).map (·.2))
      | none => badE)
    | .Call (.Name x _) es [] p => if (isGlo s x && es.all notStar) = true then
        (if c.isE x = true then (if es.length = 1 then callE' (es.map (cE n s)) (fSay x) else badE)
        else match c.fns x with
          | some d => callE' (es.map (cE n s)) (atN d.ps.length (Φ x))
          | none => if c.free x = true then cB n s x es p else badE)
      else badE
    | .Call (.Attribute o m ap) es [] p => if (es.all notStar && (baseOk o && (ap.endLine == p.line && decide (0 < es.length ∧ es.length < 30)))) = true then (match mthL m with
        | some g => mthE (cE n s o) (es.map (cE n s)) g
        | none => badE) else badE
    | _ => badE
/-- a built-in function's call -/
def cB : Nat → Sc → Str → List Expr → Pos → Env' → Sto → Out D
  | 0, _, _, _, _ => badE
  | n + 1, s, x, es, p => match es with
    | [.Call (.Name y _) [a] [] _] => if x = "list" ∧ y = "range" ∧ isGlo s y = true ∧ c.free y = true ∧ notStar a = true then (fun env st => (cE n s a env st).bind (lrg1 (c.mu p))) else cBl n s x es p
    | [.Call (.Name y _) [a, b] [] _] => if x = "list" ∧ y = "range" ∧ isGlo s y = true ∧ c.free y = true ∧ notStar a = true ∧ notStar b = true then (fun env st => (cE n s a env st).bind fun x st => (cE n s b env st).bind fun y st => lrg2 (c.mu p) x y st) else cBl n s x es p
    | es => cBl n s x es p
def cBl : Nat → Sc → Str → List Expr → Pos → Env' → Sto → Out D
  | 0, _, _, _, _ => badE
  | n + 1, s, x, es, p => match bltn c (c.mu p) x, es with
    | some g, e :: r => callV ((e :: r).map (cE n s)) g
    | _, _ => badE
def cT : Nat → Sc → Expr → Env' → Sto → Out Bool
  | 0, _, _ => badE
  | n + 1, s, e => match e with
    | .BoolOp .Or es _ => orT (es.map (cT n s))
    | .BoolOp .And es _ => andT (es.map (cT n s))
    | .UnaryOp .Not a _ => fun env st => (cT n s a env st).bind fun b st => .val (!b) st
    | .Compare a [op] [b] _ => (match cmpG op, behindInMarks op b with
      | some g, false => cmpT g (cE n s a) (cE n s b)
      | _, _ => badE)
    | .Compare a [op, op'] [b, d] _ => (match cmpG op, cmpG op', lastMarks [op, op'] [b, d] with
      | some g, some g', false => fun env st => (chainE g g' (cE n s a) (cE n s b) (cE n s d) env st).bind chkB
      | _, _, _ => badE)
    | e => if plainT e = true then (fun env st => (cE n s e env st).bind truO) else badE
def cO : Nat → Sc → Option Expr → Env' → Sto → Out (Option Int)
  | 0, _, _ => badE
  | n + 1, s, o => match o with
    | none => fun _ st => .val none st
    | some e => fun env st => (cE n s e env st).bind prtO
/-- a dict display's pairs -/
def cP : Nat → Sc → List (Option Expr) → List Expr → Option (List ((Env' → Sto → Out D) × (Env' → Sto → Out D)))
  | 0, _, _, _ => none
  | n + 1, s, ks, vs => match ks, vs with
    | [], [] => some []
    | some k :: ks, v :: vs => (cP n s ks vs).map fun r => (cE n s k, cE n s v) :: r
    | _, _ => none
/-- what a loop walks -/
def cI : Nat → Sc → Expr → Expr → Env' → Sto → Out Src
  | 0, _, _, _ => badE
  | n + 1, s, tg, e => match e with
    | .Call (.Name x _) [a] [] _ => if (x = "range" ∧ isGlo s x = true ∧ c.free x = true ∧ notStar a = true) then (fun env st => (evs [cE n s a] env st).bind srcRng1)
        else if (x = "enumerate" ∧ isGlo s x = true ∧ c.free x = true ∧ notStar a = true ∧ isTup tg = true) then (fun env st => (evs [cE n s a] env st).bind srcEnum)
        else fun env st => (cE n s e env st).bind srcD
    | .Call (.Name x _) [a, b] [] _ => if (x = "range" ∧ isGlo s x = true ∧ c.free x = true ∧ notStar a = true ∧ notStar b = true) then (fun env st => (evs [cE n s a, cE n s b] env st).bind srcRng2)
        else if (x = "zip" ∧ isGlo s x = true ∧ c.free x = true ∧ notStar a = true ∧ notStar b = true ∧ isTup tg = true) then (fun env st => (evs [cE n s a, cE n s b] env st).bind srcZip)
        else fun env st => (cE n s e env st).bind srcD
    | e => fun env st => (cE n s e env st).bind srcD
/-- a list comprehension -/
def cL : Nat → Sc → Expr → Expr → Expr → List Expr → Scope → Option ((Env' → Sto → Out Src) × (D → Env' → Option Env') × (Env' → Sto → Out Bool) × (Env' → Sto → Out D))
  | 0, _, _, _, _, _, _ => none
  | n + 1, s, elt, tg, iter, ifs, scope => if (noSet iter && blkC s.N s.sc scope (ownOf s.N scope)) = true then (match cG ⟨s.N, scope⟩ n tg with
    | some (L, g) => if (L.all fun i => decide (i ∈ (ownOf s.N scope).map (·.2))) = true then (match ifs with
      | [] => some (cI n s tg iter, g, fun _ st => .val true st, cE n ⟨s.N, scope⟩ elt)
      | [t] => some (cI n s tg iter, g, cT n ⟨s.N, scope⟩ t, cE n ⟨s.N, scope⟩ elt)
      | _ => none) else none
    | none => none) else none
end
end
end L2.Ev

/-! The evaluations are right: expressions. -/
namespace L2.Ev
open PySem PySem.Spec PyProof.Rows

/-- what the whole text leans on -/
structure Fx (P : Program) (K : PySem.W.Frag) (mg : Str → Option Value) (c : Cfg) : Prop where
  say : ∃ S fI cc cda, SayT P K S fI cc cda ∧ ∀ x, c.isE x = true → SayC K S fI (gA K x)
  err : ∀ x, c.isE x = true → mg x = some (.ref (gA K x))
  free : ∀ x, c.free x = true → mg x = none
  cls : ∀ x, c.cls x = true → mg x = some (.ref (gA K x))
  sup : mg "super" = none
  kit : KitOk K c.kit
  sp : PySem.W.specialIn K (.builtin "object.__class__") "__get__" = some (some (.builtin "getset_descriptor.__get__"))
  tk : PySem.W.takesIn K (.builtin "object.__class__") = some true
structure Good (c : Cfg) (Φ : Fn) (k : Nat) (s : Sc) (X : Cx) (W : WX) : Prop where
  N : X.N = s.N
  nd : X.N.Nodup
  kind : X.env.scope.kind = .function
  loc : ∀ x, s.sc.names.lookup x = some .local → X.env.scope.names.lookup x = some .local
  frc : ∀ x, (s.sc.names.lookup x = some .cell ∨ s.sc.names.lookup x = some .free) → X.env.scope.names.lookup x = some .cell ∨ X.env.scope.names.lookup x = some .free
  cel : ∀ x, s.sc.names.lookup x = some .cell → X.env.scope.names.lookup x = some .cell ∧ X.fn x = true
  glo : ∀ x, s.sc.names.lookup x = some .globalImplicit → Gl X x
  calm : X.calm = true
  room : RoomG k X.A
  tk : Takes X W
  fx : Fx X.prog X.K X.mg c
  fns : ∀ x d, c.fns x = some d → ∃ fd, X.mg x = some (.ref (gA X.K x)) ∧ PySem.W.keepIn X.K (.ref (gA X.K x)) = true ∧ Binds X.K fd d.ps [] ∧ FnG X.prog X.w X.K X.mg X.base (L2.CX X.prog X.w) k (gA X.K x) fd d.ps (spD X.K d.ps.length (Φ x))
section
theorem lookup_rel {env : Env} : ∀ {names : List (Str × NameKind)} {x : Str} {k : NameKind}, k ≠ .free → names.lookup x = some k →
    (names.map fun (n, k) => if (k == NameKind.free && env.scope.kind == .function && env.kindOf n == some .cell) then (n, NameKind.cell) else (n, k)).lookup x = some k
  | [], _, _, _, h => by cases h
  | (n, k') :: r, x, k, hk, h => by
    rw [List.map_cons]
    have e : (if (k' == NameKind.free && env.scope.kind == .function && env.kindOf n == some .cell) = true then (n, NameKind.cell) else (n, k')) = (n, if (k' == NameKind.free && env.scope.kind == .function && env.kindOf n == some .cell) = true then NameKind.cell else k') := by split <;> rfl
    show List.lookup x ((if (k' == NameKind.free && env.scope.kind == .function && env.kindOf n == some .cell) = true then (n, NameKind.cell) else (n, k')) :: _) = _
    rw [e]
    rw [List.lookup_cons] at h ⊢
    cases hb : x == n with
    | true =>
      rw [hb] at h
      cases h
      have : (k' == NameKind.free) = false := by
        cases k' <;> first
          | rfl
          | exact absurd rfl hk
      simp only [this, Bool.false_and, Bool.false_eq_true, if_false]
    | false =>
      rw [hb] at h
      exact lookup_rel hk h
theorem lookup_relF {env : Env} : ∀ {names : List (Str × NameKind)} {x : Str}, names.lookup x = some .free →
    (names.map fun (n, k) => if (k == NameKind.free && env.scope.kind == .function && env.kindOf n == some .cell) then (n, NameKind.cell) else (n, k)).lookup x = some .cell ∨
    (names.map fun (n, k) => if (k == NameKind.free && env.scope.kind == .function && env.kindOf n == some .cell) then (n, NameKind.cell) else (n, k)).lookup x = some .free
  | [], _, h => by cases h
  | (n, k') :: r, x, h => by
    rw [List.map_cons]
    have e : (if (k' == NameKind.free && env.scope.kind == .function && env.kindOf n == some .cell) = true then (n, NameKind.cell) else (n, k')) = (n, if (k' == NameKind.free && env.scope.kind == .function && env.kindOf n == some .cell) = true then NameKind.cell else k') := by split <;> rfl
    show List.lookup x ((if (k' == NameKind.free && env.scope.kind == .function && env.kindOf n == some .cell) = true then (n, NameKind.cell) else (n, k')) :: _) = _ ∨ List.lookup x ((if (k' == NameKind.free && env.scope.kind == .function && env.kindOf n == some .cell) = true then (n, NameKind.cell) else (n, k')) :: _) = _
    rw [e]
    rw [List.lookup_cons] at h ⊢
    cases hb : x == n with
    | true =>
      rw [hb] at h
      cases h
      dsimp only
      split
      · exact .inl rfl
      · exact .inr rfl
    | false =>
      rw [hb] at h
      exact lookup_relF h
end
section
variable {c : Cfg} {Φ : Fn} {k : Nat} {s : Sc} {X : Cx} {W : WX}
theorem Good.blk (G : Good c Φ k s X W) {sh : Shared} {H : Hp} {scope : Scope} {C : Addr} {cl : List (Str × Addr)} {fp : List Addr} (hk : scope.kind = .function) : Good c Φ k ⟨s.N, scope⟩ (X.blk sh H scope (compEnvC scope cl C X.env) fp) Wno where
  N := G.N
  nd := G.nd
  kind := hk
  loc := fun x h => lookup_rel (fun z => nomatch z) h
  frc := fun x h => by
    rcases h with h | h
    · exact .inl (lookup_rel (fun z => nomatch z) h)
    · exact lookup_relF h
  cel := fun x h => ⟨lookup_rel (fun z => nomatch z) h, beq_iff_eq.mpr h⟩
  glo := fun x h => lookup_rel (fun z => nomatch z) h
  calm := G.calm
  room := G.room
  tk := fun u s' ⟨a, B, sI, pins, σ, H, cls, d, e, I, nb, up, sky, na, os, ag, w⟩ => w.elim
  fx := G.fx
  fns := G.fns
theorem blk_ok {N : List Str} {sc sc' scope : Scope} {own : List (Str × Nat)} (h : BlkOk N sc scope own) (hf : ∀ x, (sc.names.lookup x = some .cell ∨ sc.names.lookup x = some .free) → sc'.names.lookup x = some .cell ∨ sc'.names.lookup x = some .free) : BlkOk N sc' scope own := by
  obtain ⟨h1, h2, h3, h4, h5⟩ := h
  exact ⟨h1, h2, h3, fun y hy e => hf _ (h4 y hy e), h5⟩
theorem Good.store (G : Good c Φ k s X W) {x : Str} (h : s.sc.names.lookup x = some .local ∨ s.sc.names.lookup x = some .cell) : Loc X.env.scope x ∧ (X.fn x = true ∨ X.env.scope.names.lookup x = some .local) := by
  rcases h with h | h
  · exact ⟨.inl (G.loc x h), .inr (G.loc x h)⟩
  · exact ⟨.inr (G.cel x h).1, .inl (G.cel x h).2⟩
theorem Good.units (G : Good c Φ k s X W) : X.A.units + 66 < cLine := by have := G.room.room.un; omega
theorem Good.depth (G : Good c Φ k s X W) : X.A.depth + 1 < recursionLimit := by have := G.room.room.dp; omega
theorem dbg_of {x : Str} (h : noDbg x = true) : (x == ("__debug__" : Str)) = false ∧ (x == ("__classdict__" : Str)) = false ∧ x ≠ "__name__" := by
  obtain ⟨h1, h2⟩ := Bool.and_eq_true_iff.mp h
  obtain ⟨h2, h3⟩ := Bool.and_eq_true_iff.mp h2
  exact ⟨by simpa using h1, by simpa using h2, of_decide_eq_true h3⟩
theorem glo_of (G : Good c Φ k s X W) {x : Str} (h : isGlo s x = true) : Gl X x ∧ (x == ("__debug__" : Str)) = false ∧ x ≠ "__name__" := by
  obtain ⟨h1, h2⟩ := Bool.and_eq_true_iff.mp h
  obtain ⟨d1, d2, d3⟩ := dbg_of h2
  exact ⟨G.glo x (of_decide_eq_true h1), d1, d3⟩
theorem idx_of {N : List Str} {x : Str} {i : Nat} (h : N.idxOf? x = some i) : N[i]? = some x := by
  rw [List.idxOf?, List.findIdx?_eq_some_iff_getElem] at h
  obtain ⟨hi, h1, _⟩ := h
  rw [List.getElem?_eq_getElem hi]
  have := eq_of_beq h1
  rw [this]
theorem bin_ok (G : Good c Φ k s X W) {op : Operator} {g : D → D → Sto → Out D} (h : binG op = some g) : OpR X (binaryOp op) (r2D X.K g) := by
  cases op <;> first
    | (cases h; done)
    | (cases h; exact op_dAdd)
    | (cases h; exact op_dSub)
    | (cases h; exact op_dMul)
    | (cases h; exact op_dMod)
    | (cases h; exact op_dFdv)
    | (cases h; exact op_dPow)
theorem cmp_ok' (G : Good c Φ k s X W) {op : CmpOp} {g : D → D → Sto → Out D} (h : cmpG op = some g) : OpR X (compareOp op) (r2D X.K g) := by
  have hu := G.units
  cases op with
  | Eq => cases h; exact op_dEq (by omega)
  | NotEq => cases h; exact op_dNe (by omega)
  | Lt => cases h; exact op_dLt
  | LtE => cases h; exact op_dLe
  | Gt => cases h; exact op_dGt
  | GtE => cases h; exact op_dGe
  | Is => cases h; exact op_dIs
  | IsNot => cases h; exact op_dIsNot
  | In => cases h; exact op_inD' (by omega)
  | NotIn => cases h; exact op_notInD' (by omega)
theorem pes_map {f : Expr → Env' → Sto → Out D} (h : ∀ e, PE X e (tE X.K W (f e))) : ∀ es : List Expr, PEs X W es (es.map f)
  | [] => .nil
  | e :: es => .cons (h e) (pes_map h es)
theorem pe_orE {f : Expr → Env' → Sto → Out D} (h : ∀ e, PE X e (tE X.K W (f e))) {pos : Pos} : ∀ es : List Expr, PE X (.BoolOp .Or es pos) (tE X.K W (orE (es.map f)))
  | [] => pe_bad
  | [e] => pe_one (h e)
  | e :: b :: es => pe_or' (h e) (pe_orE h (b :: es))
theorem pe_andE {f : Expr → Env' → Sto → Out D} (h : ∀ e, PE X e (tE X.K W (f e))) {pos : Pos} : ∀ es : List Expr, PE X (.BoolOp .And es pos) (tE X.K W (andE (es.map f)))
  | [] => pe_bad
  | [e] => pe_one (h e)
  | e :: b :: es => pe_and' (h e) (pe_andE h (b :: es))
theorem pw_orT {f : Expr → Env' → Sto → Out Bool} (h : ∀ e, PT X e (tT X.K W (f e))) {pos : Pos} : ∀ (e : Expr) (es : List Expr), PW X (.BoolOp .Or (e :: es) pos) (tT X.K W (orT ((e :: es).map f)))
  | e, [] => pw_or1' (h e)
  | e, b :: es => pw_or' (h e) (pw_orT h b es)
theorem pw_andT {f : Expr → Env' → Sto → Out Bool} (h : ∀ e, PT X e (tT X.K W (f e))) {pos : Pos} : ∀ (e : Expr) (es : List Expr), PW X (.BoolOp .And (e :: es) pos) (tT X.K W (andT ((e :: es).map f)))
  | e, [] => pw_and1' (h e)
  | e, b :: es => pw_and' (h e) (pw_andT h b es)
theorem pt_orT {f : Expr → Env' → Sto → Out Bool} (h : ∀ e, PT X e (tT X.K W (f e))) {pos : Pos} (es : List Expr) : PT X (.BoolOp .Or es pos) (tT X.K W (orT (es.map f))) := by
  cases es with
  | nil => exact pt_bad
  | cons e es => exact (pw_orT h e es).pt
theorem pt_andT {f : Expr → Env' → Sto → Out Bool} (h : ∀ e, PT X e (tT X.K W (f e))) {pos : Pos} (es : List Expr) : PT X (.BoolOp .And es pos) (tT X.K W (andT (es.map f))) := by
  cases es with
  | nil => exact pt_bad
  | cons e es => exact (pw_andT h e es).pt
theorem noset_ok {e : Expr} {env : Env} (h : noSet e = true) : ∀ x, foldedSetIterable e env x = pure x := by
  intro x
  cases e <;> first
    | rfl
    | cases h
theorem con_ok {q : Const} {j : Nat} {pos : Pos} : PE X (.Constant q j pos) (tE X.K W (conE q)) := by
  cases q with
  | none => exact pe_con' (d := .non) pe_non fun _ _ => rfl
  | bool b => exact pe_con' (d := .bl b) pe_bl fun _ _ => rfl
  | int i => exact pe_con' (d := .int i) pe_int fun _ _ => rfl
  | str x => exact pe_con' (d := .str x) pe_str fun _ _ => rfl
  | _ => exact pe_bad
theorem ty_ok {x : Str} {T : String} (h : tyName x = some T) : bootBuiltins x = some (.type T) := by
  unfold tyName at h
  split at h
  · rename_i e; cases h; subst e; decide +kernel
  split at h
  · rename_i e; cases h; subst e; decide +kernel
  split at h
  · rename_i e; cases h; subst e; decide +kernel
  split at h
  · rename_i e; cases h; subst e; decide +kernel
  split at h
  · rename_i e; cases h; subst e; decide +kernel
  split at h
  · rename_i e; cases h; subst e; decide +kernel
  split at h
  · rename_i e; cases h; subst e; decide +kernel
  cases h
theorem name_ok (G : Good c Φ k s X W) {x : Str} {pos : Pos} : PE X (.Name x pos) (tE X.K W (nameE c s x)) := by
  unfold nameE
  split
  · rename_i hv
    obtain ⟨h1, h2⟩ := Bool.and_eq_true_iff.mp hv
    obtain ⟨d1, d2, d3⟩ := dbg_of h2
    have h1 := of_decide_eq_true h1
    split
    · rename_i i e
      have vis : Vis X.env.scope x := by
        rcases h1 with z | z
        · exact .inl (G.loc x z)
        · exact .inr (G.frc x z)
      exact pe_var' (by rw [G.N]; exact idx_of e) vis d1 d2
    · exact pe_bad
  split
  · rename_i hg
    obtain ⟨g1, g2, g3⟩ := glo_of G hg
    split
    · rename_i hc
      exact pe_con' (d := .glo x) (pe_glob g1 (G.fx.cls x hc) (show RelV (.ref (gA X.K x)) _ from rfl) g2) fun _ _ => rfl
    split
    · rename_i hf
      split
      · rename_i T e
        exact pe_con' (d := .ty T) (pe_bltn g1 (G.fx.free x hf) (ty_ok e) (show RelV (.ty T) _ from rfl) g3 g2) fun _ _ => rfl
      · exact pe_bad
    · exact pe_bad
  · exact pe_bad
/-- what a built-in function's name calls -/
def IsF (X : Cx) (x : Str) (g : List D → Sto → Out D) : Prop := (∃ id, bootBuiltins x = some (.builtin id) ∧ CallR X (.builtin id) (rnD X.K g)) ∨ ∃ T, bootBuiltins x = some (.type T) ∧ CallR X (.type T) (rnD X.K g)
theorem bltn_ok (G : Good c Φ k s X W) {m : Bool} {x : Str} {g : List D → Sto → Out D} (h : bltn c m x = some g) : IsF X x g := by
  have hu := G.units
  obtain ⟨S, fI, cc, cda, T, hE⟩ := G.fx.say
  unfold bltn at h
  split at h
  · rename_i e; cases h; subst e; exact .inl ⟨_, by decide +kernel, call_fLen⟩
  split at h
  · rename_i e; cases h; subst e; exact .inl ⟨"isinstance", by decide +kernel, call_fIsi G.fx.kit hE G.fx.sp G.fx.tk⟩
  split at h
  · rename_i e; cases h; subst e; exact .inr ⟨"int", by decide +kernel, call_fInt⟩
  split at h
  · rename_i e; cases h; subst e; exact .inl ⟨"abs", by decide +kernel, call_fAbs⟩
  split at h
  · rename_i e; cases h; subst e; exact .inl ⟨"max", by decide +kernel, call_fMax G.calm⟩
  split at h
  · rename_i e; cases h; subst e; exact .inl ⟨"min", by decide +kernel, call_fMin G.calm⟩
  split at h
  · rename_i e; cases h; subst e; exact .inl ⟨"sum", by decide +kernel, call_fSum G.calm⟩
  split at h
  · rename_i e; cases h; subst e; exact .inl ⟨"any", by decide +kernel, call_fAny G.calm⟩
  split at h
  · rename_i e; cases h; subst e; exact .inl ⟨"all", by decide +kernel, call_fAll G.calm⟩
  split at h
  · rename_i e; cases h; subst e; exact .inl ⟨"repr", by decide +kernel, call_fRepr G.room.g hu⟩
  split at h
  · rename_i e; cases h; subst e; exact .inr ⟨"tuple", by decide +kernel, call_fTuple⟩
  split at h
  · rename_i e; cases h; subst e; exact .inr ⟨"list", by decide +kernel, call_fList m⟩
  cases h
theorem mthL_ok {m : Str} {g : D → List D → Sto → Out D} (h : mthL m = some g) : ∃ id, Slot "list" m id ∧ typeOf (.builtin id) = pure (.type "method_descriptor") ∧ MtR X id (rmD X.K g) := by
  unfold mthL at h
  split at h
  · rename_i e; cases h; subst e; exact ⟨_, F.slot_list_append, F.type_list_append, mt_mApp⟩
  split at h
  · rename_i e; cases h; subst e; exact ⟨_, F.slot_list_extend, F.type_list_extend, mt_mExt⟩
  cases h
/-- targets -/
theorem cG_ok (G : Good c Φ k s X W) : ∀ n e L f, cG s n e = some (L, f) → L2.PG X e (tgD X.K L f) ∧ isTgt e = true
  | 0, _, _, _, h => by cases h
  | n + 1, e, L, f, h => by
    cases e with
    | Name x pos =>
      have h' : (if s.sc.names.lookup x = some .local ∨ s.sc.names.lookup x = some .cell then (s.N.idxOf? x).map fun i => ([i], tgName i) else none) = some (L, f) := h
      split at h'
      · rename_i hl
        obtain ⟨i, e1, e2⟩ := Option.map_eq_some_iff.mp h'
        cases e2
        exact ⟨tg_name G.nd (by rw [G.N]; exact idx_of e1) (G.store hl).1 (G.store hl).2, rfl⟩
      · cases h'
    | Tuple es q pos =>
      have h' : (es.foldr (fun e r => match cG s n e, r with
        | some (L, f), some (L', g) => some (L ++ L', tgCons f g)
        | _, _ => none) (some ([], tgNil))).map (fun p => (p.1, tgTup es.length p.2)) = some (L, f) := h
      obtain ⟨⟨L', g⟩, e1, e2⟩ := Option.map_eq_some_iff.mp h'
      cases e2
      have go : ∀ (es : List Expr) L' g, es.foldr (fun e r => match cG s n e, r with
        | some (L, f), some (L', g) => some (L ++ L', tgCons f g)
        | _, _ => none) (some ([], tgNil)) = some (L', g) → L2.PGs X es (tgsD X.K L' g) ∧ es.all isTgt = true := by
        intro es
        induction es with
        | nil => intro L' g h; cases h; exact ⟨tgs_nil, rfl⟩
        | cons e es ih =>
          intro L' g h
          rw [List.foldr_cons] at h
          split at h
          · rename_i L1 f1 L2' g2 h1 h2
            cases h
            obtain ⟨p1, p2⟩ := cG_ok G n e L1 f1 h1
            obtain ⟨p3, p4⟩ := ih L2' g2 h2
            exact ⟨tgs_cons p1 p3 p2, by rw [List.all_cons, p2, p4]; rfl⟩
          · cases h
      obtain ⟨p1, p2⟩ := go es L' g e1
      exact ⟨tg_tup G.calm p1 p2, rfl⟩
    | _ => cases h
end
end L2.Ev

/-! The evaluations are right: all expressions. -/
namespace L2.Ev
open PySem PySem.Spec PyProof.Rows
theorem pts_weak {X : Cx} {ifs : List Expr} {t t' : TT} (h : PTs X ifs t) (i : ∀ σ H Q, t' σ H Q → t σ H Q) : PTs X ifs t' := ⟨fun pins s σ H Q I q => h.run pins s σ H Q I (i σ H Q q)⟩
theorem pe_isF {X : Cx} {W : WX} {x : Str} {p pos : Pos} {es : List Expr} {fs : List (Env' → Sto → Out D)} {g : List D → Sto → Out D} (h : IsF X x g) (hg : Gl X x) (hm : X.mg x = none) (ha : PEs X W es fs) (hn : x ≠ "__name__") (hdb : (x == ("__debug__" : Str)) = false) (hst : es.all notStar = true) (hne : es ≠ []) :
    PE X (.Call (.Name x p) es [] pos) (tE X.K W (callV fs g)) := by
  rcases h with ⟨id, h1, h2⟩ | ⟨T, h1, h2⟩
  · exact pe_bf h2 hg hm h1 ha hn hdb hst hne
  · exact pe_bt h2 hg hm h1 ha hn hdb hst hne
theorem pe_same {X : Cx} {W : WX} {e : Expr} {f g : Env' → Sto → Out D} (h : PE X e (tE X.K W f)) (he : ∀ env st, f env st = g env st) : PE X e (tE X.K W g) := by
  have : f = g := funext fun env => funext fun st => he env st
  rw [← this]
  exact h
section
variable (c : Cfg) (Φ : Fn) (k : Nat)
structure Snd (n : Nat) : Prop where
  e : ∀ {s : Sc} {X : Cx} {W : WX}, Good c Φ k s X W → ∀ e, PE X e (tE X.K W (cE c Φ n s e))
  b : ∀ {s : Sc} {X : Cx} {W : WX}, Good c Φ k s X W → ∀ x es p q, isGlo s x = true → es.all notStar = true → c.free x = true → PE X (.Call (.Name x q) es [] p) (tE X.K W (cB c Φ n s x es p))
  l : ∀ {s : Sc} {X : Cx} {W : WX}, Good c Φ k s X W → ∀ x es p q, isGlo s x = true → es.all notStar = true → c.free x = true → PE X (.Call (.Name x q) es [] p) (tE X.K W (cBl c Φ n s x es p))
  t : ∀ {s : Sc} {X : Cx} {W : WX}, Good c Φ k s X W → ∀ e, PT X e (tT X.K W (cT c Φ n s e))
  o : ∀ {s : Sc} {X : Cx} {W : WX}, Good c Φ k s X W → ∀ o, PO X o (tO X.K W (cO c Φ n s o))
  p : ∀ {s : Sc} {X : Cx} {W : WX}, Good c Φ k s X W → ∀ ks vs fs, cP c Φ n s ks vs = some fs → PPr X W ks vs fs
  i : ∀ {s : Sc} {X : Cx} {W : WX}, Good c Φ k s X W → ∀ tg e, PI X tg e (tI X.K W (cI c Φ n s tg e))
  c : ∀ {s : Sc} {X : Cx} {W : WX}, Good c Φ k s X W → ∀ elt tg iter ifs scope fi g ft fe, cL c Φ n s elt tg iter ifs scope = some (fi, g, ft, fe) → ∃ L, BlkOk X.N X.env.scope scope (ownOf s.N scope) ∧ (∀ i ∈ L, i ∈ (ownOf s.N scope).map (·.2)) ∧ PI X tg iter (tI X.K W fi) ∧
    (∀ (sh : Shared) (H : Hp) (C : Addr) (cl : List (Str × Addr)) (fp : List Addr), L2.PG (X.blk sh H scope (compEnvC scope cl C X.env) fp) tg (tgD X.K L g)) ∧ (∀ (sh : Shared) (H : Hp) (C : Addr) (cl : List (Str × Addr)) (fp : List Addr), PTs (X.blk sh H scope (compEnvC scope cl C X.env) fp) ifs (tT X.K Wno ft)) ∧
    (∀ (sh : Shared) (H : Hp) (C : Addr) (cl : List (Str × Addr)) (fp : List Addr), PE (X.blk sh H scope (compEnvC scope cl C X.env) fp) elt (tE X.K Wno fe)) ∧ ∀ x, foldedSetIterable iter X.env x = pure x
end
section
variable {c : Cfg} {Φ : Fn} {k : Nat}
theorem snd0 : Snd c Φ k 0 where
  e := fun _ _ => pe_bad
  b := fun _ _ _ _ _ _ _ _ => pe_bad
  l := fun _ _ _ _ _ _ _ _ => pe_bad
  t := fun _ _ => pt_bad
  o := fun _ _ => ⟨fun pins s σ H Q I ⟨ι, st, env, r, re, h⟩ => h.elim⟩
  p := fun _ _ _ _ h => by cases h
  i := fun _ _ _ => pi_bad
  c := fun _ _ _ _ _ _ _ _ _ _ h => by cases h
theorem snd_e {n : Nat} (IH : Snd c Φ k n) {s : Sc} {X : Cx} {W : WX} (G : Good c Φ k s X W) : ∀ e, PE X e (tE X.K W (cE c Φ (n + 1) s e)) := by
  intro e
  have E := IH.e G
  unfold cE
  split
  · exact con_ok
  · exact name_ok G
  · split
    · rename_i g hg
      exact op_ok (bin_ok G hg) (E _) (E _)
    · exact pe_bad
  · exact un_ok un_dNeg (E _)
  · exact pe_not' (E _)
  · exact pe_orE E _
  · exact pe_andE E _
  · exact pe_if' (IH.t G _) (E _) (E _)
  · split
    · rename_i g hg hm
      exact cmp_ok (cmp_ok' G hg) (E _) (E _) hm
    · exact pe_bad
  · split
    · rename_i g g' hg hg' hm
      exact pe_chain' (cmp_ok' G hg) (cmp_ok' G hg') (E _) (E _) (E _) hm
    · exact pe_bad
  · split
    · rename_i hst
      exact pe_tup' (pes_map E _) hst
    · exact pe_bad
  · split
    · rename_i hst
      exact pe_lst' _ (pes_map E _) hst
    · exact pe_bad
  · exact pe_sl' _ (E _) (IH.o G _) (IH.o G _)
  · split
    · rename_i hp
      exact pe_ix' hp (E _) (E _)
    · exact pe_bad
  · split
    · rename_i hf
      obtain ⟨h1, h2⟩ := hf
      subst h1
      obtain ⟨S, fI, cc, cda, T, hE⟩ := G.fx.say
      exact pe_eVal hE h2 (E _)
    · exact pe_bad
  · split
    · rename_i hl
      split
      · rename_i fs hfs
        exact pe_dict' (IH.p G _ _ fs hfs) hl.2 hl.1
      · exact pe_bad
    · exact pe_bad
  · split
    · rename_i fi g ft fe hc
      obtain ⟨L, h1, h2, h3, h4, h5, h6, h7⟩ := IH.c G _ _ _ _ _ fi g ft fe hc
      exact pe_lc' _ G.calm G.nd h3 h1 h2 h4 h5 h6 h7
    · exact pe_bad
  · split
    · rename_i hgs
      obtain ⟨hg, hst⟩ := Bool.and_eq_true_iff.mp hgs
      obtain ⟨g1, g2, g3⟩ := glo_of G hg
      split
      · rename_i hE
        split
        · rename_i hl
          obtain ⟨S, fI, cc, cda, T, hC⟩ := G.fx.say
          exact pe_err T (hC _ hE) G.fx.sup G.depth g1 (G.fx.err _ hE) (pes_map E _) g2 hst hl
        · exact pe_bad
      · split
        · rename_i d hd
          obtain ⟨fd, m1, m2, m3, m4⟩ := G.fns _ d hd
          exact pe_callD m4 G.room g1 m1 m2 m3 G.tk (pes_map E _) g2 hst
        · split
          · rename_i hf
            exact IH.b G _ _ _ _ hg hst hf
          · exact pe_bad
    · exact pe_bad
  · split
    · rename_i hh
      obtain ⟨hst, hh⟩ := Bool.and_eq_true_iff.mp hh
      obtain ⟨hb, hh⟩ := Bool.and_eq_true_iff.mp hh
      obtain ⟨hl, hn⟩ := Bool.and_eq_true_iff.mp hh
      obtain ⟨hn1, hn2⟩ := of_decide_eq_true hn
      split
      · rename_i g hm
        obtain ⟨id, m1, m2, m3⟩ := mthL_ok (X := X) hm
        exact pe_mL m1 m2 m3 (E _) (pes_map E _) hst hb hl hn2 (fun z => by rw [z] at hn1; exact absurd hn1 (Nat.lt_irrefl 0))
      · exact pe_bad
    · exact pe_bad
  · exact pe_bad
theorem snd_l {n : Nat} (IH : Snd c Φ k n) {s : Sc} {X : Cx} {W : WX} (G : Good c Φ k s X W) : ∀ x es p q, isGlo s x = true → es.all notStar = true → c.free x = true → PE X (.Call (.Name x q) es [] p) (tE X.K W (cBl c Φ (n + 1) s x es p)) := by
  intro x es p q hg hst hf
  obtain ⟨g1, g2, g3⟩ := glo_of G hg
  unfold cBl
  split
  · rename_i g e r hb
    exact pe_isF (bltn_ok G hb) g1 (G.fx.free x hf) (pes_map (IH.e G) _) g3 g2 hst (List.cons_ne_nil _ _)
  · exact pe_bad
theorem snd_b {n : Nat} (IH : Snd c Φ k n) {s : Sc} {X : Cx} {W : WX} (G : Good c Φ k s X W) : ∀ x es p q, isGlo s x = true → es.all notStar = true → c.free x = true → PE X (.Call (.Name x q) es [] p) (tE X.K W (cB c Φ (n + 1) s x es p)) := by
  intro x es p q hg hst hf
  unfold cB
  split
  · split
    · rename_i hh
      obtain ⟨h1, h2, h3, h4, h5⟩ := hh
      subst h1 h2
      obtain ⟨g1, g2, g3⟩ := glo_of G hg
      obtain ⟨g1', g2', g3'⟩ := glo_of G h3
      exact pe_lrg1 _ G.calm g1 (G.fx.free _ hf) g1' (G.fx.free _ h4) (IH.e G _) h5
    · exact IH.l G _ _ _ _ hg hst hf
  · split
    · rename_i hh
      obtain ⟨h1, h2, h3, h4, h5, h6⟩ := hh
      subst h1 h2
      obtain ⟨g1, g2, g3⟩ := glo_of G hg
      obtain ⟨g1', g2', g3'⟩ := glo_of G h3
      exact pe_lrg2 _ G.calm g1 (G.fx.free _ hf) g1' (G.fx.free _ h4) (IH.e G _) (IH.e G _) h5 h6
    · exact IH.l G _ _ _ _ hg hst hf
  · exact IH.l G _ _ _ _ hg hst hf
theorem snd_t {n : Nat} (IH : Snd c Φ k n) {s : Sc} {X : Cx} {W : WX} (G : Good c Φ k s X W) : ∀ e, PT X e (tT X.K W (cT c Φ (n + 1) s e)) := by
  intro e
  unfold cT
  split
  · exact pt_orT (IH.t G) _
  · exact pt_andT (IH.t G) _
  · exact pt_not' (IH.t G _)
  · split
    · rename_i g hg hm
      exact pt_cmp' (cmp_ok' G hg) (IH.e G _) (IH.e G _) hm
    · exact pt_bad
  · split
    · rename_i g g' hg hg' hm
      exact pt_chain' (cmp_ok' G hg) (cmp_ok' G hg') (IH.e G _) (IH.e G _) (IH.e G _) hm
    · exact pt_bad
  · split
    · rename_i hp
      exact pt_tru hp (IH.e G _)
    · exact pt_bad
theorem snd_i {n : Nat} (IH : Snd c Φ k n) {s : Sc} {X : Cx} {W : WX} (G : Good c Φ k s X W) : ∀ tg e, PI X tg e (tI X.K W (cI c Φ (n + 1) s tg e)) := by
  intro tg e
  unfold cI
  split
  · split
    · rename_i hh
      obtain ⟨h1, h2, h3, h4⟩ := hh
      subst h1
      exact pi_rng1 (glo_of G h2).1 (G.fx.free _ h3) (.cons (IH.e G _) .nil) h4
    · split
      · rename_i hh
        obtain ⟨h1, h2, h3, h4, h5⟩ := hh
        subst h1
        cases tg <;> first
          | exact pi_enumD (glo_of G h2).1 (G.fx.free _ h3) (.cons (IH.e G _) .nil) h4
          | cases h5
      · exact pi_srcD (IH.e G _)
  · split
    · rename_i hh
      obtain ⟨h1, h2, h3, h4, h5⟩ := hh
      subst h1
      exact pi_rng2 (glo_of G h2).1 (G.fx.free _ h3) (.cons (IH.e G _) (.cons (IH.e G _) .nil)) h4 h5
    · split
      · rename_i hh
        obtain ⟨h1, h2, h3, h4, h5, h6⟩ := hh
        subst h1
        cases tg <;> first
          | exact pi_zipD (glo_of G h2).1 (G.fx.free _ h3) (.cons (IH.e G _) (.cons (IH.e G _) .nil)) h4 h5
          | cases h6
      · exact pi_srcD (IH.e G _)
  · exact pi_srcD (IH.e G _)
theorem snd_c {n : Nat} (IH : Snd c Φ k n) {s : Sc} {X : Cx} {W : WX} (G : Good c Φ k s X W) : ∀ elt tg iter ifs scope fi g ft fe, cL c Φ (n + 1) s elt tg iter ifs scope = some (fi, g, ft, fe) → ∃ L, BlkOk X.N X.env.scope scope (ownOf s.N scope) ∧ (∀ i ∈ L, i ∈ (ownOf s.N scope).map (·.2)) ∧ PI X tg iter (tI X.K W fi) ∧
    (∀ (sh : Shared) (H : Hp) (C : Addr) (cl : List (Str × Addr)) (fp : List Addr), L2.PG (X.blk sh H scope (compEnvC scope cl C X.env) fp) tg (tgD X.K L g)) ∧ (∀ (sh : Shared) (H : Hp) (C : Addr) (cl : List (Str × Addr)) (fp : List Addr), PTs (X.blk sh H scope (compEnvC scope cl C X.env) fp) ifs (tT X.K Wno ft)) ∧
    (∀ (sh : Shared) (H : Hp) (C : Addr) (cl : List (Str × Addr)) (fp : List Addr), PE (X.blk sh H scope (compEnvC scope cl C X.env) fp) elt (tE X.K Wno fe)) ∧ ∀ x, foldedSetIterable iter X.env x = pure x := by
  intro elt tg iter ifs scope fi g ft fe h
  unfold cL at h
  split at h
  · rename_i hh
    obtain ⟨hs, hb⟩ := Bool.and_eq_true_iff.mp hh
    have B := blkOk_by hb
    split at h
    · rename_i L g' hcg
      split at h
      · rename_i hL
        have hL' : ∀ i ∈ L, i ∈ (ownOf s.N scope).map (·.2) := fun i hi => of_decide_eq_true (List.all_eq_true.mp hL i hi)
        have GB : ∀ (sh : Shared) (H : Hp) (C : Addr) (cl : List (Str × Addr)) (fp : List Addr), Good c Φ k ⟨s.N, scope⟩ (X.blk sh H scope (compEnvC scope cl C X.env) fp) Wno := fun _ _ _ _ _ => G.blk B.kind
        have BB : BlkOk X.N X.env.scope scope (ownOf s.N scope) := by rw [G.N]; exact blk_ok B G.frc
        split at h
        · cases h
          exact ⟨L, BB, hL', IH.i G _ _, fun sh H C cl fp => (cG_ok (GB sh H C cl fp) n tg L g hcg).1, fun sh H C cl fp => pts_weak pts_nil fun σ H Q ⟨ι, st, env, r, re, h⟩ => h ι H true Evo.refl r rfl, fun sh H C cl fp => IH.e (GB sh H C cl fp) _, noset_ok hs⟩
        · cases h
          exact ⟨L, BB, hL', IH.i G _ _, fun sh H C cl fp => (cG_ok (GB sh H C cl fp) n tg L g hcg).1, fun sh H C cl fp => pts_one (IH.t (GB sh H C cl fp) _), fun sh H C cl fp => IH.e (GB sh H C cl fp) _, noset_ok hs⟩
        · cases h
      · cases h
    · cases h
  · cases h
theorem snd : ∀ n, Snd c Φ k n
  | 0 => snd0
  | n + 1 => by
    have IH := snd n
    exact {
      e := fun G => snd_e IH G
      b := fun G => snd_b IH G
      l := fun G => snd_l IH G
      t := fun G => snd_t IH G
      o := fun G o => by
        unfold cO
        split
        · exact po_none'
        · exact po_some' (IH.e G _)
      p := fun G ks vs fs h => by
        unfold cP at h
        split at h
        · cases h; exact .nil
        · obtain ⟨r, h1, rfl⟩ := Option.map_eq_some_iff.mp h
          exact .cons (IH.e G _) (IH.e G _) (IH.p G _ _ r h1)
        · cases h
      i := fun G => snd_i IH G
      c := fun G => snd_c IH G }
end
end L2.Ev

/-! Statements of the text as evaluations, right; the defs, level by level. -/
namespace L2.Ev
open PySem PySem.Spec PyProof.Rows
/-! ### a list that is given back is locked -/
def frzD (d : D) (st : Sto) : Out D := match d with
  | .obj n => (match st[n]? with
    | some (.lst xs) => .val (.ro xs) (st.set n .gone)
    | _ => .val d st)
  | d => .val d st
theorem pe_frz {X : Cx} {W : WX} {e : Expr} {f : Env' → Sto → Out D} (h : PE X e (tE X.K W f)) : PE X e (tE X.K W fun env st => (f env st).bind frzD) := by
  refine ⟨fun pins s σ H Q I ⟨ι, st, env, r, re, hh⟩ => ?_⟩
  have hh : Ev.PG X.K (RD X.K) W Q σ ι H ((f env st).bind frzD) := hh
  cases ef : f env st with
  | bad => rw [ef] at hh; exact hh.elim
  | exc c v st1 =>
    rw [ef] at hh
    exact h.run pins s σ H Q I ⟨ι, st, env, r, re, by rw [ef]; exact hh⟩
  | val d st1 =>
    rw [ef] at hh
    have h2 : Ev.PG X.K (RD X.K) W Q σ ι H (frzD d st1) := hh
    have plain : Ev.PG X.K (RD X.K) W Q σ ι H (.val d st1) → wpAny (model X.prog X.w) X.A (eval e X.env) (EP X pins σ Q) X.xe s := fun h3 => h.run pins s σ H Q I ⟨ι, st, env, r, re, by rw [ef]; exact h3⟩
    unfold frzD at h2
    split at h2
    · rename_i n
      split at h2
      · rename_i xs es
        refine (pe_lock h).run pins s σ H Q I ⟨ι, st, env, r, re, ?_⟩
        rw [ef]
        intro ι1 H1 v e1 r1 q1
        obtain ⟨a, vs, rfl, g1, g2, g3⟩ := obj_lst r1 es q1
        refine ⟨a, vs, rfl, g2, fun od => ?_⟩
        have ev : Evo ι1 H1 ι1 (upd H1 a (.frz od (.lst vs))) := Evo.write (List.mem_of_getElem? g1) g2 rfl
        exact h2 ι1 _ (.ref a) (Evo.trans r1 e1 ev) (r1.write g1 g2 rfl ⟨_, upd_same, rfl⟩) ⟨a, vs, rfl, .inl ⟨od, upd_same⟩, RDs.mono ev.kp _ _ g3⟩
      · exact plain h2
    · exact plain h2
/-! ### op= -/
def iopG : Operator → Option (D → D → Sto → Out D)
  | .Add => some fun a b st => match a, b with
    | .int i, .int j => .val (.int (i + j)) st
    | .str x, .str y => if x.length + y.length ≤ sizeLine then .val (.str (x ++ y)) st else .bad
    | _, _ => .bad
  | .Sub => some fun a b st => match a, b with
    | .int i, .int j => .val (.int (i - j)) st
    | _, _ => .bad
  | _ => none
theorem iop_ok {X : Cx} {op : Operator} {g : D → D → Sto → Out D} (h : iopG op = some g) : OpR X (inplaceOp op) (r2D X.K g) := by
  cases op <;> first
    | (cases h; done)
    | skip
  · cases h
    intro pins s σ H x y v u Q I rx ry ⟨ι, st, a, b, r, ra, rb, h⟩
    dsimp only at h
    split at h
    · obtain rfl := ra
      obtain rfl := rb
      exact iop_add pins s σ H _ _ v u Q I rx ry ⟨_, _, rfl, rfl, PV.val r h rfl⟩
    · obtain rfl := ra
      obtain rfl := rb
      split at h
      · rename_i hz
        exact iop_add_str pins s σ H _ _ v u Q I rx ry ⟨_, _, rfl, rfl, hz, PV.val r h rfl⟩
      · exact h.elim
    · exact h.elim
  · cases h
    intro pins s σ H x y v u Q I rx ry ⟨ι, st, a, b, r, ra, rb, h⟩
    dsimp only at h
    split at h
    · obtain rfl := ra
      obtain rfl := rb
      exact iop_sub pins s σ H _ _ v u Q I rx ry ⟨_, _, rfl, rfl, PV.val r h rfl⟩
    · exact h.elim
/-! ### statements -/
def badS : Env' → Sto → SOut := fun _ _ => .bad
def exprS (f : Env' → Sto → Out D) (env : Env') (st : Sto) : SOut := (f env st).toS env fun _ st => .nx env st
def retS (f : Env' → Sto → Out D) (env : Env') (st : Sto) : SOut := (f env st).toS env fun d st => .rt d st
def ifS (t : Env' → Sto → Out Bool) (f g : Env' → Sto → SOut) (env : Env') (st : Sto) : SOut := (t env st).toS env fun k st => match k with
  | true => f env st
  | false => g env st
def setS (i : Nat) (f : Env' → Sto → Out D) (env : Env') (st : Sto) : SOut := (f env st).toS env fun d st => .nx (env.set i (some d)) st
def setIxS (fe fo fi : Env' → Sto → Out D) (env : Env') (st : Sto) : SOut := (fe env st).toS env fun v st => (fo env st).toS env fun d st => (fi env st).toS env fun k st => match dSet d k v st with
  | some st => .nx env st
  | none => .bad
def setTgS (g : D → Env' → Option Env') (f : Env' → Sto → Out D) (env : Env') (st : Sto) : SOut := (f env st).toS env fun d st => match g d env with
  | some env => .nx env st
  | none => .bad
def augS (i : Nat) (g : D → D → Sto → Out D) (fe : Env' → Sto → Out D) (env : Env') (st : Sto) : SOut := match getS env i with
  | some a => (fe env st).toS env fun b st => ((g a b st).pure').toS env fun d st => .nx (env.set i (some d)) st
  | none => .bad
def forS (fi : Env' → Sto → Out Src) (b : D → Env' → Sto → SOut) (env : Env') (st : Sto) : SOut := (fi env st).toS env fun src st => forGo b src (src.len st + 1) 0 env st
def raiseS (c : Str) (fs : List (Env' → Sto → Out D)) (env : Env') (st : Sto) : SOut := (evs fs env st).toS env fun ds st => match ds with
  | [v] => .exc c v env st
  | _ => .bad
def whlFuel : Nat := 18446744073709551616
theorem ps_setTg {X : Cx} {W : WX} {L : List Nat} {g : D → Env' → Option Env'} {tg e : Expr} {fe : Env' → Sto → Out D} {pos : Pos} (he : PE X e (tE X.K W fe)) (hg : L2.PG X tg (tgD X.K L g)) (hs : swapsWithSole [tg] e pos.line X.env = pure false) (hw : swappedStores [tg] e X.env = pure none) (h1 : (assignEach [tg] X.env).map (·.2) = [assign tg X.env]) :
    PS X (.Assign [tg] e pos) (tS X.K W (setTgS g fe)) := by
  refine (ps_asg he hg hs hw h1).weak fun D σ H ⟨ι, st, env, r, re, h⟩ => ?_
  refine tS_bind r re h fun d st1 ι1 H1 v e1 r1 re1 q1 h2 => ?_
  split at h2
  · rename_i env2 eg
    exact ⟨ι1, env, d, env2, re1, q1, eg, fun σ' re' _ => h2 ι1 H1 σ' Evo.refl r1 re'⟩
  · exact h2.elim
theorem sws {t e : Expr} {l : Nat} {env : Env} (h : noComp e = true) : swapsWithSole [t] e l env = pure false := sw_no (o := some t) h
theorem sw_cell {elt : Expr} {gs : List Comprehension} {scope : Scope} {pos py : Pos} {y : Str} {l : Nat} {env : Env} (hy : env.scope.names.lookup y = some .cell) : swapsWith (.ListComp elt gs scope pos) (some (.Name y py)) l env = pure false := by
  have ky : env.kindOf y = some .cell := hy
  have e1 : (NameKind.cell == NameKind.local) = false := rfl
  unfold swapsWith
  simp only [ky]
  show pure ((env.blockKind == ScopeKind.function) && (NameKind.cell == NameKind.local) && (py.line == (Expr.ListComp elt gs scope pos).pos.line) && _) = _
  rw [e1, Bool.and_false, Bool.false_and, Bool.false_and]
theorem swst_sub {o i : Expr} {p : Pos} {e : Expr} {env : Env} : swappedStores [.Subscript o i p] e env = pure none := by
  cases e <;> rfl
theorem swst_tup {es : List Expr} {k : Nat} {p : Pos} {e : Expr} {env : Env} (h : isTup e = false) : swappedStores [.Tuple es k p] e env = pure none := by
  cases e <;> first
    | rfl
    | cases h
section
variable (c : Cfg) (Φ : Fn)
mutual
def cS : Nat → Sc → Stmt → Env' → Sto → SOut
  | 0, _, _ => badS
  | n + 1, s, t => match t with
    | .Pass _ => fun env st => .nx env st
    | .Break _ => fun env st => .bk env st
    | .Continue _ => fun env st => .ct env st
    | .Expr e _ => if noComp e = true then exprS (cE c Φ n s e) else badS
    | .Return none _ => fun env st => .rt .non st
    | .Return (some e) p => if c.frz p = true then retS (fun env st => (cE c Φ n s e env st).bind frzD) else retS (cE c Φ n s e)
    | .If t a b _ => ifS (cT c Φ n s t) (cSs n s a) (cSs n s b)
    | .Assign [.Name x py] (.ListComp elt [⟨tg, iter, ifs, 0⟩] scope p) _ => if s.sc.names.lookup x = some .local ∧ (py.line == p.line) = true ∧ (scope.names.any fun (n, k) => n == x && (k == .local || k == .cell)) = false then (match s.N.idxOf? x, cL c Φ n s elt tg iter ifs scope with
      | some i, some (fi, g, ft, fe) => setS i (lcE (c.mu p) fi g ft fe ((ownOf s.N scope).map (·.2)))
      | _, _ => badS) else if s.sc.names.lookup x = some .cell then (match s.N.idxOf? x, cL c Φ n s elt tg iter ifs scope with
      | some i, some (fi, g, ft, fe) => setS i (lcE (c.mu p) fi g ft fe ((ownOf s.N scope).map (·.2)))
      | _, _ => badS) else badS
    | .Assign [.Name x _] e _ => if (s.sc.names.lookup x = some .local ∨ s.sc.names.lookup x = some .cell) ∧ noComp e = true then (match s.N.idxOf? x with
      | some i => setS i (cE c Φ n s e)
      | none => badS) else badS
    | .Assign [.Subscript o i _] e _ => if noComp e = true ∧ plainIx i = true then setIxS (cE c Φ n s e) (cE c Φ n s o) (cE c Φ n s i) else badS
    | .Assign [.Tuple es k p] e _ => if noComp e = true ∧ isTup e = false then (match cG s n (.Tuple es k p) with
      | some (_, g) => setTgS g (cE c Φ n s e)
      | none => badS) else badS
    | .AugAssign (.Name x _) op e _ => if s.sc.names.lookup x = some .local ∨ s.sc.names.lookup x = some .cell then (match s.N.idxOf? x, iopG op with
      | some i, some g => augS i g (cE c Φ n s e)
      | _, _ => badS) else badS
    | .For tg iter body [] _ => if noSet iter = true then (match cG s n tg with
      | some (_, g) => forS (cI c Φ n s tg iter) (asgB g (cSs n s body))
      | none => badS) else badS
    | .While t body [] _ => fun env st => whlGo (cT c Φ n s t) (cSs n s body) whlFuel env st
    | .Raise (some (.Call (.Name x _) es [] _)) none _ => if (isGlo s x && (c.isE x && (es.all notStar && decide (es.length = 1)))) = true then raiseS x (es.map (cE c Φ n s)) else badS
    | _ => badS
def cSs : Nat → Sc → List Stmt → Env' → Sto → SOut
  | 0, _, _ => badS
  | n + 1, s, ts => match ts with
    | [] => fun env st => .nx env st
    | t :: ts => seqS (cS n s t) (cSs n s ts)
end
end
section
variable {c : Cfg} {Φ : Fn} {k : Nat} {s : Sc} {X : Cx} {W : WX}
theorem pss_bad {ts : List Stmt} : PSs X ts (tS X.K W badS) := ⟨fun pins s σ H D I ⟨ι, st, env, r, re, h⟩ => h.elim⟩
mutual
theorem cS_ok (G : Good c Φ k s X W) (hp : PassesOwn (model X.prog X.w) X.A X.env X.xe) : ∀ n t, PS X t (tS X.K W (cS c Φ n s t))
  | 0, _ => ps_bad
  | n + 1, t => by
    have E : ∀ e, PE X e (tE X.K W (cE c Φ n s e)) := (snd n).e G
    unfold cS
    split
    · exact ps_pass'
    · exact ps_break'
    · exact ps_cont'
    · split
      · rename_i hn
        exact ps_expr' hn (E _)
      · exact ps_bad
    · exact ps_retN'
    · split
      · exact ps_ret' (pe_frz (E _))
      · exact ps_ret' (E _)
    · exact ps_if' ((snd n).t G _) (cSs_ok G hp n _) (cSs_ok G hp n _)
    · split
      · rename_i hh
        obtain ⟨h1, h2, h3⟩ := hh
        split
        · rename_i i fi g ft fe hi hc
          obtain ⟨L, g1, g2, g3, g4, g5, g6, g7⟩ := (snd n).c G _ _ _ _ _ fi g ft fe hc
          exact ps_setLc' _ G.calm G.nd (by rw [G.N]; exact idx_of hi) (G.loc _ h1) (sw_true G.kind (G.loc _ h1) h2 h3) g3 g1 g2 g4 g5 g6 g7
        · exact ps_bad
      · split
        · rename_i h1
          split
          · rename_i i fi g ft fe hi hc
            obtain ⟨L, g1, g2, g3, g4, g5, g6, g7⟩ := (snd n).c G _ _ _ _ _ fi g ft fe hc
            exact ps_set' G.nd (by rw [G.N]; exact idx_of hi) (G.store (.inr h1)).1 (G.store (.inr h1)).2 (sw_cell (G.cel _ h1).1) (pe_lc' _ G.calm G.nd g3 g1 g2 g4 g5 g6 g7)
          · exact ps_bad
        · exact ps_bad
    · split
      · rename_i hh
        obtain ⟨h1, h2⟩ := hh
        split
        · rename_i i hi
          exact ps_set' G.nd (by rw [G.N]; exact idx_of hi) (G.store h1).1 (G.store h1).2 (sw_no h2) (E _)
        · exact ps_bad
      · exact ps_bad
    · split
      · rename_i hh
        obtain ⟨h1, h2⟩ := hh
        exact ps_setIx h1 h2 (sws h1) swst_sub (E _) (E _) (E _)
      · exact ps_bad
    · split
      · rename_i hh
        obtain ⟨h1, h2⟩ := hh
        split
        · rename_i L g hg
          exact ps_setTg (E _) (cG_ok G n _ L g hg).1 (sws h1) (swst_tup h2) (asg_cons rfl)
        · exact ps_bad
      · exact ps_bad
    · split
      · rename_i h1
        split
        · rename_i i g hi hg
          exact ps_aug' G.nd (by rw [G.N]; exact idx_of hi) (G.store h1).1 (G.store h1).2 (iop_ok hg) (E _)
        · exact ps_bad
      · exact ps_bad
    · split
      · rename_i hs
        split
        · rename_i L g hg
          exact ps_for' hp G.calm ((snd n).i G _ _) (cG_ok G n _ L g hg).1 (cSs_ok G hp n _) (noset_ok hs)
        · exact ps_bad
      · exact ps_bad
    · exact ps_whl' whlFuel hp ((snd n).t G _) (cSs_ok G hp n _)
    · split
      · rename_i hh
        obtain ⟨h1, hh⟩ := Bool.and_eq_true_iff.mp hh
        obtain ⟨h2, hh⟩ := Bool.and_eq_true_iff.mp hh
        obtain ⟨h3, h4⟩ := Bool.and_eq_true_iff.mp hh
        obtain ⟨g1, g2, g3⟩ := glo_of G h1
        obtain ⟨S, fI, cc, cda, T, hC⟩ := G.fx.say
        exact ps_raise' G.calm G.tk T (hC _ h2) G.fx.sup G.depth g1 (G.fx.err _ h2) (pes_map E _) g2 h3 (of_decide_eq_true h4)
      · exact ps_bad
    · exact ps_bad
theorem cSs_ok (G : Good c Φ k s X W) (hp : PassesOwn (model X.prog X.w) X.A X.env X.xe) : ∀ n ts, PSs X ts (tS X.K W (cSs c Φ n s ts))
  | 0, _ => pss_bad
  | n + 1, ts => by
    unfold cSs
    split
    · exact pss_nil'
    · exact pss_cons' (cS_ok G hp n _) (cSs_ok G hp n _)
end
end
/-! ### the defs -/
section
variable (c : Cfg) (n : Nat)
def Φs : Nat → Fn
  | 0 => fun _ _ _ => .bad
  | k + 1 => fun f ds st => match c.fns f with
    | some d => callF d.N.length (cSs c (Φs k) n ⟨d.N, d.scope⟩ d.body) ds st
    | none => .bad
/-- what the text's defs stand at -/
def DfOk (K : PySem.W.Frag) (mg : Str → Option Value) : Prop := ∀ x d, c.fns x = some d → ∃ fd, mg x = some (.ref (gA K x)) ∧ FunD K d.name d.name d.params d.body d.scope [] [] (gA K x) fd ∧ FnScope d.N d.ps d.scope ∧ Binds K fd d.ps []
end
theorem defs_ok {c : Cfg} {n : Nat} {P : Program} {w : World} {K : PySem.W.Frag} {mg : Str → Option Value} {base : Heap} (fx : Fx P K mg c) (hd : DfOk c K mg) : ∀ k x d, c.fns x = some d → ∃ fd, mg x = some (.ref (gA K x)) ∧ PySem.W.keepIn K (.ref (gA K x)) = true ∧ Binds K fd d.ps [] ∧ FnG P w K mg base (L2.CX P w) k (gA K x) fd d.ps (spD K d.ps.length (Φs c n k x)) ∧ FunD K d.name d.name d.params d.body d.scope [] [] (gA K x) fd
  | 0, x, d, h => by
    obtain ⟨fd, m1, m2, m3, m4⟩ := hd x d h
    exact ⟨fd, m1, m2.kp, m4, ⟨fun vs H Q E z => z.1, fun A outer s H args us vs Q E _ _ _ _ ⟨_, ι, st, ds, _, _, z⟩ => z.elim⟩, m2⟩
  | k + 1, x, d, h => by
    obtain ⟨fd, m1, m2, m3, m4⟩ := hd x d h
    refine ⟨fd, m1, m2.kp, m4, ?_, m2⟩
    have e : Φs c n (k + 1) x = callF d.N.length (cSs c (Φs c n k) n ⟨d.N, d.scope⟩ d.body) := by
      funext ds st
      show (match c.fns x with
        | some d => callF d.N.length (cSs c (Φs c n k) n ⟨d.N, d.scope⟩ d.body) ds st
        | none => .bad) = _
      rw [h]
    rw [e]
    refine def_D m2 m3 fun cdv A outer s H E hr => ?_
    have G : Good c (Φs c n k) k ⟨d.N, d.scope⟩ (cxOf (L2.CX P w) P w K mg base d.N d.name d.scope (gA K x) cdv A outer s H E) (fun cls d _ H' => E cls d H') := {
      N := rfl
      nd := m3.nd
      kind := m3.kind
      loc := fun y z => z
      frc := fun y z => z
      cel := fun y z => ⟨z, rfl⟩
      glo := fun y z => z
      calm := rfl
      room := hr
      tk := takes_of rfl rfl rfl rfl
      fx := fx
      fns := fun y d' h' => by
        obtain ⟨fd', z1, z2, z3, z4, _⟩ := defs_ok (n := n) (w := w) (base := base) fx hd k y d' h'
        exact ⟨fd', z1, z2, z3, z4⟩ }
    exact cSs_ok G (passes_of rfl) n d.body
theorem funD_uniq {K : PySem.W.Frag} {x x' q q' : Str} {a a' : Arguments} {b b' : List Stmt} {sc sc' : Scope} {ds ds' : List V} {kw kw' : List (Str × V)} {f : Addr} {fd fd' : FuncData} (h : FunD K x q a b sc ds kw f fd) (h' : FunD K x' q' a' b' sc' ds' kw' f fd') : fd = fd' := by
  obtain ⟨_, _, _, _, _, _, _, _, _, _, _, e, _⟩ := h.ex
  obtain ⟨_, _, _, _, _, _, _, _, _, _, _, e', _⟩ := h'.ex
  rw [e] at e'
  cases e'
  rfl
/-- the law's def -/
theorem law_facts {c : Cfg} {n k : Nat} {P : Program} {w : World} {K : PySem.W.Frag} {mg : Str → Option Value} {f : Addr} {d : Df} (fx : Fx P K mg c) (df : DfOk c K mg) (hl : c.fns ("law" : Str) = some d) (hps : d.ps = [("script" : Str)]) (hfa : mg ("law" : Str) = some (.ref f))
    (hb : ∀ (kV doc pm : Value) (an : Option Addr) (cdv ct : Value) (us : List Value), us.length = d.ps.length → bindArgs (PySem.W.fnOf d.name d.name d.params d.body d.scope .none kV doc pm an cdv ct) ⟨us, []⟩ = pure (d.ps.zip us)) :
    ∃ fd : FuncData, (∀ (s : Shared) (u : Value), BindsTo s fd ⟨[u], []⟩ [(("script" : Str), u)]) ∧ ∀ base : Heap, FnG P w K mg base (L2.CX P w) k f fd [("script" : Str)] (spD K 1 (Φs c n k "law")) := by
  obtain ⟨fd, m1, m2, m3, m4⟩ := df _ d hl
  rw [hfa] at m1
  cases m1
  have B := FunD.bindsA m2 hb
  refine ⟨fd, fun s u => ?_, fun base => ?_⟩
  · have q := B s [u] (by rw [hps]; rfl)
    rw [hps] at q
    exact q
  · obtain ⟨fd', z1, z2, z3, z4, z5⟩ := defs_ok (n := n) (w := w) (base := base) fx df k _ d hl
    cases funD_uniq m2 z5
    rw [hps] at z4
    exact z4
end L2.Ev

/-! The head: what the module's heap tells, read by a Hook. -/
namespace L2.Ev
open PySem PySem.Spec PyProof.Rows PySem.W PySem.Calls PySem.HandSPX

/-! ### SayError -/
structure SPos where
  (p1 p2 q1 q2 q3 q4 q5 q6 r1 r2 r3 r4 : Pos)
abbrev FnXW : Type := Option (Str × Str × Arguments × FuncBody × Scope × Addr × Addr)
def fnXW (K : Frag) (a : Addr) : FnXW := match K.lookup a with
  | some ⟨_, _, .func fd, _⟩ => some (fd.name, fd.qualname, fd.params, fd.body, fd.scope, fd.globals, fd.builtins)
  | _ => none
def valX (p : SPos) : FnXW := some ("__init__", "SayError.__init__", siA p.p1 p.p2, .stmts (siB p.q1 p.q2 p.q3 p.q4 p.q5 p.q6 p.r1 p.r2 p.r3 p.r4), siS, mainGlobals, builtinsNs)
abbrev sayA (K : Frag) : Addr := gA K "SayError"
def initA (K : Frag) : Addr := He.ma K (sayA K) "__init__"
def cellA (K : Frag) : Addr := match K.lookup (initA K) with
  | some ⟨_, _, .func fd, _⟩ => (match fd.closure with
    | [(_, a)] => a
    | _ => 0)
  | _ => 0
def codeA (K : Frag) : Addr := match K.lookup (initA K) with
  | some ⟨_, _, .func fd, _⟩ => (match fd.code with
    | .ref a => a
    | _ => 0)
  | _ => 0
def initB (K : Frag) : Bool := match K.lookup (initA K) with
  | some ⟨_, _, .func fd, _⟩ => (match fd.closure with
    | [(n, _)] => decide (n = "__class__")
    | _ => false) && (decide (fd.defaults = .none) && (match fd.code with
    | .ref _ => true
    | _ => false))
  | _ => false
def fileB (file : Str) (K : Frag) : Bool := match K.lookup (codeA K) with
  | some ⟨_, _, .fields vs, _⟩ => (match (vs[2]? : Option Value) with
    | some (.str f _) => file == f
    | _ => false)
  | _ => false
def cellB (K : Frag) : Bool := match K.lookup (cellA K) with
  | some ⟨_, _, .cell (some (.ref a)), _⟩ => decide (a = sayA K)
  | _ => false
def sayTB (file : Str) (K : Frag) : Bool := initB K && (codeIn K (.ref (codeA K)) "SayError.__init__" && (fileB file K && (cellB K && ((clsIn K (sayA K)).isSome && He.eqO (nsIn K cStatics "thirdparty.any") (some none)))))
theorem say_T {P : Program} {K : Frag} {p : SPos} {file : Str} (h : sayTB file K = true) (e : fnXW K (initA K) = valX p) (hf : P.main.file = file) (hq : (p.q3.endLine == p.q5.line) = true) (ht : (P.main.scope.names.lookup ("super" : Str)).isSome = false) : SayT P K (sayA K) (initA K) (cellA K) (codeA K) := by
  obtain ⟨h1, h⟩ := Bool.and_eq_true_iff.mp h
  obtain ⟨h2, h⟩ := Bool.and_eq_true_iff.mp h
  obtain ⟨h3, h⟩ := Bool.and_eq_true_iff.mp h
  obtain ⟨h4, h⟩ := Bool.and_eq_true_iff.mp h
  obtain ⟨h5, h6⟩ := Bool.and_eq_true_iff.mp h
  refine ⟨?_, h2, ?_, ?_, Option.isSome_iff_exists.mp h5, He.eqO_ok h6, ht⟩
  · unfold initB at h1
    unfold fnXW at e
    split at h1
    · rename_i oc od fd osl ho
      obtain ⟨a1, a2⟩ := Bool.and_eq_true_iff.mp h1
      obtain ⟨a3, a4⟩ := Bool.and_eq_true_iff.mp a2
      have ec : cellA K = (match fd.closure with
        | [(_, a)] => a
        | _ => 0) := by unfold cellA; rw [ho]
      have ed : codeA K = (match fd.code with
        | .ref a => a
        | _ => 0) := by unfold codeA; rw [ho]
      rw [ho] at e
      obtain ⟨n1, n2, n3, n4, n5, n6, n7, n8, n9, n10, n11, n12, n13, n14, n15⟩ := fd
      dsimp only at a1 a3 a4 ec ed e
      unfold valX at e
      simp only [Option.some.injEq, Prod.mk.injEq] at e
      obtain ⟨rfl, rfl, rfl, rfl, rfl, rfl, rfl⟩ := e
      have a3' := of_decide_eq_true a3
      subst a3'
      split at a1
      · rename_i nm ca
        have a1' := of_decide_eq_true a1
        subst a1'
        dsimp only at ec
        split at a4
        · rename_i da
          dsimp only at ed
          rw [ec, ed]
          exact ⟨oc, od, n10, n11, n9, n12, n14, osl, p.p1, p.p2, p.q1, p.q2, p.q3, p.q4, p.q5, p.q6, p.r1, p.r2, p.r3, p.r4, ho, hq⟩
        · cases a4
      · cases a1
    · cases h1
  · unfold fileB at h3
    split at h3
    · rename_i c1 c2 vs c3 ho
      split at h3
      · rename_i f t e2
        exact ⟨c1, c2, vs, c3, f, t, ho, e2, by rw [hf]; exact h3⟩
      · cases h3
    · cases h3
  · unfold cellB at h4
    split at h4
    · rename_i c1 c2 a c3 ho
      have e2 := of_decide_eq_true h4
      subst e2
      exact ⟨c1, c2, c3, ho⟩
    · cases h4
/-! ### error classes -/
/-- the classes behind C -/
def bmOf (K : Frag) (C : Addr) : List Value := if C = sayA K then veTail else .ref (sayA K) :: veTail
def clsB (K : Frag) (C : Addr) : Bool := match K.lookup C with
  | some ⟨.type T, _, .cls cd, sl⟩ => decide (T = "type") && (decide (cd.mro = .ref C :: bmOf K C) && (!cd.hasDel && (cd.hasDict && (match sl.toList with
    | [_, _, _, _, some (.builtin n), _] => decide (n = "ValueError.__new__")
    | _ => false))))
  | _ => false
theorem clsB_ok {K : Frag} {C : Addr} (h : clsB K C = true) : ∃ nm q N bs sn sub ab col dd k0 k1 k2 k3 k5, K.lookup C = some (excClassObj nm q C N bs (bmOf K C) true sn sub ab col dd k0 k1 k2 k3 k5 "ValueError.__new__") := by
  unfold clsB at h
  split at h
  · rename_i T dd cd sl ho
    obtain ⟨a1, h⟩ := Bool.and_eq_true_iff.mp h
    obtain ⟨a2, h⟩ := Bool.and_eq_true_iff.mp h
    obtain ⟨a3, h⟩ := Bool.and_eq_true_iff.mp h
    obtain ⟨a4, a5⟩ := Bool.and_eq_true_iff.mp h
    have b1 := of_decide_eq_true a1
    have b2 := of_decide_eq_true a2
    split at a5
    · rename_i k0 k1 k2 k3 n k5 hs
      have b5 := of_decide_eq_true a5
      obtain ⟨c1, c2, c3, c4, c5, c6, c7, c8, c9, c10, c11⟩ := cd
      dsimp only at b2 a3 a4
      have hsl : sl = #[k0, k1, k2, k3, some (.builtin n), k5] := by
        obtain ⟨l⟩ := sl
        simp only at hs
        rw [hs]
      have b3 : c11 = false := by simpa using a3
      subst b1 b2 b3 b5 hsl a4
      exact ⟨_, _, _, _, _, _, _, _, _, _, _, _, _, _, ho⟩
    · cases a5
  · cases h
def sayCB (K : Frag) (C : Addr) : Bool := clsB K C && (He.eqO (findIn K (.ref C) "__init__") (some (some (.ref (initA K)))) && (He.eqO (findIn K (.ref C) "__setattr__") (some (some (.builtin "object.__setattr__"))) &&
  (He.eqO (findIn K (.ref C) "__getattribute__") (some (some (.builtin "BaseException.__getattribute__"))) && (He.eqO (findIn K (.ref C) "__getattr__") (some none) && (He.eqO (findIn K (.ref C) "value") (some none) && (keepIn K (.ref C) &&
  He.eqO (findIn K (.ref C) "__class__") (some (some (.builtin "object.__class__")))))))))
theorem refs_bm (K : Frag) (C : Addr) : refsVE (bmOf K C) = true ∧ ((Value.ref C :: bmOf K C).dropWhile (· != .ref (sayA K))).drop 1 = veTail ∧ (Value.ref C :: bmOf K C).contains (.ref (sayA K)) = true := by
  unfold bmOf
  by_cases h : C = sayA K
  · rw [if_pos h, h]
    refine ⟨rfl, ?_, ?_⟩
    · rw [List.dropWhile_cons]
      simp
    · simp
  · rw [if_neg h]
    refine ⟨rfl, ?_, ?_⟩
    · have hn : (Value.ref C != Value.ref (sayA K)) = true := by simp [h]
      rw [List.dropWhile_cons, hn]
      simp
    · simp
theorem say_C {K : Frag} {C : Addr} (h : sayCB K C = true) (ht : typeIn K (.ref (initA K)) = some (.type "function")) : SayC K (sayA K) (initA K) C := by
  obtain ⟨h1, h⟩ := Bool.and_eq_true_iff.mp h
  obtain ⟨h2, h⟩ := Bool.and_eq_true_iff.mp h
  obtain ⟨h3, h⟩ := Bool.and_eq_true_iff.mp h
  obtain ⟨h4, h⟩ := Bool.and_eq_true_iff.mp h
  obtain ⟨h5, h⟩ := Bool.and_eq_true_iff.mp h
  obtain ⟨h6, h⟩ := Bool.and_eq_true_iff.mp h
  obtain ⟨h7, h8⟩ := Bool.and_eq_true_iff.mp h
  obtain ⟨nm, q, N, bs, sn, sub, ab, col, dd, k0, k1, k2, k3, k5, ho⟩ := clsB_ok h1
  obtain ⟨r1, r2, r3⟩ := refs_bm K C
  have hm : ∀ b : Value, mroIn K C b = some ((Value.ref C :: bmOf K C).contains b) := fun b => by
    unfold mroIn clsIn
    rw [ho]
    rfl
  have mem : ∀ X : String, (X = "BaseException" ∨ X = "ValueError" ∨ X = "object") → (Value.ref C :: bmOf K C).contains (.type X) = true := fun X hX => by
    unfold bmOf
    rcases hX with rfl | rfl | rfl <;> split <;> simp [veTail]
  exact {
    cls := ⟨nm, q, N, bs, bmOf K C, sn, sub, ab, col, dd, k0, k1, k2, k3, k5, ho, r1, r2, r3⟩
    iC := He.eqO_ok h2
    tI := ht
    sa := He.eqO_ok h3
    ga := He.eqO_ok h4
    gg := He.eqO_ok h5
    noV := He.eqO_ok h6
    exC := (hm _).trans (by rw [mem _ (.inl rfl)])
    veC := (hm _).trans (by rw [mem _ (.inr (.inl rfl))])
    tyC := by
      show (K.lookup C).map (·.cls) = some (.type "type")
      rw [ho]
      rfl
    kC := h7
    hd := by
      unfold hasDictIn clsIn
      rw [ho]
      rfl
    ca := He.eqO_ok h8
    ob := (hm _).trans (by rw [mem _ (.inr (.inr rfl))]) }
end L2.Ev

/-! A law's head: its Hook, its facts. -/
namespace L2.Ev
open PySem PySem.Spec PyProof.Rows PySem.W PySem.Calls PySem.HandSPX

/-! ### isinstance by names -/
def tyNames : List String := ["NoneType", "bool", "int", "str", "tuple", "list", "dict"]
def kitE (errs : List Str) : D → D → Option Bool
  | .ty a, .ty b => kitB a b
  | .ty a, .glo y => if a ∈ tyNames ∧ y ∈ errs then some false else none
  | .glo x, .glo y => if x ∈ errs ∧ y ∈ errs then some (decide (x = y) || decide (y = "SayError")) else none
  | .glo x, .ty b => if x ∈ errs ∧ kitMeta b = true then some (decide (b ∈ ["ValueError", "Exception", "BaseException", "object"])) else none
  | _, _ => none
def allTy (l : List Value) : Bool := l.all fun v => match v with
  | .type _ => true
  | _ => false
theorem no_ref {l : List Value} {C : Addr} (h : allTy l = true) : l.contains (.ref C) = false := by
  rw [Bool.eq_false_iff]
  intro z
  have hm : Value.ref C ∈ l := by simpa using z
  have := List.all_eq_true.mp h _ hm
  cases this
theorem ty_mro : ∀ a ∈ tyNames, (fastBuiltinMro a).map allTy = some true := by decide +kernel
theorem kitE_ok {K : Frag} {errs : List Str} (hC : ∀ x ∈ errs, sayCB K (gA K x) = true) (hn : (errs.map (gA K)).Nodup) (hS0 : ("SayError" : Str) ∈ errs) : KitOk K (kitE errs) := by
  have inj : ∀ x y, x ∈ errs → y ∈ errs → gA K x = gA K y → x = y := fun x y hx hy e => by
    obtain ⟨i, hi, rfl⟩ := List.mem_iff_getElem.mp hx
    obtain ⟨j, hj, rfl⟩ := List.mem_iff_getElem.mp hy
    have h1 : (errs.map (gA K))[i]'(by simpa using hi) = (errs.map (gA K))[j]'(by simpa using hj) := by simpa using e
    have := (List.getElem_inj hn).mp h1
    subst this
    rfl
  have look : ∀ x ∈ errs, ∃ cd, clsIn K (gA K x) = some cd ∧ cd.mro = .ref (gA K x) :: bmOf K (gA K x) ∧ typeIn K (.ref (gA K x)) = some (.type "type") := fun x hx => by
    obtain ⟨nm, q, N, bs, sn, sub, ab, col, dd, k0, k1, k2, k3, k5, ho⟩ := clsB_ok (Bool.and_eq_true_iff.mp (hC x hx)).1
    have hcl : clsIn K (gA K x) = some { name := nm, bases := bs, mro := .ref (gA K x) :: bmOf K (gA K x), ns := N, qualname := q, hasDict := true, slotNames := sn, subclasses := sub, abstract := ab, collection := col, hasDel := false } := by
      unfold clsIn
      rw [ho]
    refine ⟨_, hcl, rfl, ?_⟩
    show (K.lookup (gA K x)).map (·.cls) = _
    rw [ho]
    rfl
  intro t c b h
  cases t with
  | ty a =>
    cases c with
    | ty a' => exact kit_ty h
    | glo y =>
      have h' : (if a ∈ tyNames ∧ y ∈ errs then some false else none) = some b := h
      split at h'
      · rename_i hh
        cases h'
        obtain ⟨cd, c1, c2, c3⟩ := look y hh.2
        show kitOne K (.type a) (.ref (gA K y)) = some false
        unfold kitOne
        have e1 : (Value.type a == Value.ref (gA K y)) = false := rfl
        rw [e1]
        rw [if_neg Bool.false_ne_true]
        show (if ((clsIn K (gA K y)).isSome && typeIn K (.ref (gA K y)) == some (.type "type")) = true then subIn K (.type a) (.ref (gA K y)) else none) = some false
        rw [c1, c3]
        rw [if_pos (by simp)]
        have q := ty_mro a hh.1
        show (fastBuiltinMro a).map (·.contains (.ref (gA K y))) = some false
        obtain ⟨l, e2, e3⟩ := Option.map_eq_some_iff.mp q
        rw [e2]
        show some (l.contains (.ref (gA K y))) = some false
        rw [no_ref e3]
      · cases h'
    | _ => cases h
  | glo x =>
    cases c with
    | ty a =>
      have h' : (if x ∈ errs ∧ kitMeta a = true then some (decide (a ∈ ["ValueError", "Exception", "BaseException", "object"])) else none) = some b := h
      split at h'
      · rename_i hh
        cases h'
        obtain ⟨cd, c1, c2, c3⟩ := look x hh.1
        show kitOne K (.ref (gA K x)) (.type a) = some _
        unfold kitOne
        have e1 : (Value.ref (gA K x) == Value.type a) = false := rfl
        rw [e1]
        rw [if_neg Bool.false_ne_true]
        show (if kitMeta a = true then subIn K (.ref (gA K x)) (.type a) else none) = some _
        rw [if_pos hh.2]
        show mroIn K (gA K x) (.type a) = some _
        unfold mroIn
        rw [c1]
        show (if cd.mro.isEmpty = true then none else some (cd.mro.contains (.type a))) = some _
        rw [c2]
        rw [if_neg (by simp)]
        congr 1
        unfold bmOf
        rw [Bool.eq_iff_iff]
        split <;> simp [veTail]
      · cases h'
    | glo y =>
      have h' : (if x ∈ errs ∧ y ∈ errs then some (decide (x = y) || decide (y = "SayError")) else none) = some b := h
      split at h'
      · rename_i hh
        cases h'
        obtain ⟨cd, c1, c2, c3⟩ := look x hh.1
        obtain ⟨cd', c1', c2', c3'⟩ := look y hh.2
        show kitOne K (.ref (gA K x)) (.ref (gA K y)) = some _
        unfold kitOne
        by_cases e : x = y
        · subst e
          rw [if_pos (by simp)]
          simp
        · have e0 : gA K x ≠ gA K y := fun z => e (inj x y hh.1 hh.2 z)
          rw [if_neg (by simp [e0])]
          show (if ((clsIn K (gA K y)).isSome && typeIn K (.ref (gA K y)) == some (.type "type")) = true then subIn K (.ref (gA K x)) (.ref (gA K y)) else none) = some _
          rw [c1', c3']
          rw [if_pos (by simp)]
          show mroIn K (gA K x) (.ref (gA K y)) = some _
          unfold mroIn
          rw [c1]
          show (if cd.mro.isEmpty = true then none else some (cd.mro.contains (.ref (gA K y)))) = some _
          rw [c2]
          rw [if_neg (by simp)]
          congr 1
          unfold bmOf
          have es : (y = "SayError") ↔ (gA K y = sayA K ∧ y = "SayError") := ⟨fun z => ⟨by rw [z], z⟩, fun z => z.2⟩
          by_cases hs : y = "SayError"
          · subst hs
            have hx : gA K x ≠ sayA K := e0
            rw [if_neg hx]
            simp
          · have hy : gA K x ≠ sayA K → True := fun _ => trivial
            by_cases hx : gA K x = sayA K
            · rw [if_pos hx]
              have : ¬ gA K y = gA K x := fun z => e0 z.symm
              simp [e, hs, veTail, this]
            · rw [if_neg hx]
              have n1 : ¬ gA K y = gA K x := fun z => e0 z.symm
              by_cases hS : gA K y = sayA K
              · exact absurd (inj y ("SayError" : Str) hh.2 hS0 hS) hs
              · simp [e, hs, veTail, n1, hS]
      · cases h'
    | _ => cases h
  | _ => cases c <;> cases h

/-! ### a law's text -/
structure Hd where
  errs : List Str
  free : List Str
  fns : List (Str × Df)
  file : Str
  pos : SPos
def Df.dd (x : Str) (d : Df) : He.DefD := { at_ := (x, none), name := d.name, qual := d.name, params := d.params, body := d.body, scope := d.scope }
def Hd.cfg (h : Hd) (mu frz : Pos → Bool) : Cfg where
  isE := fun x => decide (x ∈ h.errs)
  free := fun x => decide (x ∈ h.free)
  cls := fun x => decide (x ∈ h.errs) || (h.fns.lookup x).isSome
  kit := kitE h.errs
  mu := mu
  frz := frz
  fns := fun x => h.fns.lookup x
def Hd.chk (h : Hd) (K : Frag) : Bool := sayTB h.file K && ((h.errs.all fun x => sayCB K (gA K x) && (He.Fa.glo x).ok K) && (decide ((h.errs.map (gA K)).Nodup) && ((h.fns.all fun p => (He.Fa.glo p.1).ok K) && ((h.free.all fun x => (He.Fa.free x).ok K) &&
  ((He.Fa.free "super").ok K && (decide (typeIn K (.ref (initA K)) = some (.type "function")) && (He.eqO (specialIn K (.builtin "object.__class__") "__get__") (some (some (.builtin "getset_descriptor.__get__"))) && decide (takesIn K (.builtin "object.__class__") = some true))))))))
abbrev AlV : Type := Bool × List He.FnW × FnXW
def Hd.obs (h : Hd) (K : Frag) : AlV := (h.chk K && h.fns.all fun p => (p.2.dd p.1).ok K, h.fns.map fun p => He.fnW K (p.1, none), fnXW K (initA K))
def Hd.val (h : Hd) : AlV := (true, h.fns.map fun p => (p.2.dd p.1).val, valX h.pos)
def asV (g : Addr → Option Obj) (n : Nat) : List Addr := He.asD g n ++ [cStatics]
def Hd.obsG (h : Hd) (n : Nat) (g : Addr → Option Obj) : AlV := h.obs (He.frG g (asV g n))
def Hd.hook (h : Hd) (n : Nat) : Hook where
  α := AlV
  obs := fun s => h.obsG n s.heap.get?
  val := fun _ => h.val
  says := fun _ hp => ∃ K : Frag, K.In hp ∧ h.obs K = h.val
  of := fun _ _ e => ⟨_, He.frG_in, e⟩
  keeps := fun _ _ _ ⟨K, hK, c⟩ k => ⟨K, Frag.In.keeps hK k, c⟩
theorem Hd.obsG_eq {h : Hd} {n : Nat} {g : Addr → Option Obj} {s : Shared} (e : ∀ a, g a = s.heap.get? a) : h.obsG n g = (h.hook n).obs s := by
  have e : g = s.heap.get? := funext e
  rw [e] <;> rfl
/-- what is asked of a def of the text -/
def DfP (d : Df) : Prop := FnScope d.N d.ps d.scope ∧ ∀ (kV doc pm : Value) (an : Option Addr) (cdv ct : Value) (us : List Value), us.length = d.ps.length → bindArgs (fnOf d.name d.name d.params d.body d.scope .none kV doc pm an cdv ct) ⟨us, []⟩ = pure (d.ps.zip us)
theorem lookup_mem {α : Type} : ∀ {l : List (Str × α)} {x : Str} {d : α}, l.lookup x = some d → (x, d) ∈ l
  | [], _, _, h => by cases h
  | (y, e) :: l, x, d, h => by
    rw [List.lookup_cons] at h
    cases hb : x == y with
    | true =>
      rw [hb] at h
      cases h
      rw [eq_of_beq hb]
      exact List.mem_cons_self
    | false =>
      rw [hb] at h
      exact List.mem_cons_of_mem _ (lookup_mem h)
theorem Hd.facts {h : Hd} {mu frz : Pos → Bool} {P : Program} {K : Frag} {hp : Heap} {mg : Str → Option Value} (X : K.In hp) (G : hp.Ns mainGlobals mg) (e : h.obs K = h.val) (hP : ∀ p ∈ h.fns, DfP p.2) (hS : ("SayError" : Str) ∈ h.errs) (hf : P.main.file = h.file) (hq : (h.pos.q3.endLine == h.pos.q5.line) = true) (ht : (P.main.scope.names.lookup ("super" : Str)).isSome = false) :
    Fx P K mg (h.cfg mu frz) ∧ DfOk (h.cfg mu frz) K mg := by
  have e1 := congrArg (fun z : AlV => z.1) e
  have e2 : (h.fns.map fun p => He.fnW K (p.1, none)) = h.fns.map fun p => (p.2.dd p.1).val := congrArg (fun z : AlV => z.2.1) e
  have e3 : fnXW K (initA K) = valX h.pos := congrArg (fun z : AlV => z.2.2) e
  obtain ⟨c, cd⟩ := Bool.and_eq_true_iff.mp (show (h.chk K && h.fns.all fun p => (p.2.dd p.1).ok K) = true from e1)
  obtain ⟨c1, c⟩ := Bool.and_eq_true_iff.mp c
  obtain ⟨c2, c⟩ := Bool.and_eq_true_iff.mp c
  obtain ⟨c3, c⟩ := Bool.and_eq_true_iff.mp c
  obtain ⟨c4, c⟩ := Bool.and_eq_true_iff.mp c
  obtain ⟨c5, c⟩ := Bool.and_eq_true_iff.mp c
  obtain ⟨c6, c⟩ := Bool.and_eq_true_iff.mp c
  obtain ⟨c7, c⟩ := Bool.and_eq_true_iff.mp c
  obtain ⟨c8, c9⟩ := Bool.and_eq_true_iff.mp c
  have c7' := of_decide_eq_true c7
  have hC : ∀ x ∈ h.errs, sayCB K (gA K x) = true := fun x hx => (Bool.and_eq_true_iff.mp (List.all_eq_true.mp c2 x hx)).1
  have hE : ∀ x ∈ h.errs, mg x = some (.ref (gA K x)) := fun x hx => He.glo_ok X G (Bool.and_eq_true_iff.mp (List.all_eq_true.mp c2 x hx)).2
  have hF : ∀ x d, h.fns.lookup x = some d → mg x = some (.ref (gA K x)) := fun x d hx => He.glo_ok X G (List.all_eq_true.mp c4 _ (lookup_mem hx))
  refine ⟨{
    say := ⟨_, _, _, _, say_T c1 e3 hf hq ht, fun x hx => say_C (hC x (of_decide_eq_true hx)) c7'⟩
    err := fun x hx => hE x (of_decide_eq_true hx)
    free := fun x hx => He.free_ok X G (List.all_eq_true.mp c5 x (of_decide_eq_true hx))
    cls := fun x hx => by
      rcases Bool.or_eq_true_iff.mp hx with z | z
      · exact hE x (of_decide_eq_true z)
      · obtain ⟨d, hd⟩ := Option.isSome_iff_exists.mp z
        exact hF x d hd
    sup := He.free_ok X G c6
    kit := kitE_ok hC (of_decide_eq_true c3) hS
    sp := He.eqO_ok c8
    tk := of_decide_eq_true c9 }, fun x d hx => ?_⟩
  have hm := lookup_mem (show h.fns.lookup x = some d from hx)
  obtain ⟨i, hi, ei⟩ := List.mem_iff_getElem.mp hm
  have q : He.fnW K (x, none) = (d.dd x).val := by
    have z : (h.fns.map fun p => He.fnW K (p.1, none))[i]'(by simpa using hi) = (h.fns.map fun p => (p.2.dd p.1).val)[i]'(by simpa using hi) := by simp only [e2]
    rw [List.getElem_map, List.getElem_map, ei] at z
    exact z
  obtain ⟨fd, F⟩ := He.DefD.funD (d := d.dd x) q (List.all_eq_true.mp cd _ hm)
  obtain ⟨hsc, hb⟩ := hP _ hm
  exact ⟨fd, hF x d hx, F, hsc, FunD.bindsN F hb⟩
/-- the scope of a def -/
def scopeB (N P : List Str) (sc : Scope) : Bool := (match sc.kind with
  | .function => true
  | _ => false) && (!sc.isCoroutine && (!sc.isGenerator && (decide N.Nodup && (decide (N.take P.length = P) && ((P.all fun x => decide (sc.names.lookup x = some .local ∨ sc.names.lookup x = some .cell)) && sc.names.all fun y => decide (y.2 ≠ .free))))))
theorem scopeB_ok {N P : List Str} {sc : Scope} (h : scopeB N P sc = true) : FnScope N P sc := by
  obtain ⟨h1, h⟩ := Bool.and_eq_true_iff.mp h
  obtain ⟨h2, h⟩ := Bool.and_eq_true_iff.mp h
  obtain ⟨h3, h⟩ := Bool.and_eq_true_iff.mp h
  obtain ⟨h4, h⟩ := Bool.and_eq_true_iff.mp h
  obtain ⟨h5, h⟩ := Bool.and_eq_true_iff.mp h
  obtain ⟨h6, h7⟩ := Bool.and_eq_true_iff.mp h
  refine ⟨?_, by simpa using h2, by simpa using h3, of_decide_eq_true h4, of_decide_eq_true h5, fun x hx => of_decide_eq_true (List.all_eq_true.mp h6 x hx), fun y hy => of_decide_eq_true (List.all_eq_true.mp h7 y hy)⟩
  split at h1
  · assumption
  · cases h1
/-- the script, the wish: the end of a law -/
theorem law_sp {K : Frag} {H : Hp} {a : Addr} {ns : List Int} {φ : List D → Sto → Out D} (hr : RoL K H a (ns.map V.int)) (h : ∃ st, φ [.ro (ns.map D.int)] [] = .val (.bl true) st) : spD K 1 φ [.ref a] H (fun v _ => v = .bl true) fun _ _ _ => False := by
  obtain ⟨st, h⟩ := h
  have go : ∀ ns : List Int, RDs K [] H (ns.map D.int) (ns.map V.int) := by
    intro ns
    induction ns with
    | nil => rfl
    | cons i ns ih => exact ⟨_, _, rfl, rfl, ih⟩
  refine ⟨rfl, [], [], [.ro (ns.map D.int)], ⟨rfl, List.nodup_nil, fun i b o e _ => by simp at e⟩, ⟨_, _, rfl, ⟨a, _, rfl, hr, go ns⟩, rfl⟩, ?_⟩
  rw [h]
  exact fun ι' H' v _ _ q => q
end L2.Ev

/-! Names for printed evaluations; what they come to. -/
namespace L2.Ev
open PySem PySem.Spec PyProof.Rows
def kE (d : D) : Env' → Sto → Out D := fun _ st => .val d st
def tupE (fs : List (Env' → Sto → Out D)) (env : Env') (st : Sto) : Out D := (evs fs env st).bind mkT
def lstE (m : Bool) (fs : List (Env' → Sto → Out D)) (env : Env') (st : Sto) : Out D := (evs fs env st).bind (mkLs m)
def noO : Env' → Sto → Out (Option Int) := fun _ st => .val none st
def paO (f : Env' → Sto → Out D) (env : Env') (st : Sto) : Out (Option Int) := (f env st).bind prtO
def attE (c : Cfg) (f : Env' → Sto → Out D) (env : Env') (st : Sto) : Out D := (f env st).bind (valE c)
def dctE (fs : List ((Env' → Sto → Out D) × (Env' → Sto → Out D))) (env : Env') (st : Sto) : Out D := (prs fs env st).bind mkDc
def lrgE1 (m : Bool) (f : Env' → Sto → Out D) (env : Env') (st : Sto) : Out D := (f env st).bind (lrg1 m)
def lrgE2 (m : Bool) (f g : Env' → Sto → Out D) (env : Env') (st : Sto) : Out D := (f env st).bind fun x st => (g env st).bind fun y st => lrg2 m x y st
def srcE (f : Env' → Sto → Out D) (env : Env') (st : Sto) : Out Src := (f env st).bind srcD
def srcA (g : List D → Sto → Out Src) (fs : List (Env' → Sto → Out D)) (env : Env') (st : Sto) : Out Src := (evs fs env st).bind g
def truT (f : Env' → Sto → Out D) (env : Env') (st : Sto) : Out Bool := (f env st).bind truO
def notT (f : Env' → Sto → Out Bool) (env : Env') (st : Sto) : Out Bool := (f env st).bind fun b st => .val (!b) st
def chT (f : Env' → Sto → Out D) (env : Env') (st : Sto) : Out Bool := (f env st).bind chkB
def yesT : Env' → Sto → Out Bool := fun _ st => .val true st
def nxS : Env' → Sto → SOut := fun env st => .nx env st
def bkS : Env' → Sto → SOut := fun env st => .bk env st
def ctS : Env' → Sto → SOut := fun env st => .ct env st
def rtN : Env' → Sto → SOut := fun _ st => .rt .non st
def frzE (f : Env' → Sto → Out D) (env : Env') (st : Sto) : Out D := (f env st).bind frzD
def whlS (t : Env' → Sto → Out Bool) (b : Env' → Sto → SOut) (env : Env') (st : Sto) : SOut := whlGo t b whlFuel env st
end L2.Ev

/-! Evaluations worked out: lemmas for the plain side. -/
namespace L2.Ev
open PySem PySem.Spec PyProof.Rows
section
variable {α β : Type} {a : α} {st : Sto} {env : Env'}
theorem bind_val {f : α → Sto → Out β} : (Out.val a st).bind f = f a st := by first | exact Eq.trans (Eq.refl _) (Eq.refl _)
theorem toS_val {f : α → Sto → SOut} : (Out.val a st).toS env f = f a st := by first | exact Eq.trans (Eq.refl _) (Eq.refl _)
theorem pure_val : (Out.val a st).pure' = Out.val a st := by first | exact Eq.trans (Eq.refl _) (Eq.refl _)
end
section
variable {st : Sto} {env : Env'} {d : D} {p i : Nat} {xs : List D}
theorem ofEnv_of (h : getS env i = some d) : ofEnv i env st = .val d st := by
  unfold ofEnv
  rw [h]
theorem listOf_obj (h : st[p]? = some (.lst xs)) : listOf st (.obj p) = some xs := by
  show (match st[p]? with
    | some (.lst xs) => some xs
    | _ => none) = some xs
  rw [h]
theorem listOf_ro : listOf st (.ro xs) = some xs := by first | exact Eq.trans (Eq.refl _) (Eq.refl _)
theorem dIx_obj {k : Int} (h : st[p]? = some (.lst xs)) : dIx (.obj p) (.int k) st = ofP (atI xs k) st := by
  show (match listOf st (.obj p) with
    | some xs => ofP (atI xs k) st
    | none => .bad) = _
  rw [listOf_obj h]
theorem dIx_ro {k : Int} : dIx (.ro xs) (.int k) st = ofP (atI xs k) st := by first | exact Eq.trans (Eq.refl _) (Eq.refl _)
theorem dSet_obj {k : Int} {v : D} {j : Nat} (h : st[p]? = some (.lst xs)) (hj : ixN xs.length k = some j) : dSet (.obj p) (.int k) v st = some (st.set p (.lst (xs.set j v))) := by
  show (match st[p]? with
    | some (.lst xs) => (ixN xs.length k).map fun j => st.set p (.lst (xs.set j v))
    | _ => none) = _
  rw [h]
  dsimp only
  rw [hj]
  rfl
theorem gc_len {o : Out D} {st' : Sto} {n : Nat} (h : st'.length ≤ n) : gcO n (.val d st') = .val d st' := by
  unfold gcO
  dsimp only
  rw [List.take_of_length_le h]
  split <;> rfl
theorem gc_keep {st' : Sto} {n : Nat} (h : clD n d = false) : gcO n (.val d st') = .val d st' := by
  unfold gcO
  dsimp only
  rw [h]
  rfl
theorem gc_drop {st' : Sto} {n : Nat} (h : clD n d = true) (h2 : (st'.take n).all (clO n) = true) : gcO n (.val d st') = .val d (st'.take n) := by
  unfold gcO
  dsimp only
  rw [h, h2]
  rfl
theorem dMul_ii {i j : Int} (h : i.natAbs.log2 + j.natAbs.log2 < 1000000) : dMul (.int i) (.int j) st = .val (.int (i * j)) st := by
  show (if i.natAbs.log2 + j.natAbs.log2 < 1000000 then Out.val (D.int (i * j)) st else .bad) = _
  rw [if_pos h]
theorem dMod_ii {i j : Int} (h : 0 < j) : dMod (.int i) (.int j) st = .val (.int (i % j)) st := by
  show (if 0 < j then Out.val (D.int (i % j)) st else .bad) = _
  rw [if_pos h]
theorem dFdv_ii {i j : Int} (h : 0 < j ∧ j.natAbs.log2 < 9000) : dFdv (.int i) (.int j) st = .val (.int (i / j)) st := by
  show (if 0 < j ∧ j.natAbs.log2 < 9000 then Out.val (D.int (i / j)) st else .bad) = _
  rw [if_pos h]
theorem dPow_ii {i j : Int} (h : 0 ≤ j ∧ (i.natAbs.log2 + 1 : Int) * j ≤ 2 ^ 27) : dPow (.int i) (.int j) st = .val (.int (i ^ j.toNat)) st := by
  show (if 0 ≤ j ∧ (i.natAbs.log2 + 1 : Int) * j ≤ 2 ^ 27 then Out.val (D.int (i ^ j.toNat)) st else .bad) = _
  rw [if_pos h]
theorem dAdd_ii {i j : Int} : dAdd (.int i) (.int j) st = .val (.int (i + j)) st := by first | exact Eq.trans (Eq.refl _) (Eq.refl _)
theorem dSub_ii {i j : Int} : dSub (.int i) (.int j) st = .val (.int (i - j)) st := by first | exact Eq.trans (Eq.refl _) (Eq.refl _)
theorem dGt_ii {i j : Int} : dGt (.int i) (.int j) st = .val (.bl (decide (j < i))) st := by first | exact Eq.trans (Eq.refl _) (Eq.refl _)
theorem dLt_ii {i j : Int} : dLt (.int i) (.int j) st = .val (.bl (decide (i < j))) st := by first | exact Eq.trans (Eq.refl _) (Eq.refl _)
theorem dGe_ii {i j : Int} : dGe (.int i) (.int j) st = .val (.bl (decide (j ≤ i))) st := by first | exact Eq.trans (Eq.refl _) (Eq.refl _)
theorem dEq_ii {i j : Int} : dEq (.int i) (.int j) st = .val (.bl (i == j)) st := by first | exact Eq.trans (Eq.refl _) (Eq.refl _)
theorem dNe_ss {i j : Str} : dNe (.str i) (.str j) st = .val (.bl (!(i == j))) st := by first | exact Eq.trans (Eq.refl _) (Eq.refl _)
theorem dEq_ss {i j : Str} : dEq (.str i) (.str j) st = .val (.bl (i == j)) st := by first | exact Eq.trans (Eq.refl _) (Eq.refl _)
theorem fInt_i {i : Int} : fInt [.int i] st = .val (.int i) st := by first | exact Eq.trans (Eq.refl _) (Eq.refl _)
theorem fInt_b {b : Bool} : fInt [.bl b] st = .val (.int (if b then 1 else 0)) st := by first | exact Eq.trans (Eq.refl _) (Eq.refl _)
theorem fAbs_i {i : Int} : fAbs [.int i] st = .val (.int (if i < 0 then -i else i)) st := by first | exact Eq.trans (Eq.refl _) (Eq.refl _)
theorem fLen_ro : fLen [.ro xs] st = .val (.int xs.length) st := by first | exact Eq.trans (Eq.refl _) (Eq.refl _)
theorem fLen_obj (h : st[p]? = some (.lst xs)) : fLen [.obj p] st = .val (.int xs.length) st := by
  show (match listOf st (.obj p) with
    | some xs => Out.val (D.int xs.length) st
    | none => .bad) = _
  rw [listOf_obj h]
theorem chk_b {b : Bool} : chkB (.bl b) st = .val b st := by first | exact Eq.trans (Eq.refl _) (Eq.refl _)
theorem tru_b {b : Bool} : truO (.bl b) st = .val b st := by first | exact Eq.trans (Eq.refl _) (Eq.refl _)
/-- a small number's bits -/
theorem log_lt {i : Int} {n : Nat} (hn : 0 < n) (h : i.natAbs < 2 ^ n) : i.natAbs.log2 < n := PySem.Flt.log2_lt_of hn h
theorem intsOf_map : ∀ ns : List Int, intsOf (ns.map D.int) = some ns
  | [] => rfl
  | i :: ns => by
    show (intsOf (ns.map D.int)).map (i :: ·) = _
    rw [intsOf_map ns]
    rfl
theorem blsOf_map : ∀ ns : List Bool, blsOf (ns.map D.bl) = some ns
  | [] => rfl
  | i :: ns => by
    show (blsOf (ns.map D.bl)).map (i :: ·) = _
    rw [blsOf_map ns]
    rfl
theorem clDs_map {α : Type} {f : α → D} {n : Nat} (h : ∀ x, clD n (f x) = true) : ∀ l : List α, clDs n (l.map f) = true
  | [] => rfl
  | x :: l => by
    show (clD n (f x) && clDs n (l.map f)) = true
    rw [h x, clDs_map h l]
    rfl
end

/-! ### unfolding where the slots are known -/
section
variable {x : Option D} {e : Env'} {st : Sto} {i m n : Nat} {f g : Env' → Sto → SOut} {fa fb fc fd : Env' → Sto → Out D} {ta tb : Env' → Sto → Out Bool} {fs : List (Env' → Sto → Out D)} {ts : List (Env' → Sto → Out Bool)} {G G' : D → D → Sto → Out D} {H : List D → Sto → Out D} {d : D} {b : Bool}
theorem kE_ : kE d e st = .val d st := by first | exact Eq.trans (Eq.refl _) (Eq.refl _)
theorem ofEnv_0 : ofEnv 0 (some d :: e) st = .val d st := by first | exact Eq.trans (Eq.refl _) (Eq.refl _)
theorem ofEnv_s : ofEnv (i + 1) (x :: e) st = ofEnv i e st := by
  unfold ofEnv getS
  rw [List.getElem?_cons_succ]
theorem seqS_ : seqS f g (x :: e) st = (match f (x :: e) st with
  | .nx env st => g env st
  | o => o) := by first | exact Eq.trans (Eq.refl _) (Eq.refl _)
theorem setS_ : setS i fa (x :: e) st = (fa (x :: e) st).toS (x :: e) fun d st => .nx ((x :: e).set i (some d)) st := by first | exact Eq.trans (Eq.refl _) (Eq.refl _)
theorem setIxS_ : setIxS fa fb fc (x :: e) st = (fa (x :: e) st).toS (x :: e) fun v st => (fb (x :: e) st).toS (x :: e) fun d st => (fc (x :: e) st).toS (x :: e) fun k st => match dSet d k v st with
  | some st => .nx (x :: e) st
  | none => .bad := by first | exact Eq.trans (Eq.refl _) (Eq.refl _)
theorem setTgS_ {t : D → Env' → Option Env'} : setTgS t fa (x :: e) st = (fa (x :: e) st).toS (x :: e) fun d st => match t d (x :: e) with
  | some env => .nx env st
  | none => .bad := by first | exact Eq.trans (Eq.refl _) (Eq.refl _)
theorem retS_ : retS fa (x :: e) st = (fa (x :: e) st).toS (x :: e) fun d st => .rt d st := by first | exact Eq.trans (Eq.refl _) (Eq.refl _)
theorem exprS_ : exprS fa (x :: e) st = (fa (x :: e) st).toS (x :: e) fun _ st => .nx (x :: e) st := by first | exact Eq.trans (Eq.refl _) (Eq.refl _)
theorem ifS_ : ifS ta f g (x :: e) st = (ta (x :: e) st).toS (x :: e) fun k st => match k with
  | true => f (x :: e) st
  | false => g (x :: e) st := by first | exact Eq.trans (Eq.refl _) (Eq.refl _)
theorem forS_ {fi : Env' → Sto → Out Src} {B : D → Env' → Sto → SOut} : forS fi B (x :: e) st = (fi (x :: e) st).toS (x :: e) fun src st => forGo B src (src.len st + 1) 0 (x :: e) st := by first | exact Eq.trans (Eq.refl _) (Eq.refl _)
theorem nxS_ : nxS (x :: e) st = .nx (x :: e) st := by first | exact Eq.trans (Eq.refl _) (Eq.refl _)
theorem binE_ : binE G fa fb (x :: e) st = (fa (x :: e) st).bind fun a st => (fb (x :: e) st).bind fun b st => (G a b st).pure' := by first | exact Eq.trans (Eq.refl _) (Eq.refl _)
theorem unE_ {U : D → Sto → Out D} : unE U fa (x :: e) st = (fa (x :: e) st).bind fun a st => (U a st).pure' := by first | exact Eq.trans (Eq.refl _) (Eq.refl _)
theorem iteE_ : iteE ta fa fb (x :: e) st = (ta (x :: e) st).bind fun k st => match k with
  | true => fa (x :: e) st
  | false => fb (x :: e) st := by first | exact Eq.trans (Eq.refl _) (Eq.refl _)
theorem cmpT_ : cmpT G fa fb (x :: e) st = (fa (x :: e) st).bind fun a st => (fb (x :: e) st).bind fun b st => ((G a b st).pure').bind chkB := by first | exact Eq.trans (Eq.refl _) (Eq.refl _)
theorem callV_ : callV fs H (x :: e) st = (evs fs (x :: e) st).bind fun ds st => (H ds st).pure' := by first | exact Eq.trans (Eq.refl _) (Eq.refl _)
theorem callE_ : callE' fs H (x :: e) st = (evs fs (x :: e) st).bind H := by first | exact Eq.trans (Eq.refl _) (Eq.refl _)
theorem evs_nil {env : Env'} : evs [] env st = .val [] st := by first | exact Eq.trans (Eq.refl _) (Eq.refl _)
theorem evs_cons : evs (fa :: fs) (x :: e) st = (fa (x :: e) st).bind fun d st => (evs fs (x :: e) st).bind fun ds st => .val (d :: ds) st := by first | exact Eq.trans (Eq.refl _) (Eq.refl _)
theorem mthE_ {M : D → List D → Sto → Out D} : mthE fa fs M (x :: e) st = (fa (x :: e) st).bind fun d st => if (listOf st d).isSome = true then (evs fs (x :: e) st).bind fun ds st => (M d ds st).pure' else .bad := by first | exact Eq.trans (Eq.refl _) (Eq.refl _)
theorem tupE_ : tupE fs (x :: e) st = (evs fs (x :: e) st).bind mkT := by first | exact Eq.trans (Eq.refl _) (Eq.refl _)
theorem lstE_ : lstE b fs (x :: e) st = (evs fs (x :: e) st).bind (mkLs b) := by first | exact Eq.trans (Eq.refl _) (Eq.refl _)
theorem slE_ {l h : Env' → Sto → Out (Option Int)} : slE b fa l h (x :: e) st = (fa (x :: e) st).bind fun a st => (l (x :: e) st).bind fun l st => (h (x :: e) st).bind fun u st => (dSl b a l u st).pure' := by first | exact Eq.trans (Eq.refl _) (Eq.refl _)
theorem noO_ : noO e st = .val none st := by first | exact Eq.trans (Eq.refl _) (Eq.refl _)
theorem paO_ : paO fa (x :: e) st = (fa (x :: e) st).bind prtO := by first | exact Eq.trans (Eq.refl _) (Eq.refl _)
theorem attE_ {c : Cfg} : attE c fa (x :: e) st = (fa (x :: e) st).bind (valE c) := by first | exact Eq.trans (Eq.refl _) (Eq.refl _)
theorem dctE_ {ps : List ((Env' → Sto → Out D) × (Env' → Sto → Out D))} : dctE ps (x :: e) st = (prs ps (x :: e) st).bind mkDc := by first | exact Eq.trans (Eq.refl _) (Eq.refl _)
theorem lrgE1_ : lrgE1 b fa (x :: e) st = (fa (x :: e) st).bind (lrg1 b) := by first | exact Eq.trans (Eq.refl _) (Eq.refl _)
theorem lcE_ {fi : Env' → Sto → Out Src} {t : D → Env' → Option Env'} {vs : List Nat} : lcE b fi t ta fa vs (x :: e) st = (fi (x :: e) st).bind fun src st => (lcGo t ta fa src (wipeE (x :: e) vs) (src.len st + 1) 0 [] st).bind fun ds st => mkL b ds st := by first | exact Eq.trans (Eq.refl _) (Eq.refl _)
theorem srcE_ : srcE fa (x :: e) st = (fa (x :: e) st).bind srcD := by first | exact Eq.trans (Eq.refl _) (Eq.refl _)
theorem srcA_ {S : List D → Sto → Out Src} : srcA S fs (x :: e) st = (evs fs (x :: e) st).bind S := by first | exact Eq.trans (Eq.refl _) (Eq.refl _)
theorem truT_ : truT fa (x :: e) st = (fa (x :: e) st).bind truO := by first | exact Eq.trans (Eq.refl _) (Eq.refl _)
theorem notT_ : notT ta (x :: e) st = (ta (x :: e) st).bind fun b st => .val (!b) st := by first | exact Eq.trans (Eq.refl _) (Eq.refl _)
theorem frzE_ : frzE fa (x :: e) st = (fa (x :: e) st).bind frzD := by first | exact Eq.trans (Eq.refl _) (Eq.refl _)
theorem orT_1 {env : Env'} : orT [ta] env st = ta env st := by first | exact Eq.trans (Eq.refl _) (Eq.refl _)
theorem orT_2 : orT (ta :: tb :: ts) (x :: e) st = (ta (x :: e) st).bind fun k st => match k with
  | true => .val true st
  | false => orT (tb :: ts) (x :: e) st := by first | exact Eq.trans (Eq.refl _) (Eq.refl _)
theorem andT_1 {env : Env'} : andT [ta] env st = ta env st := by first | exact Eq.trans (Eq.refl _) (Eq.refl _)
theorem andT_2 : andT (ta :: tb :: ts) (x :: e) st = (ta (x :: e) st).bind fun k st => match k with
  | true => andT (tb :: ts) (x :: e) st
  | false => .val false st := by first | exact Eq.trans (Eq.refl _) (Eq.refl _)
theorem andE_1 {env : Env'} : andE [fa] env st = fa env st := by first | exact Eq.trans (Eq.refl _) (Eq.refl _)
theorem andE_2 : andE (fa :: fb :: fs) (x :: e) st = (fa (x :: e) st).bind fun x' st => (truO x' st).bind fun k st => match k with
  | true => andE (fb :: fs) (x :: e) st
  | false => .val x' st := by first | exact Eq.trans (Eq.refl _) (Eq.refl _)
theorem orE_1 {env : Env'} : orE [fa] env st = fa env st := by first | exact Eq.trans (Eq.refl _) (Eq.refl _)
theorem orE_2 : orE (fa :: fb :: fs) (x :: e) st = (fa (x :: e) st).bind fun x' st => (truO x' st).bind fun k st => match k with
  | true => .val x' st
  | false => orE (fb :: fs) (x :: e) st := by first | exact Eq.trans (Eq.refl _) (Eq.refl _)
theorem atN_ {k : Nat} {ds : List D} (h : ds.length = k) : atN k H ds st = H ds st := if_pos h
theorem ofP_ : ofP (some d) st = .val d st := by first | exact Eq.trans (Eq.refl _) (Eq.refl _)
theorem fin_rt : (SOut.rt d st).fin = .val d st := by first | exact Eq.trans (Eq.refl _) (Eq.refl _)
theorem fin_nx {env : Env'} : (SOut.nx env st).fin = .val .non st := by first | exact Eq.trans (Eq.refl _) (Eq.refl _)
theorem mkL_f {ds : List D} : mkL false ds st = .val (.ro ds) st := by first | exact Eq.trans (Eq.refl _) (Eq.refl _)
theorem mkL_t {ds : List D} : mkL true ds st = .val (.obj st.length) (st ++ [.lst ds]) := by first | exact Eq.trans (Eq.refl _) (Eq.refl _)
theorem mkLs_ {ds : List D} (h : ds.length ≤ 1000) : mkLs b ds st = mkL b ds st := if_pos (Nat.le_trans h (by rw [sizeLine_eq]; decide))
theorem mkT_ {ds : List D} (h : ds.length ≤ 1000) : mkT ds st = .val (.tup ds) st := if_pos (Nat.le_trans h (by rw [sizeLine_eq]; decide))
theorem asgB_ {t : D → Env' → Option Env'} {env env2 : Env'} (h : t d env = some env2) : asgB t f d env st = f env2 st := asgB_some h
end
end L2.Ev

set_option maxHeartbeats 0
/-! The law's text as data; its head. -/
namespace L2.Ev.k61
open PySem PySem.Spec PyProof.Rows L2
abbrev R : PySem.W.OpenRow := PySem.W.OpenLaw.row PySem.Challenge.rw_somesuchthing_k61_every_error_by_itself
def top (i : Nat) : Stmt := PySem.Challenge.pw_somesuchthing_k61_every_error_by_itself.main.body.getD i (.Pass ⟨0, 0, 0, 0⟩)
def nm0 : List PySem.Str := [("__name__" : PySem.Str), ("SayError" : PySem.Str), ("BadSpeech" : PySem.Str), ("NoSpeech" : PySem.Str), ("NoName" : PySem.Str), ("BadTerm" : PySem.Str), ("BadSaying" : PySem.Str), ("BadWord" : PySem.Str), ("BadName" : PySem.Str), ("BadPairs" : PySem.Str), ("BadText" : PySem.Str), ("TooMany" : PySem.Str), ("BadWorld" : PySem.Str), ("BadLetters" : PySem.Str), ("BadFacts" : PySem.Str), ("BadSayings" : PySem.Str), ("BadTree" : PySem.Str), ("BadSuch" : PySem.Str), ("BadCriticals" : PySem.Str), ("BadProof" : PySem.Str), ("BadLines" : PySem.Str), ("BadLine" : PySem.Str), ("BadState" : PySem.Str), ("NotSome" : PySem.Str), ("BadRows" : PySem.Str), ("BadRow" : PySem.Str), ("NoCases" : PySem.Str), ("NotFront" : PySem.Str), ("NotPlain" : PySem.Str), ("BadList" : PySem.Str), ("BadDerivation" : PySem.Str), ("BadLots" : PySem.Str), ("BadRules" : PySem.Str), ("BadCase" : PySem.Str), ("NotOpen" : PySem.Str), ("BadCases" : PySem.Str), ("BadNumber" : PySem.Str), ("BadDeed" : PySem.Str), ("Unlike" : PySem.Str), ("Full" : PySem.Str)]
def nm1 : List PySem.Str := [("Late" : PySem.Str), ("BadPledge" : PySem.Str), ("NotSo" : PySem.Str), ("Known" : PySem.Str), ("BadNotes" : PySem.Str), ("NothingToUndo" : PySem.Str), ("NothingToRedo" : PySem.Str), ("NoTrial" : PySem.Str), ("NoBench" : PySem.Str), ("BadJournal" : PySem.Str), ("BadFolk" : PySem.Str), ("BadNames" : PySem.Str), ("BadOrder" : PySem.Str), ("BadTerms" : PySem.Str), ("_law_pot" : PySem.Str), ("_law_take" : PySem.Str), ("_law_cells" : PySem.Str), ("_law_of" : PySem.Str), ("_law_made" : PySem.Str), ("_law_kinds" : PySem.Str), ("_law_right" : PySem.Str)]
def names : List PySem.Str := nm0 ++ nm1
def er0 : List PySem.Str := [("SayError" : PySem.Str), ("BadSpeech" : PySem.Str), ("NoSpeech" : PySem.Str), ("NoName" : PySem.Str), ("BadTerm" : PySem.Str), ("BadSaying" : PySem.Str), ("BadWord" : PySem.Str), ("BadName" : PySem.Str), ("BadPairs" : PySem.Str), ("BadText" : PySem.Str), ("TooMany" : PySem.Str), ("BadWorld" : PySem.Str), ("BadLetters" : PySem.Str), ("BadFacts" : PySem.Str), ("BadSayings" : PySem.Str), ("BadTree" : PySem.Str), ("BadSuch" : PySem.Str), ("BadCriticals" : PySem.Str), ("BadProof" : PySem.Str), ("BadLines" : PySem.Str), ("BadLine" : PySem.Str), ("BadState" : PySem.Str), ("NotSome" : PySem.Str), ("BadRows" : PySem.Str), ("BadRow" : PySem.Str), ("NoCases" : PySem.Str), ("NotFront" : PySem.Str), ("NotPlain" : PySem.Str), ("BadList" : PySem.Str), ("BadDerivation" : PySem.Str), ("BadLots" : PySem.Str), ("BadRules" : PySem.Str), ("BadCase" : PySem.Str), ("NotOpen" : PySem.Str), ("BadCases" : PySem.Str), ("BadNumber" : PySem.Str), ("BadDeed" : PySem.Str), ("Unlike" : PySem.Str), ("Full" : PySem.Str), ("Late" : PySem.Str)]
def er1 : List PySem.Str := [("BadPledge" : PySem.Str), ("NotSo" : PySem.Str), ("Known" : PySem.Str), ("BadNotes" : PySem.Str), ("NothingToUndo" : PySem.Str), ("NothingToRedo" : PySem.Str), ("NoTrial" : PySem.Str), ("NoBench" : PySem.Str), ("BadJournal" : PySem.Str), ("BadFolk" : PySem.Str), ("BadNames" : PySem.Str), ("BadOrder" : PySem.Str), ("BadTerms" : PySem.Str)]
def errs : List PySem.Str := er0 ++ er1
def d__law_pot : Df := { name := ("_law_pot" : PySem.Str), params := defArgs (top 55), body := defBody (top 55), scope := defScope (top 55), N := [("script" : PySem.Str), ("place" : PySem.Str), ("cell" : PySem.Str), ("own" : PySem.Str), ("small" : PySem.Str)], ps := [("script" : PySem.Str), ("place" : PySem.Str)] }
def d__law_take : Df := { name := ("_law_take" : PySem.Str), params := defArgs (top 56), body := defBody (top 56), scope := defScope (top 56), N := [("pot" : PySem.Str), ("upto" : PySem.Str), ("digit" : PySem.Str), ("prime" : PySem.Str), ("blend" : PySem.Str)], ps := [("pot" : PySem.Str), ("upto" : PySem.Str)] }
def d__law_cells : Df := { name := ("_law_cells" : PySem.Str), params := defArgs (top 57), body := defBody (top 57), scope := defScope (top 57), N := [("script" : PySem.Str), ("upto" : PySem.Str)], ps := [("script" : PySem.Str), ("upto" : PySem.Str)] }
def d__law_of : Df := { name := ("_law_of" : PySem.Str), params := defArgs (top 58), body := defBody (top 58), scope := defScope (top 58), N := [("pot" : PySem.Str), ("some" : PySem.Str)], ps := [("pot" : PySem.Str), ("some" : PySem.Str)] }
def d__law_made : Df := { name := ("_law_made" : PySem.Str), params := defArgs (top 59), body := defBody (top 59), scope := defScope (top 59), N := [("value" : PySem.Str), ("found" : PySem.Str)], ps := [("value" : PySem.Str)] }
def d__law_kinds : Df := { name := ("_law_kinds" : PySem.Str), params := defArgs (top 60), body := defBody (top 60), scope := defScope (top 60), N := [("caught" : PySem.Str), ("found" : PySem.Str)], ps := [("caught" : PySem.Str)] }
def d__law_right : Df := { name := ("_law_right" : PySem.Str), params := defArgs (top 61), body := defBody (top 61), scope := defScope (top 61), N := [("pot" : PySem.Str), ("values" : PySem.Str), ("value" : PySem.Str), ("kept" : PySem.Str), ("errors" : PySem.Str), ("at" : PySem.Str), ("error" : PySem.Str), ("base" : PySem.Str), ("to" : PySem.Str)], ps := [("pot" : PySem.Str)] }
def d_law : Df := { name := ("law" : PySem.Str), params := defArgs (top 62), body := defBody (top 62), scope := defScope (top 62), N := [("script" : PySem.Str), ("place" : PySem.Str), ("pot" : PySem.Str), ("lap" : PySem.Str)], ps := [("script" : PySem.Str)] }
def fns : List (PySem.Str × Df) := [(("_law_pot" : PySem.Str), d__law_pot), (("_law_take" : PySem.Str), d__law_take), (("_law_cells" : PySem.Str), d__law_cells), (("_law_of" : PySem.Str), d__law_of), (("_law_made" : PySem.Str), d__law_made), (("_law_kinds" : PySem.Str), d__law_kinds), (("_law_right" : PySem.Str), d__law_right), (("law" : PySem.Str), d_law)]
def free : List PySem.Str := [("len" : PySem.Str), ("isinstance" : PySem.Str), ("int" : PySem.Str), ("abs" : PySem.Str), ("max" : PySem.Str), ("min" : PySem.Str), ("sum" : PySem.Str), ("any" : PySem.Str), ("all" : PySem.Str), ("repr" : PySem.Str), ("list" : PySem.Str), ("range" : PySem.Str), ("enumerate" : PySem.Str), ("ValueError" : PySem.Str)]
def hd : Hd := { errs := errs, free := free, fns := fns, file := "/claim/cut.py", pos := ⟨⟨4, 17, 4, 21⟩, ⟨4, 23, 4, 28⟩, ⟨5, 8, 5, 13⟩, ⟨5, 8, 5, 15⟩, ⟨5, 8, 5, 24⟩, ⟨5, 25, 5, 30⟩, ⟨5, 8, 5, 31⟩, ⟨5, 8, 5, 31⟩, ⟨6, 8, 6, 12⟩, ⟨6, 8, 6, 18⟩, ⟨6, 21, 6, 26⟩, ⟨6, 8, 6, 26⟩⟩ }
abbrev hk : PySem.W.Hook := hd.hook 5
def ob (s : PySem.W.SharedT) : AlV := hd.obsG 5 (HandSHeadRun.getT s)
theorem ob_eq (s : PySem.W.SharedT) : ob s = hk.obs s.abs := Hd.obsG_eq (HandSHeadRun.getT_eq s)
theorem run (w : World) : HandSHeadRun.RunEq R (PySem.W.view R.prog [62]) hk ob 20000 names w := by
  intro os
  kernel_rfl
theorem p__law_pot : DfP d__law_pot := ⟨scopeB_ok (by decide +kernel), fun _ _ _ _ _ _ us hl => match us, hl with
  | [_, _], _ => rfl⟩
theorem p__law_take : DfP d__law_take := ⟨scopeB_ok (by decide +kernel), fun _ _ _ _ _ _ us hl => match us, hl with
  | [_, _], _ => rfl⟩
theorem p__law_cells : DfP d__law_cells := ⟨scopeB_ok (by decide +kernel), fun _ _ _ _ _ _ us hl => match us, hl with
  | [_, _], _ => rfl⟩
theorem p__law_of : DfP d__law_of := ⟨scopeB_ok (by decide +kernel), fun _ _ _ _ _ _ us hl => match us, hl with
  | [_, _], _ => rfl⟩
theorem p__law_made : DfP d__law_made := ⟨scopeB_ok (by decide +kernel), fun _ _ _ _ _ _ us hl => match us, hl with
  | [_], _ => rfl⟩
theorem p__law_kinds : DfP d__law_kinds := ⟨scopeB_ok (by decide +kernel), fun _ _ _ _ _ _ us hl => match us, hl with
  | [_], _ => rfl⟩
theorem p__law_right : DfP d__law_right := ⟨scopeB_ok (by decide +kernel), fun _ _ _ _ _ _ us hl => match us, hl with
  | [_], _ => rfl⟩
theorem p_law : DfP d_law := ⟨scopeB_ok (by decide +kernel), fun _ _ _ _ _ _ us hl => match us, hl with
  | [_], _ => rfl⟩
theorem fnsP : ∀ p ∈ fns, DfP p.2 := by
  intro p hp
  simp only [fns, List.mem_cons, List.not_mem_nil, or_false] at hp
  rcases hp with rfl | rfl | rfl | rfl | rfl | rfl | rfl | rfl
  · exact p__law_pot
  · exact p__law_take
  · exact p__law_cells
  · exact p__law_of
  · exact p__law_made
  · exact p__law_kinds
  · exact p__law_right
  · exact p_law
end L2.Ev.k61

/-! The law's defs as evaluations, printed. -/
namespace L2.Ev.k61
open PySem PySem.Spec PyProof.Rows L2
def muL : List Pos := [⟨116, 11, 116, 92⟩, ⟨132, 12, 132, 14⟩, ⟨146, 12, 146, 14⟩]
def frL : List Pos := [⟨144, 4, 144, 16⟩, ⟨165, 4, 165, 16⟩]
def c : Cfg := hd.cfg (fun p => decide (p ∈ muL)) (fun p => decide (p ∈ frL))
def F (k : Nat) : Fn := Φs c 60 k
def B__law_pot (k : Nat) : Env' → Sto → SOut := (seqS (setS 2 (iteE (cmpT dLt (ofEnv 1) (callV [(ofEnv 0)] fLen)) (binE dIx (ofEnv 0) (ofEnv 1)) (binE dAdd (binE dAdd (binE dMod (callV [(slE false (ofEnv 0) noO (paO (kE (.int 1))))] fSum) (kE (.int 1000003))) (binE dMul (kE (.int 59519)) (ofEnv 1))) (kE (.int 62517))))) (seqS (setS 3 (binE dMul (binE dMod (callV [(callV [(ofEnv 2)] fAbs)] fInt) (binE dPow (binE dPow (kE (.int 10)) (kE (.int 60))) (kE (.int 5)))) (callV [(binE dGe (callV [(ofEnv 2)] fAbs) (binE dPow (kE (.int 10)) (kE (.int 18))))] fInt))) (seqS (setS 4 (binE dMod (callV [(ofEnv 2)] fInt) (kE (.int 2305843009213693951)))) (seqS (retS (lstE true [(ofEnv 3), (binE dMod (callV [(binE dAdd (binE dAdd (binE dMul (ofEnv 4) (kE (.int 46733))) (binE dMul (binE dMul (kE (.int 5799)) (ofEnv 1)) (ofEnv 1))) (kE (.int 50297)))] fInt) (kE (.int 2305843009213693921))), (kE (.int 0))])) nxS))))
theorem b__law_pot (k : Nat) : cSs c (F k) 60 ⟨d__law_pot.N, d__law_pot.scope⟩ d__law_pot.body = B__law_pot k := by kernel_rfl
theorem f__law_pot (k : Nat) : F (k + 1) "_law_pot" = callF 5 (B__law_pot k) := by
  rw [← b__law_pot k]
  kernel_rfl
def B__law_take (k : Nat) : Env' → Sto → SOut := (seqS (ifS (cmpT dGt (binE dIx (ofEnv 0) (kE (.int 0))) (kE (.int 0))) (seqS (setS 2 (binE dMod (callV [(binE dIx (ofEnv 0) (kE (.int 0)))] fInt) (ofEnv 1))) (seqS (setIxS (binE dFdv (binE dIx (ofEnv 0) (kE (.int 0))) (ofEnv 1)) (ofEnv 0) (kE (.int 0))) (seqS (retS (ofEnv 2)) nxS))) nxS) (seqS (setIxS (binE dAdd (binE dIx (ofEnv 0) (kE (.int 2))) (kE (.int 1))) (ofEnv 0) (kE (.int 2))) (seqS (setS 3 (binE dIx (lstE false [(kE (.int 2147483647)), (kE (.int 2147483629)), (kE (.int 2147483587)), (kE (.int 2147483579)), (kE (.int 2147483563))]) (binE dMod (callV [(binE dIx (ofEnv 0) (kE (.int 2)))] fInt) (kE (.int 5))))) (seqS (setS 4 (binE dMod (callV [(binE dPow (callV [(binE dAdd (binE dAdd (binE dIx (ofEnv 0) (kE (.int 1))) (binE dMul (binE dMul (kE (.int 65334)) (binE dIx (ofEnv 0) (kE (.int 2)))) (binE dIx (ofEnv 0) (kE (.int 2))))) (kE (.int 58942)))] fInt) (kE (.int 3)))] fInt) (ofEnv 3))) (seqS (setS 4 (binE dMod (callV [(binE dMul (ofEnv 4) (binE dAdd (binE dMod (callV [(ofEnv 4)] fInt) (kE (.int 14344))) (binE dMul (kE (.int 47583)) (binE dIx (ofEnv 0) (kE (.int 2))))))] fInt) (kE (.int 2305843009213693907)))) (seqS (retS (binE dMod (callV [(binE dFdv (ofEnv 4) (kE (.int 9973)))] fInt) (ofEnv 1))) nxS))))))
theorem b__law_take (k : Nat) : cSs c (F k) 60 ⟨d__law_take.N, d__law_take.scope⟩ d__law_take.body = B__law_take k := by kernel_rfl
theorem f__law_take (k : Nat) : F (k + 1) "_law_take" = callF 5 (B__law_take k) := by
  rw [← b__law_take k]
  kernel_rfl
def B__law_cells (k : Nat) : Env' → Sto → SOut := (seqS (retS (lrgE1 false (callV [(kE (.int 1)), (callV [(ofEnv 1), (callV [(ofEnv 0)] fLen)] fMin)] fMax))) nxS)
theorem b__law_cells (k : Nat) : cSs c (F k) 60 ⟨d__law_cells.N, d__law_cells.scope⟩ d__law_cells.body = B__law_cells k := by kernel_rfl
theorem f__law_cells (k : Nat) : F (k + 1) "_law_cells" = callF 2 (B__law_cells k) := by
  rw [← b__law_cells k]
  kernel_rfl
def B__law_of (k : Nat) : Env' → Sto → SOut := (seqS (retS (binE dIx (ofEnv 1) (callE' [(ofEnv 0), (callV [(ofEnv 1)] fLen)] (atN 2 (F k "_law_take"))))) nxS)
theorem b__law_of (k : Nat) : cSs c (F k) 60 ⟨d__law_of.N, d__law_of.scope⟩ d__law_of.body = B__law_of k := by kernel_rfl
theorem f__law_of (k : Nat) : F (k + 1) "_law_of" = callF 2 (B__law_of k) := by
  rw [← b__law_of k]
  kernel_rfl
def B__law_made (k : Nat) : Env' → Sto → SOut := (seqS (setS 1 (lstE true [])) (seqS (exprS (mthE (ofEnv 1) [(lstE false [(callE' [(ofEnv 0)] (fSay "BadSpeech")), (callE' [(ofEnv 0)] (fSay "NoSpeech")), (callE' [(ofEnv 0)] (fSay "NoName")), (callE' [(ofEnv 0)] (fSay "BadTerm")), (callE' [(ofEnv 0)] (fSay "BadSaying"))])] mExt)) (seqS (exprS (mthE (ofEnv 1) [(lstE false [(callE' [(ofEnv 0)] (fSay "BadWord")), (callE' [(ofEnv 0)] (fSay "BadName")), (callE' [(ofEnv 0)] (fSay "BadPairs")), (callE' [(ofEnv 0)] (fSay "BadText")), (callE' [(ofEnv 0)] (fSay "TooMany"))])] mExt)) (seqS (exprS (mthE (ofEnv 1) [(lstE false [(callE' [(ofEnv 0)] (fSay "BadWorld")), (callE' [(ofEnv 0)] (fSay "BadLetters")), (callE' [(ofEnv 0)] (fSay "BadFacts")), (callE' [(ofEnv 0)] (fSay "BadSayings")), (callE' [(ofEnv 0)] (fSay "BadTree"))])] mExt)) (seqS (exprS (mthE (ofEnv 1) [(lstE false [(callE' [(ofEnv 0)] (fSay "BadSuch")), (callE' [(ofEnv 0)] (fSay "BadCriticals")), (callE' [(ofEnv 0)] (fSay "BadProof")), (callE' [(ofEnv 0)] (fSay "BadLines")), (callE' [(ofEnv 0)] (fSay "BadLine"))])] mExt)) (seqS (exprS (mthE (ofEnv 1) [(lstE false [(callE' [(ofEnv 0)] (fSay "BadState")), (callE' [(ofEnv 0)] (fSay "NotSome")), (callE' [(ofEnv 0)] (fSay "BadRows")), (callE' [(ofEnv 0)] (fSay "BadRow")), (callE' [(ofEnv 0)] (fSay "NoCases"))])] mExt)) (seqS (exprS (mthE (ofEnv 1) [(lstE false [(callE' [(ofEnv 0)] (fSay "NotFront")), (callE' [(ofEnv 0)] (fSay "NotPlain")), (callE' [(ofEnv 0)] (fSay "BadList")), (callE' [(ofEnv 0)] (fSay "BadDerivation")), (callE' [(ofEnv 0)] (fSay "BadLots"))])] mExt)) (seqS (exprS (mthE (ofEnv 1) [(lstE false [(callE' [(ofEnv 0)] (fSay "BadRules")), (callE' [(ofEnv 0)] (fSay "BadCase")), (callE' [(ofEnv 0)] (fSay "NotOpen")), (callE' [(ofEnv 0)] (fSay "BadCases")), (callE' [(ofEnv 0)] (fSay "BadNumber"))])] mExt)) (seqS (exprS (mthE (ofEnv 1) [(lstE false [(callE' [(ofEnv 0)] (fSay "BadDeed")), (callE' [(ofEnv 0)] (fSay "Unlike")), (callE' [(ofEnv 0)] (fSay "Full")), (callE' [(ofEnv 0)] (fSay "Late")), (callE' [(ofEnv 0)] (fSay "BadPledge"))])] mExt)) (seqS (exprS (mthE (ofEnv 1) [(lstE false [(callE' [(ofEnv 0)] (fSay "NotSo")), (callE' [(ofEnv 0)] (fSay "Known")), (callE' [(ofEnv 0)] (fSay "BadNotes")), (callE' [(ofEnv 0)] (fSay "NothingToUndo")), (callE' [(ofEnv 0)] (fSay "NothingToRedo"))])] mExt)) (seqS (exprS (mthE (ofEnv 1) [(lstE false [(callE' [(ofEnv 0)] (fSay "NoTrial")), (callE' [(ofEnv 0)] (fSay "NoBench")), (callE' [(ofEnv 0)] (fSay "BadJournal")), (callE' [(ofEnv 0)] (fSay "BadFolk")), (callE' [(ofEnv 0)] (fSay "BadNames"))])] mExt)) (seqS (exprS (mthE (ofEnv 1) [(lstE false [(callE' [(ofEnv 0)] (fSay "BadOrder")), (callE' [(ofEnv 0)] (fSay "BadTerms"))])] mExt)) (seqS (retS (frzE (ofEnv 1))) nxS)))))))))))))
theorem b__law_made (k : Nat) : cSs c (F k) 60 ⟨d__law_made.N, d__law_made.scope⟩ d__law_made.body = B__law_made k := by kernel_rfl
theorem f__law_made (k : Nat) : F (k + 1) "_law_made" = callF 2 (B__law_made k) := by
  rw [← b__law_made k]
  kernel_rfl
def B__law_kinds (k : Nat) : Env' → Sto → SOut := (seqS (setS 1 (lstE true [])) (seqS (exprS (mthE (ofEnv 1) [(lstE false [(callV [(ofEnv 0), (kE (.glo "BadSpeech"))] (fIsi c.isE c.kit)), (callV [(ofEnv 0), (kE (.glo "NoSpeech"))] (fIsi c.isE c.kit)), (callV [(ofEnv 0), (kE (.glo "NoName"))] (fIsi c.isE c.kit))])] mExt)) (seqS (exprS (mthE (ofEnv 1) [(lstE false [(callV [(ofEnv 0), (kE (.glo "BadTerm"))] (fIsi c.isE c.kit)), (callV [(ofEnv 0), (kE (.glo "BadSaying"))] (fIsi c.isE c.kit)), (callV [(ofEnv 0), (kE (.glo "BadWord"))] (fIsi c.isE c.kit))])] mExt)) (seqS (exprS (mthE (ofEnv 1) [(lstE false [(callV [(ofEnv 0), (kE (.glo "BadName"))] (fIsi c.isE c.kit)), (callV [(ofEnv 0), (kE (.glo "BadPairs"))] (fIsi c.isE c.kit)), (callV [(ofEnv 0), (kE (.glo "BadText"))] (fIsi c.isE c.kit))])] mExt)) (seqS (exprS (mthE (ofEnv 1) [(lstE false [(callV [(ofEnv 0), (kE (.glo "TooMany"))] (fIsi c.isE c.kit)), (callV [(ofEnv 0), (kE (.glo "BadWorld"))] (fIsi c.isE c.kit)), (callV [(ofEnv 0), (kE (.glo "BadLetters"))] (fIsi c.isE c.kit))])] mExt)) (seqS (exprS (mthE (ofEnv 1) [(lstE false [(callV [(ofEnv 0), (kE (.glo "BadFacts"))] (fIsi c.isE c.kit)), (callV [(ofEnv 0), (kE (.glo "BadSayings"))] (fIsi c.isE c.kit)), (callV [(ofEnv 0), (kE (.glo "BadTree"))] (fIsi c.isE c.kit))])] mExt)) (seqS (exprS (mthE (ofEnv 1) [(lstE false [(callV [(ofEnv 0), (kE (.glo "BadSuch"))] (fIsi c.isE c.kit)), (callV [(ofEnv 0), (kE (.glo "BadCriticals"))] (fIsi c.isE c.kit)), (callV [(ofEnv 0), (kE (.glo "BadProof"))] (fIsi c.isE c.kit))])] mExt)) (seqS (exprS (mthE (ofEnv 1) [(lstE false [(callV [(ofEnv 0), (kE (.glo "BadLines"))] (fIsi c.isE c.kit)), (callV [(ofEnv 0), (kE (.glo "BadLine"))] (fIsi c.isE c.kit)), (callV [(ofEnv 0), (kE (.glo "BadState"))] (fIsi c.isE c.kit))])] mExt)) (seqS (exprS (mthE (ofEnv 1) [(lstE false [(callV [(ofEnv 0), (kE (.glo "NotSome"))] (fIsi c.isE c.kit)), (callV [(ofEnv 0), (kE (.glo "BadRows"))] (fIsi c.isE c.kit)), (callV [(ofEnv 0), (kE (.glo "BadRow"))] (fIsi c.isE c.kit))])] mExt)) (seqS (exprS (mthE (ofEnv 1) [(lstE false [(callV [(ofEnv 0), (kE (.glo "NoCases"))] (fIsi c.isE c.kit)), (callV [(ofEnv 0), (kE (.glo "NotFront"))] (fIsi c.isE c.kit)), (callV [(ofEnv 0), (kE (.glo "NotPlain"))] (fIsi c.isE c.kit))])] mExt)) (seqS (exprS (mthE (ofEnv 1) [(lstE false [(callV [(ofEnv 0), (kE (.glo "BadList"))] (fIsi c.isE c.kit)), (callV [(ofEnv 0), (kE (.glo "BadDerivation"))] (fIsi c.isE c.kit)), (callV [(ofEnv 0), (kE (.glo "BadLots"))] (fIsi c.isE c.kit))])] mExt)) (seqS (exprS (mthE (ofEnv 1) [(lstE false [(callV [(ofEnv 0), (kE (.glo "BadRules"))] (fIsi c.isE c.kit)), (callV [(ofEnv 0), (kE (.glo "BadCase"))] (fIsi c.isE c.kit)), (callV [(ofEnv 0), (kE (.glo "NotOpen"))] (fIsi c.isE c.kit))])] mExt)) (seqS (exprS (mthE (ofEnv 1) [(lstE false [(callV [(ofEnv 0), (kE (.glo "BadCases"))] (fIsi c.isE c.kit)), (callV [(ofEnv 0), (kE (.glo "BadNumber"))] (fIsi c.isE c.kit)), (callV [(ofEnv 0), (kE (.glo "BadDeed"))] (fIsi c.isE c.kit))])] mExt)) (seqS (exprS (mthE (ofEnv 1) [(lstE false [(callV [(ofEnv 0), (kE (.glo "Unlike"))] (fIsi c.isE c.kit)), (callV [(ofEnv 0), (kE (.glo "Full"))] (fIsi c.isE c.kit)), (callV [(ofEnv 0), (kE (.glo "Late"))] (fIsi c.isE c.kit))])] mExt)) (seqS (exprS (mthE (ofEnv 1) [(lstE false [(callV [(ofEnv 0), (kE (.glo "BadPledge"))] (fIsi c.isE c.kit)), (callV [(ofEnv 0), (kE (.glo "NotSo"))] (fIsi c.isE c.kit)), (callV [(ofEnv 0), (kE (.glo "Known"))] (fIsi c.isE c.kit))])] mExt)) (seqS (exprS (mthE (ofEnv 1) [(lstE false [(callV [(ofEnv 0), (kE (.glo "BadNotes"))] (fIsi c.isE c.kit)), (callV [(ofEnv 0), (kE (.glo "NothingToUndo"))] (fIsi c.isE c.kit)), (callV [(ofEnv 0), (kE (.glo "NothingToRedo"))] (fIsi c.isE c.kit))])] mExt)) (seqS (exprS (mthE (ofEnv 1) [(lstE false [(callV [(ofEnv 0), (kE (.glo "NoTrial"))] (fIsi c.isE c.kit)), (callV [(ofEnv 0), (kE (.glo "NoBench"))] (fIsi c.isE c.kit)), (callV [(ofEnv 0), (kE (.glo "BadJournal"))] (fIsi c.isE c.kit))])] mExt)) (seqS (exprS (mthE (ofEnv 1) [(lstE false [(callV [(ofEnv 0), (kE (.glo "BadFolk"))] (fIsi c.isE c.kit)), (callV [(ofEnv 0), (kE (.glo "BadNames"))] (fIsi c.isE c.kit)), (callV [(ofEnv 0), (kE (.glo "BadOrder"))] (fIsi c.isE c.kit))])] mExt)) (seqS (exprS (mthE (ofEnv 1) [(lstE false [(callV [(ofEnv 0), (kE (.glo "BadTerms"))] (fIsi c.isE c.kit))])] mExt)) (seqS (retS (frzE (ofEnv 1))) nxS))))))))))))))))))))
theorem b__law_kinds (k : Nat) : cSs c (F k) 60 ⟨d__law_kinds.N, d__law_kinds.scope⟩ d__law_kinds.body = B__law_kinds k := by kernel_rfl
theorem f__law_kinds (k : Nat) : F (k + 1) "_law_kinds" = callF 2 (B__law_kinds k) := by
  rw [← b__law_kinds k]
  kernel_rfl
def B__law_right (k : Nat) : Env' → Sto → SOut := (seqS (setS 1 (lstE false [(kE .non), (kE (.bl true)), (kE (.int 0)), (kE (.int 1)), (kE (.str "")), (kE (.str "a")), (tupE []), (tupE [(kE (.str "a")), (kE (.int 1))]), (lstE false []), (lstE false [(kE (.int 1)), (tupE [(kE (.int 2))])]), (dctE [((kE (.str "a")), (kE (.int 1)))]), (binE dSub (callV [(callE' [(ofEnv 0), (kE (.int 1000))] (atN 2 (F k "_law_take")))] fInt) (kE (.int 500)))])) (seqS (setS 2 (callE' [(ofEnv 0), (ofEnv 1)] (atN 2 (F k "_law_of")))) (seqS (setS 3 (callV [(ofEnv 2)] fRepr)) (seqS (setS 4 (callE' [(ofEnv 2)] (atN 1 (F k "_law_made")))) (seqS (forS (srcA srcEnum [(ofEnv 4)]) (asgB (tgTup 2 (tgCons (tgName 5) (tgCons (tgName 6) tgNil))) (seqS (ifS (orT [(cmpT dNe (callV [(attE c (ofEnv 6))] fRepr) (ofEnv 3)), (notT (truT (callV [(ofEnv 6), (kE (.glo "SayError"))] (fIsi c.isE c.kit)))), (notT (truT (callV [(ofEnv 6), (kE (.ty "ValueError"))] (fIsi c.isE c.kit))))]) (seqS (retS (kE (.bl false))) nxS) nxS) (seqS (ifS (cmpT dNe (callE' [(ofEnv 6)] (atN 1 (F k "_law_kinds"))) (lcE false (srcA srcRng1 [(callV [(ofEnv 4)] fLen)]) (tgName 8) yesT (binE dEq (ofEnv 8) (ofEnv 5)) [8])) (seqS (retS (kE (.bl false))) nxS) nxS) nxS)))) (seqS (setS 7 (callE' [(ofEnv 2)] (fSay "SayError"))) (seqS (ifS (orT [(cmpT dNe (callV [(attE c (ofEnv 7))] fRepr) (ofEnv 3)), (notT (truT (callV [(ofEnv 7), (kE (.ty "ValueError"))] (fIsi c.isE c.kit)))), (truT (callV [(callE' [(ofEnv 7)] (atN 1 (F k "_law_kinds")))] fAny))]) (seqS (retS (kE (.bl false))) nxS) nxS) (seqS (retS (andE [(binE dEq (callV [(ofEnv 4)] fLen) (kE (.int 52))), (binE dEq (callV [(ofEnv 2)] fRepr) (ofEnv 3))])) nxS))))))))
theorem b__law_right (k : Nat) : cSs c (F k) 60 ⟨d__law_right.N, d__law_right.scope⟩ d__law_right.body = B__law_right k := by kernel_rfl
theorem f__law_right (k : Nat) : F (k + 1) "_law_right" = callF 9 (B__law_right k) := by
  rw [← b__law_right k]
  kernel_rfl
def B_law (k : Nat) : Env' → Sto → SOut := (seqS (forS (srcE (callE' [(ofEnv 0), (kE (.int 2))] (atN 2 (F k "_law_cells")))) (asgB (tgName 1) (seqS (setS 2 (callE' [(ofEnv 0), (ofEnv 1)] (atN 2 (F k "_law_pot")))) (seqS (ifS (notT (truT (callV [(lcE false (srcA srcRng1 [(kE (.int 3))]) (tgName 3) yesT (callE' [(ofEnv 2)] (atN 1 (F k "_law_right"))) [3])] fAll))) (seqS (retS (kE (.bl false))) nxS) nxS) nxS)))) (seqS (retS (kE (.bl true))) nxS))
theorem b_law (k : Nat) : cSs c (F k) 60 ⟨d_law.N, d_law.scope⟩ d_law.body = B_law k := by kernel_rfl
theorem f_law (k : Nat) : F (k + 1) "law" = callF 4 (B_law k) := by
  rw [← b_law k]
  kernel_rfl
end L2.Ev.k61

set_option maxHeartbeats 4000000
namespace L2.Ev.k61
open PySem PySem.Spec PyProof.Rows L2
theorem take_pos {k : Nat} {st : Sto} {p : Nat} {a b n u : Int} (h : st[p]? = some (.lst [.int a, .int b, .int n])) (ha : 0 < a) (hu : 0 < u) (hu2 : u < 1073741824) :
    F (k + 1) "_law_take" [.obj p, .int u] st = .val (.int (a % u)) (st.set p (.lst [.int (a / u), .int b, .int n])) := by
  have hl : u.natAbs.log2 < 9000 := Nat.lt_trans (log_lt (n := 30) (by omega) (by omega)) (by omega)
  rw [f__law_take]
  unfold callF
  simp only [env0, B__law_take, seqS, ifS, cmpT, binE, ofEnv, getS, kE, bind_val, toS_val, pure_val, dIx_obj h, List.map_cons, List.map_nil, List.length_cons, List.length_nil, List.cons_append, List.nil_append, List.getElem?_cons_zero, List.getElem?_cons_succ, List.replicate]
  rw [show atI [D.int a, D.int b, D.int n] 0 = some (.int a) from rfl]
  simp only [ofP, bind_val, pure_val, dGt_ii, chk_b, toS_val, decide_eq_true ha, setS, binE, callV, evs, ofEnv, getS, kE, dIx_obj h, List.getElem?_cons_zero, List.getElem?_cons_succ]
  rw [show atI [D.int a, D.int b, D.int n] 0 = some (.int a) from rfl]
  simp only [ofP, bind_val, pure_val, toS_val, fInt_i, dMod_ii hu, setIxS, binE, ofEnv, getS, kE, dIx_obj h, List.set_cons_succ, List.set_cons_zero, List.getElem?_cons_zero, List.getElem?_cons_succ]
  rw [show atI [D.int a, D.int b, D.int n] 0 = some (.int a) from rfl]
  simp only [ofP, bind_val, pure_val, toS_val, dFdv_ii ⟨hu, hl⟩]
  rw [dSet_obj (j := 0) h rfl]
  simp only [retS, ofEnv, getS, toS_val, SOut.fin, List.set_cons_succ, List.set_cons_zero, List.getElem?_cons_zero, List.getElem?_cons_succ]
  exact gc_len (o := .bad) (by simp)

theorem prime_at {i : Int} (h0 : 0 ≤ i) (h5 : i < 5) : ∃ q : Int, atI [D.int 2147483647, D.int 2147483629, D.int 2147483587, D.int 2147483579, D.int 2147483563] i = some (.int q) ∧ 0 < q ∧ q < 2147483648 := by
  have : i = 0 ∨ i = 1 ∨ i = 2 ∨ i = 3 ∨ i = 4 := by omega
  rcases this with rfl | rfl | rfl | rfl | rfl
  · exact ⟨2147483647, rfl, by omega, by omega⟩
  · exact ⟨2147483629, rfl, by omega, by omega⟩
  · exact ⟨2147483587, rfl, by omega, by omega⟩
  · exact ⟨2147483579, rfl, by omega, by omega⟩
  · exact ⟨2147483563, rfl, by omega, by omega⟩
theorem pow3 {x : Int} {st : Sto} (h : x.natAbs < 2 ^ 70) : ∃ z, dPow (.int x) (.int 3) st = .val (.int z) st := by
  have l : x.natAbs.log2 < 70 := log_lt (by omega) h
  exact ⟨_, dPow_ii ⟨by omega, by omega⟩⟩
theorem take_cnt {k : Nat} {st : Sto} {p : Nat} {a b n u : Int} (h : st[p]? = some (.lst [.int a, .int b, .int n])) (ha : ¬ 0 < a) (hb : 0 ≤ b) (hb2 : b < 2305843009213693952) (hn : 0 ≤ n) (hn2 : n ≤ 1000) (hu : 0 < u) (hu2 : u < 1073741824) :
    ∃ d, F (k + 1) "_law_take" [.obj p, .int u] st = .val (.int d) (st.set p (.lst [.int a, .int b, .int (n + 1)])) ∧ 0 ≤ d ∧ d < u := by
  have hl : u.natAbs.log2 < 9000 := Nat.lt_trans (log_lt (n := 30) (by omega) (by omega)) (by omega)
  have hp : p < st.length := (List.getElem?_eq_some_iff.mp h).1
  have h2 : (st.set p (.lst [.int a, .int b, .int (n + 1)]))[p]? = some (.lst [.int a, .int b, .int (n + 1)]) := List.getElem?_set_self hp
  obtain ⟨q, eq, q1, q2⟩ := prime_at (i := (n + 1) % 5) (by omega) (by omega)
  have e1 : 65334 * (n + 1) ≤ 65334 * 1001 := Int.mul_le_mul_of_nonneg_left (by omega) (by omega)
  have e2 : 65334 * (n + 1) * (n + 1) ≤ 65334 * 1001 * 1001 := Int.mul_le_mul e1 (by omega) (by omega) (by omega)
  have e3 : 0 ≤ 65334 * (n + 1) * (n + 1) := Int.mul_nonneg (by omega) (by omega)
  have l1 : (n + 1).natAbs.log2 < 20 := log_lt (by omega) (by omega)
  have l0 : (65334 : Int).natAbs.log2 < 20 := log_lt (by omega) (by omega)
  have l2 : (65334 * (n + 1)).natAbs.log2 < 40 := log_lt (by omega) (by omega)
  have l3 : (b + 65334 * (n + 1) * (n + 1) + 58942).natAbs.log2 < 70 := log_lt (by omega) (by omega)
  have l4 : (47583 : Int).natAbs.log2 < 20 := log_lt (by omega) (by omega)
  have i0 : dIx (.obj p) (.int 0) st = .val (.int a) st := (dIx_obj h).trans rfl
  have i2 : dIx (.obj p) (.int 2) st = .val (.int n) st := (dIx_obj h).trans rfl
  have j1 : dIx (.obj p) (.int 1) (st.set p (.lst [.int a, .int b, .int (n + 1)])) = .val (.int b) (st.set p (.lst [.int a, .int b, .int (n + 1)])) := (dIx_obj h2).trans rfl
  have j2 : dIx (.obj p) (.int 2) (st.set p (.lst [.int a, .int b, .int (n + 1)])) = .val (.int (n + 1)) (st.set p (.lst [.int a, .int b, .int (n + 1)])) := (dIx_obj h2).trans rfl
  rw [f__law_take]
  unfold callF
  simp only [env0, B__law_take, kE_, ofEnv_0, ofEnv_s, seqS_, setS_, setIxS_, setTgS_, retS_, exprS_, ifS_, forS_, nxS_, binE_, unE_, iteE_, cmpT_, callV_, callE_, evs_nil, evs_cons, mthE_, tupE_, lstE_, slE_, noO_, paO_, attE_, dctE_, lrgE1_, lcE_, srcE_, srcA_, truT_, notT_, frzE_, orT_1, orT_2, andT_1, andT_2, andE_1, andE_2, orE_1, orE_2, bind_val, toS_val, pure_val, ofP_, fin_rt, fin_nx, mkL_f, chk_b, tru_b, List.set_cons_zero, List.set_cons_succ, List.length_cons, List.length_nil, List.map_cons, List.map_nil, List.cons_append, List.nil_append, List.replicate, dAdd_ii, dSub_ii, dGt_ii, dLt_ii, dGe_ii, dEq_ii, fInt_i, fInt_b, fAbs_i, fLen_ro, i0, i2, decide_eq_false ha, dSet_obj (k := 2) (v := .int (n + 1)) (j := 2) h rfl, mkLs_ (show [D.int 2147483647, D.int 2147483629, D.int 2147483587, D.int 2147483579, D.int 2147483563].length ≤ 1000 by decide)]
  simp only [kE_, ofEnv_0, ofEnv_s, seqS_, setS_, setIxS_, setTgS_, retS_, exprS_, ifS_, forS_, nxS_, binE_, unE_, iteE_, cmpT_, callV_, callE_, evs_nil, evs_cons, mthE_, tupE_, lstE_, slE_, noO_, paO_, attE_, dctE_, lrgE1_, lcE_, srcE_, srcA_, truT_, notT_, frzE_, orT_1, orT_2, andT_1, andT_2, andE_1, andE_2, orE_1, orE_2, bind_val, toS_val, pure_val, ofP_, fin_rt, fin_nx, mkL_f, chk_b, tru_b, List.set_cons_zero, List.set_cons_succ, List.length_cons, List.length_nil, List.map_cons, List.map_nil, List.cons_append, List.nil_append, List.replicate, dAdd_ii, dSub_ii, dGt_ii, dLt_ii, dGe_ii, dEq_ii, fInt_i, fInt_b, fAbs_i, fLen_ro, j1, j2, dMod_ii (show (0 : Int) < 5 by omega), dIx_ro, eq, dMul_ii (show (65334 : Int).natAbs.log2 + (n + 1).natAbs.log2 < 1000000 by omega)]
  rw [dMul_ii (show (65334 * (n + 1)).natAbs.log2 + (n + 1).natAbs.log2 < 1000000 by omega)]
  simp only [kE_, ofEnv_0, ofEnv_s, seqS_, setS_, setIxS_, setTgS_, retS_, exprS_, ifS_, forS_, nxS_, binE_, unE_, iteE_, cmpT_, callV_, callE_, evs_nil, evs_cons, mthE_, tupE_, lstE_, slE_, noO_, paO_, attE_, dctE_, lrgE1_, lcE_, srcE_, srcA_, truT_, notT_, frzE_, orT_1, orT_2, andT_1, andT_2, andE_1, andE_2, orE_1, orE_2, bind_val, toS_val, pure_val, ofP_, fin_rt, fin_nx, mkL_f, chk_b, tru_b, List.set_cons_zero, List.set_cons_succ, List.length_cons, List.length_nil, List.map_cons, List.map_nil, List.cons_append, List.nil_append, List.replicate, dAdd_ii, dSub_ii, dGt_ii, dLt_ii, dGe_ii, dEq_ii, fInt_i, fInt_b, fAbs_i, fLen_ro]
  have ly : (b + 65334 * (n + 1) * (n + 1) + 58942).natAbs < 2 ^ 70 := by omega
  revert ly
  generalize b + 65334 * (n + 1) * (n + 1) + 58942 = y
  intro ly
  obtain ⟨z, ez⟩ := pow3 (st := st.set p (.lst [.int a, .int b, .int (n + 1)])) ly
  rw [ez]
  simp only [kE_, ofEnv_0, ofEnv_s, seqS_, setS_, setIxS_, setTgS_, retS_, exprS_, ifS_, forS_, nxS_, binE_, unE_, iteE_, cmpT_, callV_, callE_, evs_nil, evs_cons, mthE_, tupE_, lstE_, slE_, noO_, paO_, attE_, dctE_, lrgE1_, lcE_, srcE_, srcA_, truT_, notT_, frzE_, orT_1, orT_2, andT_1, andT_2, andE_1, andE_2, orE_1, orE_2, bind_val, toS_val, pure_val, ofP_, fin_rt, fin_nx, mkL_f, chk_b, tru_b, List.set_cons_zero, List.set_cons_succ, List.length_cons, List.length_nil, List.map_cons, List.map_nil, List.cons_append, List.nil_append, List.replicate, dAdd_ii, dSub_ii, dGt_ii, dLt_ii, dGe_ii, dEq_ii, fInt_i, fInt_b, fAbs_i, fLen_ro, dMod_ii q1]
  generalize hw : z % q = w
  have w0 : 0 ≤ w := by rw [← hw]; exact Int.emod_nonneg _ (by omega)
  have w1 : w < 2147483648 := by rw [← hw]; exact Int.lt_trans (Int.emod_lt_of_pos _ q1) q2
  have l5 : w.natAbs.log2 < 40 := log_lt (by omega) (by omega)
  simp only [kE_, ofEnv_0, ofEnv_s, seqS_, setS_, setIxS_, setTgS_, retS_, exprS_, ifS_, forS_, nxS_, binE_, unE_, iteE_, cmpT_, callV_, callE_, evs_nil, evs_cons, mthE_, tupE_, lstE_, slE_, noO_, paO_, attE_, dctE_, lrgE1_, lcE_, srcE_, srcA_, truT_, notT_, frzE_, orT_1, orT_2, andT_1, andT_2, andE_1, andE_2, orE_1, orE_2, bind_val, toS_val, pure_val, ofP_, fin_rt, fin_nx, mkL_f, chk_b, tru_b, List.set_cons_zero, List.set_cons_succ, List.length_cons, List.length_nil, List.map_cons, List.map_nil, List.cons_append, List.nil_append, List.replicate, dAdd_ii, dSub_ii, dGt_ii, dLt_ii, dGe_ii, dEq_ii, fInt_i, fInt_b, fAbs_i, fLen_ro, dMod_ii (show (0 : Int) < 14344 by omega), j2]
  have l6 : (w % 14344 + 47583 * (n + 1)).natAbs.log2 < 40 := log_lt (by omega) (by omega)
  simp only [kE_, ofEnv_0, ofEnv_s, seqS_, setS_, setIxS_, setTgS_, retS_, exprS_, ifS_, forS_, nxS_, binE_, unE_, iteE_, cmpT_, callV_, callE_, evs_nil, evs_cons, mthE_, tupE_, lstE_, slE_, noO_, paO_, attE_, dctE_, lrgE1_, lcE_, srcE_, srcA_, truT_, notT_, frzE_, orT_1, orT_2, andT_1, andT_2, andE_1, andE_2, orE_1, orE_2, bind_val, toS_val, pure_val, ofP_, fin_rt, fin_nx, mkL_f, chk_b, tru_b, List.set_cons_zero, List.set_cons_succ, List.length_cons, List.length_nil, List.map_cons, List.map_nil, List.cons_append, List.nil_append, List.replicate, dAdd_ii, dSub_ii, dGt_ii, dLt_ii, dGe_ii, dEq_ii, fInt_i, fInt_b, fAbs_i, fLen_ro, dMul_ii (show (47583 : Int).natAbs.log2 + (n + 1).natAbs.log2 < 1000000 by omega)]
  rw [dMul_ii (show w.natAbs.log2 + (w % 14344 + 47583 * (n + 1)).natAbs.log2 < 1000000 by omega)]
  simp only [kE_, ofEnv_0, ofEnv_s, seqS_, setS_, setIxS_, setTgS_, retS_, exprS_, ifS_, forS_, nxS_, binE_, unE_, iteE_, cmpT_, callV_, callE_, evs_nil, evs_cons, mthE_, tupE_, lstE_, slE_, noO_, paO_, attE_, dctE_, lrgE1_, lcE_, srcE_, srcA_, truT_, notT_, frzE_, orT_1, orT_2, andT_1, andT_2, andE_1, andE_2, orE_1, orE_2, bind_val, toS_val, pure_val, ofP_, fin_rt, fin_nx, mkL_f, chk_b, tru_b, List.set_cons_zero, List.set_cons_succ, List.length_cons, List.length_nil, List.map_cons, List.map_nil, List.cons_append, List.nil_append, List.replicate, dAdd_ii, dSub_ii, dGt_ii, dLt_ii, dGe_ii, dEq_ii, fInt_i, fInt_b, fAbs_i, fLen_ro, dMod_ii (show (0 : Int) < 2305843009213693907 by omega),
    dFdv_ii (show (0 : Int) < 9973 ∧ (9973 : Int).natAbs.log2 < 9000 from ⟨by omega, Nat.lt_trans (log_lt (n := 20) (by omega) (by omega)) (by omega)⟩), dMod_ii hu]
  refine ⟨_, gc_len (o := .bad) ?_, Int.emod_nonneg _ (by omega), Int.emod_lt_of_pos _ hu⟩
  rw [List.length_set]
  exact Nat.le_refl _
/-- a digit off the pot -/
theorem take_ok {k : Nat} {st : Sto} {p : Nat} {a b n u : Int} (h : st[p]? = some (.lst [.int a, .int b, .int n])) (ha : 0 ≤ a) (hb : 0 ≤ b) (hb2 : b < 2305843009213693952) (hn : 0 ≤ n) (hn2 : n ≤ 1000) (hu : 0 < u) (hu2 : u < 1073741824) :
    ∃ d a' n', F (k + 1) "_law_take" [.obj p, .int u] st = .val (.int d) (st.set p (.lst [.int a', .int b, .int n'])) ∧ 0 ≤ d ∧ d < u ∧ 0 ≤ a' ∧ 0 ≤ n' ∧ n' ≤ n + 1 := by
  by_cases h0 : 0 < a
  · exact ⟨_, _, _, take_pos h h0 hu hu2, Int.emod_nonneg _ (by omega), Int.emod_lt_of_pos _ hu, Int.ediv_nonneg ha (by omega), hn, by omega⟩
  · obtain ⟨d, e, d1, d2⟩ := take_cnt (k := k) h h0 hb hb2 hn hn2 hu hu2
    exact ⟨d, a, n + 1, e, d1, d2, ha, by omega, Int.le_refl _⟩
end L2.Ev.k61

namespace L2.Ev.k61
open PySem PySem.Spec PyProof.Rows L2
theorem pow_10_60 {st : Sto} : ∃ P : Int, 0 < P ∧ P.natAbs < 2 ^ 1000 ∧ ∃ z, dPow (.int 10) (.int 60) st = .val (.int z) st ∧ dPow (.int z) (.int 5) st = .val (.int P) st := by
  refine ⟨10 ^ 300, by decide +kernel, by decide +kernel, 10 ^ 60, ?_, ?_⟩
  · exact dPow_ii (by decide +kernel)
  · rw [dPow_ii (by decide +kernel)]
    rw [show ((10 : Int) ^ 60) ^ Int.toNat 5 = 10 ^ 300 by decide +kernel]
theorem pow_10_18 {st : Sto} : ∃ P : Int, dPow (.int 10) (.int 18) st = .val (.int P) st := ⟨_, dPow_ii (by decide +kernel)⟩
theorem cell_ok {ns : List Int} {pl : Int} {st : Sto} {e : Env'} (hp : pl = 0 ∨ pl = 1) : ∃ cell : Int, iteE (cmpT dLt (ofEnv 1) (callV [ofEnv 0] fLen)) (binE dIx (ofEnv 0) (ofEnv 1)) (binE dAdd (binE dAdd (binE dMod (callV [slE false (ofEnv 0) noO (paO (kE (.int 1)))] fSum) (kE (.int 1000003))) (binE dMul (kE (.int 59519)) (ofEnv 1))) (kE (.int 62517)))
    (some (.ro (ns.map D.int)) :: some (.int pl) :: e) st = .val (.int cell) st := by
  simp only [kE_, ofEnv_0, ofEnv_s, seqS_, setS_, setIxS_, setTgS_, retS_, exprS_, ifS_, forS_, nxS_, binE_, unE_, iteE_, cmpT_, callV_, callE_, evs_nil, evs_cons, mthE_, tupE_, lstE_, slE_, noO_, paO_, attE_, dctE_, lrgE1_, lcE_, srcE_, srcA_, truT_, notT_, frzE_, orT_1, orT_2, andT_1, andT_2, andE_1, andE_2, orE_1, orE_2, bind_val, toS_val, pure_val, ofP_, fin_rt, fin_nx, mkL_f, chk_b, tru_b, List.set_cons_zero, List.set_cons_succ, List.length_cons, List.length_nil, List.map_cons, List.map_nil, List.cons_append, List.nil_append, List.replicate, dAdd_ii, dSub_ii, dGt_ii, dLt_ii, dGe_ii, dEq_ii, fInt_i, fInt_b, fAbs_i, fLen_ro]
  by_cases h : pl < ((ns.map D.int).length : Int)
  · simp only [kE_, ofEnv_0, ofEnv_s, seqS_, setS_, setIxS_, setTgS_, retS_, exprS_, ifS_, forS_, nxS_, binE_, unE_, iteE_, cmpT_, callV_, callE_, evs_nil, evs_cons, mthE_, tupE_, lstE_, slE_, noO_, paO_, attE_, dctE_, lrgE1_, lcE_, srcE_, srcA_, truT_, notT_, frzE_, orT_1, orT_2, andT_1, andT_2, andE_1, andE_2, orE_1, orE_2, bind_val, toS_val, pure_val, ofP_, fin_rt, fin_nx, mkL_f, chk_b, tru_b, List.set_cons_zero, List.set_cons_succ, List.length_cons, List.length_nil, List.map_cons, List.map_nil, List.cons_append, List.nil_append, List.replicate, dAdd_ii, dSub_ii, dGt_ii, dLt_ii, dGe_ii, dEq_ii, fInt_i, fInt_b, fAbs_i, fLen_ro, decide_eq_true h, dIx_ro]
    rw [List.length_map] at h
    rcases hp with rfl | rfl
    · obtain ⟨x, l, rfl⟩ : ∃ x l, ns = x :: l := by
        cases ns with
        | nil => simp at h
        | cons x l => exact ⟨x, l, rfl⟩
      refine ⟨x, ?_⟩
      rw [show atI ((x :: l).map D.int) 0 = some (.int x) from atI_nat (j := 0) rfl]
      rfl
    · obtain ⟨x, y, l, rfl⟩ : ∃ x y l, ns = x :: y :: l := by
        cases ns with
        | nil => simp at h
        | cons x l =>
          cases l with
          | nil => simp at h
          | cons y l => exact ⟨x, y, l, rfl⟩
      refine ⟨y, ?_⟩
      rw [show atI ((x :: y :: l).map D.int) 1 = some (.int y) from atI_nat (j := 1) rfl]
      rfl
  · simp only [kE_, ofEnv_0, ofEnv_s, seqS_, setS_, setIxS_, setTgS_, retS_, exprS_, ifS_, forS_, nxS_, binE_, unE_, iteE_, cmpT_, callV_, callE_, evs_nil, evs_cons, mthE_, tupE_, lstE_, slE_, noO_, paO_, attE_, dctE_, lrgE1_, lcE_, srcE_, srcA_, truT_, notT_, frzE_, orT_1, orT_2, andT_1, andT_2, andE_1, andE_2, orE_1, orE_2, bind_val, toS_val, pure_val, ofP_, fin_rt, fin_nx, mkL_f, chk_b, tru_b, List.set_cons_zero, List.set_cons_succ, List.length_cons, List.length_nil, List.map_cons, List.map_nil, List.cons_append, List.nil_append, List.replicate, dAdd_ii, dSub_ii, dGt_ii, dLt_ii, dGe_ii, dEq_ii, fInt_i, fInt_b, fAbs_i, fLen_ro, decide_eq_false h]
    have es : ∃ z, fSum [.ro (cutD (ns.map D.int) none (some 1))] st = .val (.int z) st := by
      have e1 : cutD (ns.map D.int) none (some 1) = (cutD ns none (some 1)).map D.int := by
        unfold cutD
        rw [List.length_map, List.map_take, List.map_drop]
      refine ⟨(cutD ns none (some 1)).sum, ?_⟩
      show (match (listOf st (.ro (cutD (ns.map D.int) none (some 1)))).bind intsOf with
        | some ns => Out.val (D.int ns.sum) st
        | none => .bad) = _
      rw [listOf_ro, e1]
      show (match intsOf _ with
        | some ns => Out.val (D.int ns.sum) st
        | none => .bad) = _
      rw [intsOf_map]
    obtain ⟨z, es⟩ := es
    have ep : prtO (.int 1) st = .val (some 1) st := by first | exact Eq.trans (Eq.refl _) (Eq.refl _)
    have ed : dSl false (.ro (ns.map D.int)) none (some 1) st = .val (.ro (cutD (ns.map D.int) none (some 1))) st := by first | exact Eq.trans (Eq.refl _) (Eq.refl _)
    have lp : (59519 : Int).natAbs.log2 + pl.natAbs.log2 < 1000000 := by
      have l1 : (59519 : Int).natAbs.log2 < 20 := log_lt (by omega) (by omega)
      have l2 : pl.natAbs.log2 < 20 := log_lt (by omega) (by rcases hp with rfl | rfl <;> decide)
      omega
    simp only [kE_, ofEnv_0, ofEnv_s, seqS_, setS_, setIxS_, setTgS_, retS_, exprS_, ifS_, forS_, nxS_, binE_, unE_, iteE_, cmpT_, callV_, callE_, evs_nil, evs_cons, mthE_, tupE_, lstE_, slE_, noO_, paO_, attE_, dctE_, lrgE1_, lcE_, srcE_, srcA_, truT_, notT_, frzE_, orT_1, orT_2, andT_1, andT_2, andE_1, andE_2, orE_1, orE_2, bind_val, toS_val, pure_val, ofP_, fin_rt, fin_nx, mkL_f, chk_b, tru_b, List.set_cons_zero, List.set_cons_succ, List.length_cons, List.length_nil, List.map_cons, List.map_nil, List.cons_append, List.nil_append, List.replicate, dAdd_ii, dSub_ii, dGt_ii, dLt_ii, dGe_ii, dEq_ii, fInt_i, fInt_b, fAbs_i, fLen_ro, ep, ed, es, dMod_ii (show (0 : Int) < 1000003 by omega), dMul_ii lp]
    exact ⟨_, rfl⟩
theorem pot_ok {k : Nat} {ns : List Int} {pl : Int} {st : Sto} (hp : pl = 0 ∨ pl = 1) : ∃ a b : Int, F (k + 1) "_law_pot" [.ro (ns.map D.int), .int pl] st = .val (.obj st.length) (st ++ [.lst [.int a, .int b, .int 0]]) ∧ 0 ≤ a ∧ 0 ≤ b ∧ b < 2305843009213693952 := by
  rw [f__law_pot]
  unfold callF
  obtain ⟨cell, ec⟩ := cell_ok (ns := ns) (st := st) (e := [none, none, none]) hp
  obtain ⟨P, P0, P1, z, e1, e2⟩ := pow_10_60 (st := st)
  obtain ⟨P', e3⟩ := pow_10_18 (st := st)
  generalize hx : (if cell < 0 then -cell else cell) = x
  have m0 : 0 ≤ x % P := Int.emod_nonneg _ (by omega)
  have m1 : x % P < P := Int.emod_lt_of_pos _ P0
  have l1 : (x % P).natAbs.log2 < 1000 := log_lt (by omega) (by omega)
  generalize hy : (if decide (P' ≤ x) = true then (1 : Int) else 0) = y
  have y0 : 0 ≤ y ∧ y ≤ 1 := by
    rw [← hy]
    split <;> omega
  have l2 : y.natAbs.log2 < 20 := log_lt (by omega) (by omega)
  have s0 : 0 ≤ cell % 2305843009213693951 := Int.emod_nonneg _ (by omega)
  have s1 : cell % 2305843009213693951 < 2305843009213693951 := Int.emod_lt_of_pos _ (by omega)
  have l3 : (cell % 2305843009213693951).natAbs.log2 < 70 := log_lt (by omega) (by omega)
  have l4 : (46733 : Int).natAbs.log2 < 20 := log_lt (by omega) (by omega)
  have l5 : (5799 : Int).natAbs.log2 < 20 := log_lt (by omega) (by omega)
  have l6 : pl.natAbs.log2 < 20 := log_lt (by omega) (by rcases hp with rfl | rfl <;> decide)
  have l7 : (5799 * pl).natAbs.log2 < 20 := log_lt (by omega) (by rcases hp with rfl | rfl <;> decide)
  simp only [env0, B__law_pot, kE_, ofEnv_0, ofEnv_s, seqS_, setS_, setIxS_, setTgS_, retS_, exprS_, ifS_, forS_, nxS_, binE_, unE_, iteE_, cmpT_, callV_, callE_, evs_nil, evs_cons, mthE_, tupE_, lstE_, slE_, noO_, paO_, attE_, dctE_, lrgE1_, lcE_, srcE_, srcA_, truT_, notT_, frzE_, orT_1, orT_2, andT_1, andT_2, andE_1, andE_2, orE_1, orE_2, bind_val, toS_val, pure_val, ofP_, fin_rt, fin_nx, mkL_f, chk_b, tru_b, List.set_cons_zero, List.set_cons_succ, List.length_cons, List.length_nil, List.map_cons, List.map_nil, List.cons_append, List.nil_append, List.replicate, dAdd_ii, dSub_ii, dGt_ii, dLt_ii, dGe_ii, dEq_ii, fInt_i, fInt_b, fAbs_i, fLen_ro, ec]
  simp only [kE_, ofEnv_0, ofEnv_s, seqS_, setS_, setIxS_, setTgS_, retS_, exprS_, ifS_, forS_, nxS_, binE_, unE_, iteE_, cmpT_, callV_, callE_, evs_nil, evs_cons, mthE_, tupE_, lstE_, slE_, noO_, paO_, attE_, dctE_, lrgE1_, lcE_, srcE_, srcA_, truT_, notT_, frzE_, orT_1, orT_2, andT_1, andT_2, andE_1, andE_2, orE_1, orE_2, bind_val, toS_val, pure_val, ofP_, fin_rt, fin_nx, mkL_f, chk_b, tru_b, List.set_cons_zero, List.set_cons_succ, List.length_cons, List.length_nil, List.map_cons, List.map_nil, List.cons_append, List.nil_append, List.replicate, dAdd_ii, dSub_ii, dGt_ii, dLt_ii, dGe_ii, dEq_ii, fInt_i, fInt_b, fAbs_i, fLen_ro, e1, e2, e3, hx, hy, dMod_ii P0, dMul_ii (show (x % P).natAbs.log2 + y.natAbs.log2 < 1000000 by omega), dMod_ii (show (0 : Int) < 2305843009213693951 by omega)]
  simp only [kE_, ofEnv_0, ofEnv_s, seqS_, setS_, setIxS_, setTgS_, retS_, exprS_, ifS_, forS_, nxS_, binE_, unE_, iteE_, cmpT_, callV_, callE_, evs_nil, evs_cons, mthE_, tupE_, lstE_, slE_, noO_, paO_, attE_, dctE_, lrgE1_, lcE_, srcE_, srcA_, truT_, notT_, frzE_, orT_1, orT_2, andT_1, andT_2, andE_1, andE_2, orE_1, orE_2, bind_val, toS_val, pure_val, ofP_, fin_rt, fin_nx, mkL_f, chk_b, tru_b, List.set_cons_zero, List.set_cons_succ, List.length_cons, List.length_nil, List.map_cons, List.map_nil, List.cons_append, List.nil_append, List.replicate, dAdd_ii, dSub_ii, dGt_ii, dLt_ii, dGe_ii, dEq_ii, fInt_i, fInt_b, fAbs_i, fLen_ro, dMul_ii (show (cell % 2305843009213693951).natAbs.log2 + (46733 : Int).natAbs.log2 < 1000000 by omega), dMul_ii (show (5799 : Int).natAbs.log2 + pl.natAbs.log2 < 1000000 by omega), dMul_ii (show (5799 * pl).natAbs.log2 + pl.natAbs.log2 < 1000000 by omega), dMod_ii (show (0 : Int) < 2305843009213693921 by omega)]
  rw [mkLs_ (by simp)]
  simp only [kE_, ofEnv_0, ofEnv_s, seqS_, setS_, setIxS_, setTgS_, retS_, exprS_, ifS_, forS_, nxS_, binE_, unE_, iteE_, cmpT_, callV_, callE_, evs_nil, evs_cons, mthE_, tupE_, lstE_, slE_, noO_, paO_, attE_, dctE_, lrgE1_, lcE_, srcE_, srcA_, truT_, notT_, frzE_, orT_1, orT_2, andT_1, andT_2, andE_1, andE_2, orE_1, orE_2, bind_val, toS_val, pure_val, ofP_, fin_rt, fin_nx, mkL_f, chk_b, tru_b, List.set_cons_zero, List.set_cons_succ, List.length_cons, List.length_nil, List.map_cons, List.map_nil, List.cons_append, List.nil_append, List.replicate, dAdd_ii, dSub_ii, dGt_ii, dLt_ii, dGe_ii, dEq_ii, fInt_i, fInt_b, fAbs_i, fLen_ro, mkL_t]
  refine ⟨_, _, gc_keep ?_, Int.mul_nonneg m0 y0.1, Int.emod_nonneg _ (by omega), Int.lt_trans (Int.emod_lt_of_pos _ (by omega)) (by omega)⟩
  show decide (st.length < st.length) = false
  simp
theorem cells_ok {k : Nat} {ns : List Int} {st : Sto} : F (k + 1) "_law_cells" [.ro (ns.map D.int), .int 2] st = .val (.ro [.int 0, .int 1]) st ∨ F (k + 1) "_law_cells" [.ro (ns.map D.int), .int 2] st = .val (.ro [.int 0]) st := by
  have mx : ∀ i j : Int, fMax [.int i, .int j] st = .val (.int (if j > i then j else i)) st := fun i j => by first | exact Eq.trans (Eq.refl _) (Eq.refl _)
  have mn : ∀ i j : Int, fMin [.int i, .int j] st = .val (.int (if j < i then j else i)) st := fun i j => by first | exact Eq.trans (Eq.refl _) (Eq.refl _)
  rw [f__law_cells]
  unfold callF
  simp only [env0, B__law_cells, kE_, ofEnv_0, ofEnv_s, seqS_, setS_, setIxS_, setTgS_, retS_, exprS_, ifS_, forS_, nxS_, binE_, unE_, iteE_, cmpT_, callV_, callE_, evs_nil, evs_cons, mthE_, tupE_, lstE_, slE_, noO_, paO_, attE_, dctE_, lrgE1_, lcE_, srcE_, srcA_, truT_, notT_, frzE_, orT_1, orT_2, andT_1, andT_2, andE_1, andE_2, orE_1, orE_2, bind_val, toS_val, pure_val, ofP_, fin_rt, fin_nx, mkL_f, chk_b, tru_b, List.set_cons_zero, List.set_cons_succ, List.length_cons, List.length_nil, List.map_cons, List.map_nil, List.cons_append, List.nil_append, List.replicate, dAdd_ii, dSub_ii, dGt_ii, dLt_ii, dGe_ii, dEq_ii, fInt_i, fInt_b, fAbs_i, fLen_ro, mx, mn]
  have r2 : lrg1 false (.int 2) st = .val (.ro [.int 0, .int 1]) st := by first | exact Eq.trans (Eq.refl _) (Eq.refl _)
  have r1 : lrg1 false (.int 1) st = .val (.ro [.int 0]) st := by first | exact Eq.trans (Eq.refl _) (Eq.refl _)
  by_cases h : ((ns.map D.int).length : Int) < 2
  · have e : (if (if ((ns.map D.int).length : Int) < 2 then ((ns.map D.int).length : Int) else 2) > 1 then (if ((ns.map D.int).length : Int) < 2 then ((ns.map D.int).length : Int) else 2) else 1) = 1 := by
      rw [if_pos h, if_neg (by omega)]
    rw [e, r1]
    right
    exact gc_len (o := .bad) (Nat.le_refl _)
  · have e : (if (if ((ns.map D.int).length : Int) < 2 then ((ns.map D.int).length : Int) else 2) > 1 then (if ((ns.map D.int).length : Int) < 2 then ((ns.map D.int).length : Int) else 2) else 1) = 2 := by
      rw [if_neg h, if_pos (by omega)]
    rw [e, r2]
    left
    exact gc_len (o := .bad) (Nat.le_refl _)
theorem of_ok {k : Nat} {st : Sto} {p : Nat} {a b n : Int} {vs : List D} (h : st[p]? = some (.lst [.int a, .int b, .int n])) (hv : vs.length = 12) (ha : 0 ≤ a) (hb : 0 ≤ b) (hb2 : b < 2305843009213693952) (hn : 0 ≤ n) (hn2 : n ≤ 1000) :
    ∃ (i : Nat) (v : D) (a' n' : Int), vs[i]? = some v ∧ F (k + 2) "_law_of" [.obj p, .ro vs] st = .val v (st.set p (.lst [.int a', .int b, .int n'])) ∧ 0 ≤ a' ∧ 0 ≤ n' ∧ n' ≤ n + 1 := by
  obtain ⟨d, a', n', e, d0, d1, a0, n0, n1⟩ := take_ok (k := k) (u := 12) h ha hb hb2 hn hn2 (by omega) (by omega)
  obtain ⟨v, ev⟩ : ∃ v, vs[d.toNat]? = some v := ⟨vs[d.toNat]'(by omega), List.getElem?_eq_getElem _⟩
  refine ⟨d.toNat, v, a', n', ev, ?_, a0, n0, n1⟩
  rw [f__law_of]
  unfold callF
  simp only [env0, B__law_of, kE_, ofEnv_0, ofEnv_s, seqS_, setS_, setIxS_, setTgS_, retS_, exprS_, ifS_, forS_, nxS_, binE_, unE_, iteE_, cmpT_, callV_, callE_, evs_nil, evs_cons, mthE_, tupE_, lstE_, slE_, noO_, paO_, attE_, dctE_, lrgE1_, lcE_, srcE_, srcA_, truT_, notT_, frzE_, orT_1, orT_2, andT_1, andT_2, andE_1, andE_2, orE_1, orE_2, bind_val, toS_val, pure_val, ofP_, fin_rt, fin_nx, mkL_f, chk_b, tru_b, List.set_cons_zero, List.set_cons_succ, List.length_cons, List.length_nil, List.map_cons, List.map_nil, List.cons_append, List.nil_append, List.replicate, dAdd_ii, dSub_ii, dGt_ii, dLt_ii, dGe_ii, dEq_ii, fInt_i, fInt_b, fAbs_i, fLen_ro, hv]
  rw [atN_ (by rfl)]
  rw [show ((12 : Nat) : Int) = 12 from rfl, e]
  simp only [kE_, ofEnv_0, ofEnv_s, seqS_, setS_, setIxS_, setTgS_, retS_, exprS_, ifS_, forS_, nxS_, binE_, unE_, iteE_, cmpT_, callV_, callE_, evs_nil, evs_cons, mthE_, tupE_, lstE_, slE_, noO_, paO_, attE_, dctE_, lrgE1_, lcE_, srcE_, srcA_, truT_, notT_, frzE_, orT_1, orT_2, andT_1, andT_2, andE_1, andE_2, orE_1, orE_2, bind_val, toS_val, pure_val, ofP_, fin_rt, fin_nx, mkL_f, chk_b, tru_b, List.set_cons_zero, List.set_cons_succ, List.length_cons, List.length_nil, List.map_cons, List.map_nil, List.cons_append, List.nil_append, List.replicate, dAdd_ii, dSub_ii, dGt_ii, dLt_ii, dGe_ii, dEq_ii, fInt_i, fInt_b, fAbs_i, fLen_ro, dIx_ro]
  rw [show atI vs d = some v by
    have := atI_nat (xs := vs) ev
    rw [Int.toNat_of_nonneg d0] at this
    exact this]
  simp only [kE_, ofEnv_0, ofEnv_s, seqS_, setS_, setIxS_, setTgS_, retS_, exprS_, ifS_, forS_, nxS_, binE_, unE_, iteE_, cmpT_, callV_, callE_, evs_nil, evs_cons, mthE_, tupE_, lstE_, slE_, noO_, paO_, attE_, dctE_, lrgE1_, lcE_, srcE_, srcA_, truT_, notT_, frzE_, orT_1, orT_2, andT_1, andT_2, andE_1, andE_2, orE_1, orE_2, bind_val, toS_val, pure_val, ofP_, fin_rt, fin_nx, mkL_f, chk_b, tru_b, List.set_cons_zero, List.set_cons_succ, List.length_cons, List.length_nil, List.map_cons, List.map_nil, List.cons_append, List.nil_append, List.replicate, dAdd_ii, dSub_ii, dGt_ii, dLt_ii, dGe_ii, dEq_ii, fInt_i, fInt_b, fAbs_i, fLen_ro]
  exact gc_len (o := .bad) (by rw [List.length_set]; exact Nat.le_refl _)
end L2.Ev.k61

namespace L2.Ev.k61
open PySem PySem.Spec PyProof.Rows L2
def names52 : List Str := errs.tail
section
variable {st : Sto} {ys zs xs : List D} {v : D}
theorem lo_app : listOf (st ++ [.lst ys]) (.obj st.length) = some ys := listOf_obj (by rw [List.getElem?_append_right (Nat.le_refl _), Nat.sub_self]; rfl)
theorem ext_app (h : ys.length + zs.length ≤ 1000) : mExt (.obj st.length) [.ro zs] (st ++ [.lst ys]) = .val .non (st ++ [.lst (ys ++ zs)]) := by
  have e1 : (st ++ [O.lst ys])[st.length]? = some (.lst ys) := by rw [List.getElem?_append_right (Nat.le_refl _), Nat.sub_self]; rfl
  unfold mExt
  dsimp only
  rw [e1, listOf_ro]
  dsimp only
  rw [if_pos (Nat.le_trans h (by rw [sizeLine_eq]; decide)), List.set_append_right _ _ (Nat.le_refl _), Nat.sub_self]
  rfl
theorem frz_app : frzD (.obj st.length) (st ++ [.lst xs]) = .val (.ro xs) (st ++ [.gone]) := by
  have e1 : (st ++ [O.lst xs])[st.length]? = some (.lst xs) := by rw [List.getElem?_append_right (Nat.le_refl _), Nat.sub_self]; rfl
  show (match (st ++ [O.lst xs])[st.length]? with
    | some (.lst ys) => Out.val (D.ro ys) ((st ++ [O.lst xs]).set st.length .gone)
    | _ => .val (.obj st.length) (st ++ [O.lst xs])) = _
  rw [e1]
  dsimp only
  rw [List.set_append_right _ _ (Nat.le_refl _), Nat.sub_self]
  rfl
theorem fSay_ {x : Str} : fSay x [v] st = .val (.exc x v) st := by first | exact Eq.trans (Eq.refl _) (Eq.refl _)
theorem gc_gone {d : D} (h : clD st.length d = true) (hs : st.all (clO st.length) = true) : gcO st.length (.val d (st ++ [.gone])) = .val d st := by
  have e : (st ++ [O.gone]).take st.length = st := List.take_left
  rw [gc_drop h (by rw [e]; exact hs), e]
end
theorem made_ok {k : Nat} {st : Sto} {v : D} (hv : clD st.length v = true) (hs : st.all (clO st.length) = true) : F (k + 1) "_law_made" [v] st = .val (.ro (names52.map fun x => .exc x v)) st := by
  rw [f__law_made]
  unfold callF
  simp only [env0, B__law_made, kE_, ofEnv_0, ofEnv_s, seqS_, setS_, setIxS_, setTgS_, retS_, exprS_, ifS_, forS_, nxS_, binE_, unE_, iteE_, cmpT_, callV_, callE_, evs_nil, evs_cons, mthE_, tupE_, lstE_, slE_, noO_, paO_, attE_, dctE_, lrgE1_, lcE_, srcE_, srcA_, truT_, notT_, frzE_, orT_1, orT_2, andT_1, andT_2, andE_1, andE_2, orE_1, orE_2, bind_val, toS_val, pure_val, ofP_, fin_rt, fin_nx, mkL_f, chk_b, tru_b, List.set_cons_zero, List.set_cons_succ, List.length_cons, List.length_nil, List.map_cons, List.map_nil, List.cons_append, List.nil_append, List.replicate, dAdd_ii, dSub_ii, dGt_ii, dLt_ii, dGe_ii, dEq_ii, fInt_i, fInt_b, fAbs_i, fLen_ro, mkLs_ (show ([] : List D).length ≤ 1000 by decide), mkL_t, lo_app, Option.isSome_some, if_true, fSay_, mkLs_, ext_app, List.length_cons, List.length_nil, List.length_append, Nat.reduceAdd, Nat.reduceLeDiff, frz_app]
  exact gc_gone (d := .ro (names52.map fun x => .exc x v)) (clDs_map (fun x => hv) names52) hs
theorem isi {c' x : Str} {v : D} {st : Sto} (hc : c' ∈ errs) (hx : x ∈ errs) : fIsi c.isE c.kit [.exc c' v, .glo x] st = .val (.bl (decide (c' = x) || decide (x = "SayError"))) st := by
  have e1 : c.isE c' = true := decide_eq_true hc
  have e2 : tyD c.isE st (.exc c' v) = some (.glo c') := by
    show (if c.isE c' = true then some (D.glo c') else none) = _
    rw [if_pos e1]
  have e3 : c.kit (.glo c') (.glo x) = some (decide (c' = x) || decide (x = "SayError")) := by
    show (if c' ∈ errs ∧ x ∈ errs then some (decide (c' = x) || decide (x = "SayError")) else none) = _
    rw [if_pos ⟨hc, hx⟩]
  show (if isCls (.glo x) = true then (match (tyD c.isE st (.exc c' v)).bind fun t => c.kit t (.glo x) with
    | some b => Out.val (D.bl b) st
    | none => .bad) else .bad) = _
  rw [if_pos (show isCls (.glo x) = true from rfl), e2]
  show (match c.kit (.glo c') (.glo x) with
    | some b => Out.val (D.bl b) st
    | none => .bad) = _
  rw [e3]
theorem isi_ve {c' : Str} {v : D} {st : Sto} (hc : c' ∈ errs) : fIsi c.isE c.kit [.exc c' v, .ty "ValueError"] st = .val (.bl true) st := by
  have e1 : c.isE c' = true := decide_eq_true hc
  have e2 : tyD c.isE st (.exc c' v) = some (.glo c') := by
    show (if c.isE c' = true then some (D.glo c') else none) = _
    rw [if_pos e1]
  have e3 : c.kit (.glo c') (.ty "ValueError") = some true := by
    show (if c' ∈ errs ∧ PySem.W.kitMeta "ValueError" = true then some (decide ("ValueError" ∈ ["ValueError", "Exception", "BaseException", "object"])) else none) = _
    rw [if_pos ⟨hc, by decide +kernel⟩]
    decide
  show (if isCls (.ty "ValueError") = true then (match (tyD c.isE st (.exc c' v)).bind fun t => c.kit t (.ty "ValueError") with
    | some b => Out.val (D.bl b) st
    | none => .bad) else .bad) = _
  rw [if_pos (show isCls (.ty "ValueError") = true from rfl), e2]
  show (match c.kit (.glo c') (.ty "ValueError") with
    | some b => Out.val (D.bl b) st
    | none => .bad) = _
  rw [e3]
theorem in0 : ("BadSpeech" : Str) ∈ errs := by decide +kernel
theorem in1 : ("NoSpeech" : Str) ∈ errs := by decide +kernel
theorem in2 : ("NoName" : Str) ∈ errs := by decide +kernel
theorem in3 : ("BadTerm" : Str) ∈ errs := by decide +kernel
theorem in4 : ("BadSaying" : Str) ∈ errs := by decide +kernel
theorem in5 : ("BadWord" : Str) ∈ errs := by decide +kernel
theorem in6 : ("BadName" : Str) ∈ errs := by decide +kernel
theorem in7 : ("BadPairs" : Str) ∈ errs := by decide +kernel
theorem in8 : ("BadText" : Str) ∈ errs := by decide +kernel
theorem in9 : ("TooMany" : Str) ∈ errs := by decide +kernel
theorem in10 : ("BadWorld" : Str) ∈ errs := by decide +kernel
theorem in11 : ("BadLetters" : Str) ∈ errs := by decide +kernel
theorem in12 : ("BadFacts" : Str) ∈ errs := by decide +kernel
theorem in13 : ("BadSayings" : Str) ∈ errs := by decide +kernel
theorem in14 : ("BadTree" : Str) ∈ errs := by decide +kernel
theorem in15 : ("BadSuch" : Str) ∈ errs := by decide +kernel
theorem in16 : ("BadCriticals" : Str) ∈ errs := by decide +kernel
theorem in17 : ("BadProof" : Str) ∈ errs := by decide +kernel
theorem in18 : ("BadLines" : Str) ∈ errs := by decide +kernel
theorem in19 : ("BadLine" : Str) ∈ errs := by decide +kernel
theorem in20 : ("BadState" : Str) ∈ errs := by decide +kernel
theorem in21 : ("NotSome" : Str) ∈ errs := by decide +kernel
theorem in22 : ("BadRows" : Str) ∈ errs := by decide +kernel
theorem in23 : ("BadRow" : Str) ∈ errs := by decide +kernel
theorem in24 : ("NoCases" : Str) ∈ errs := by decide +kernel
theorem in25 : ("NotFront" : Str) ∈ errs := by decide +kernel
theorem in26 : ("NotPlain" : Str) ∈ errs := by decide +kernel
theorem in27 : ("BadList" : Str) ∈ errs := by decide +kernel
theorem in28 : ("BadDerivation" : Str) ∈ errs := by decide +kernel
theorem in29 : ("BadLots" : Str) ∈ errs := by decide +kernel
theorem in30 : ("BadRules" : Str) ∈ errs := by decide +kernel
theorem in31 : ("BadCase" : Str) ∈ errs := by decide +kernel
theorem in32 : ("NotOpen" : Str) ∈ errs := by decide +kernel
theorem in33 : ("BadCases" : Str) ∈ errs := by decide +kernel
theorem in34 : ("BadNumber" : Str) ∈ errs := by decide +kernel
theorem in35 : ("BadDeed" : Str) ∈ errs := by decide +kernel
theorem in36 : ("Unlike" : Str) ∈ errs := by decide +kernel
theorem in37 : ("Full" : Str) ∈ errs := by decide +kernel
theorem in38 : ("Late" : Str) ∈ errs := by decide +kernel
theorem in39 : ("BadPledge" : Str) ∈ errs := by decide +kernel
theorem in40 : ("NotSo" : Str) ∈ errs := by decide +kernel
theorem in41 : ("Known" : Str) ∈ errs := by decide +kernel
theorem in42 : ("BadNotes" : Str) ∈ errs := by decide +kernel
theorem in43 : ("NothingToUndo" : Str) ∈ errs := by decide +kernel
theorem in44 : ("NothingToRedo" : Str) ∈ errs := by decide +kernel
theorem in45 : ("NoTrial" : Str) ∈ errs := by decide +kernel
theorem in46 : ("NoBench" : Str) ∈ errs := by decide +kernel
theorem in47 : ("BadJournal" : Str) ∈ errs := by decide +kernel
theorem in48 : ("BadFolk" : Str) ∈ errs := by decide +kernel
theorem in49 : ("BadNames" : Str) ∈ errs := by decide +kernel
theorem in50 : ("BadOrder" : Str) ∈ errs := by decide +kernel
theorem in51 : ("BadTerms" : Str) ∈ errs := by decide +kernel
theorem kinds_ok {k : Nat} {st : Sto} {c' : Str} {v : D} (hc : c' ∈ errs) (hs : st.all (clO st.length) = true) : F (k + 1) "_law_kinds" [.exc c' v] st = .val (.ro (names52.map fun x => .bl (decide (c' = x) || decide (x = "SayError")))) st := by
  rw [f__law_kinds]
  unfold callF
  simp only [env0, B__law_kinds, kE_, ofEnv_0, ofEnv_s, seqS_, setS_, setIxS_, setTgS_, retS_, exprS_, ifS_, forS_, nxS_, binE_, unE_, iteE_, cmpT_, callV_, callE_, evs_nil, evs_cons, mthE_, tupE_, lstE_, slE_, noO_, paO_, attE_, dctE_, lrgE1_, lcE_, srcE_, srcA_, truT_, notT_, frzE_, orT_1, orT_2, andT_1, andT_2, andE_1, andE_2, orE_1, orE_2, bind_val, toS_val, pure_val, ofP_, fin_rt, fin_nx, mkL_f, chk_b, tru_b, List.set_cons_zero, List.set_cons_succ, List.length_cons, List.length_nil, List.map_cons, List.map_nil, List.cons_append, List.nil_append, List.replicate, dAdd_ii, dSub_ii, dGt_ii, dLt_ii, dGe_ii, dEq_ii, fInt_i, fInt_b, fAbs_i, fLen_ro, mkLs_ (show ([] : List D).length ≤ 1000 by decide), mkL_t, lo_app, Option.isSome_some, if_true, mkLs_, ext_app, List.length_cons, List.length_nil, List.length_append, Nat.reduceAdd, Nat.reduceLeDiff, frz_app, isi hc in0, isi hc in1, isi hc in2, isi hc in3, isi hc in4, isi hc in5, isi hc in6, isi hc in7, isi hc in8, isi hc in9, isi hc in10, isi hc in11, isi hc in12, isi hc in13, isi hc in14, isi hc in15, isi hc in16, isi hc in17, isi hc in18, isi hc in19, isi hc in20, isi hc in21, isi hc in22, isi hc in23, isi hc in24, isi hc in25, isi hc in26, isi hc in27, isi hc in28, isi hc in29, isi hc in30, isi hc in31, isi hc in32, isi hc in33, isi hc in34, isi hc in35, isi hc in36, isi hc in37, isi hc in38, isi hc in39, isi hc in40, isi hc in41, isi hc in42, isi hc in43, isi hc in44, isi hc in45, isi hc in46, isi hc in47, isi hc in48, isi hc in49, isi hc in50, isi hc in51]
  exact gc_gone (d := .ro (names52.map fun x => .bl (decide (c' = x) || decide (x = "SayError")))) (clDs_map (fun x => rfl) names52) hs
end L2.Ev.k61

namespace L2.Ev.k61
open PySem PySem.Spec PyProof.Rows L2
mutual
theorem clD_mono {n m : Nat} (h : n ≤ m) : ∀ d : D, clD n d = true → clD m d = true
  | .non, _ => rfl
  | .bl _, _ => rfl
  | .int _, _ => rfl
  | .str _, _ => rfl
  | .tup xs, q => clDs_mono h xs q
  | .exc _ v, q => clD_mono h v q
  | .ro xs, q => clDs_mono h xs q
  | .obj k, q => decide_eq_true (Nat.lt_of_lt_of_le (of_decide_eq_true q) h)
  | .glo _, _ => rfl
  | .ty _, _ => rfl
theorem clDs_mono {n m : Nat} (h : n ≤ m) : ∀ ds : List D, clDs n ds = true → clDs m ds = true
  | [], _ => rfl
  | d :: ds, q => by
    obtain ⟨q1, q2⟩ := Bool.and_eq_true_iff.mp (show (clD n d && clDs n ds) = true from q)
    exact Bool.and_eq_true_iff.mpr ⟨clD_mono h d q1, clDs_mono h ds q2⟩
end
theorem clO_mono {n m : Nat} (h : n ≤ m) {o : O} (q : clO n o = true) : clO m o = true := by
  cases o with
  | lst xs => exact clDs_mono h xs q
  | dct kvs => exact List.all_eq_true.mpr fun p hp => clD_mono h p.2 (List.all_eq_true.mp q p hp)
  | ins c fs => exact List.all_eq_true.mpr fun p hp => clD_mono h p.2 (List.all_eq_true.mp q p hp)
  | gone => rfl
theorem all_set {st : Sto} {f : O → Bool} {p : Nat} {o : O} (h : st.all f = true) (ho : f o = true) : (st.set p o).all f = true := by
  rw [List.all_eq_true] at h ⊢
  intro x hx
  rcases List.mem_or_eq_of_mem_set hx with z | z
  · exact h x z
  · rw [z]; exact ho
def dctA : O := .dct [(.inr "a", .int 1)]
theorem dct_a {x : Option D} {e : Env'} {st : Sto} : dctE [(kE (.str "a"), kE (.int 1))] (x :: e) st = .val (.obj st.length) (st ++ [dctA]) := by first | exact Eq.trans (Eq.refl _) (Eq.refl _)
/-! ### repr of the values -/
theorem repr_pd {S : Sto} {v : D} {P : PyData} (hd : dctOf S v = none) (hp : pd S v = some P) (hc : (P.showable && decide (P.depth ≤ 64) && decide (P.shown.length ≤ sizeLine) && !P.hasDict) = true) : fRepr [v] S = .val (.str P.shown) S := by
  have e1 : rpd S v = some P := by
    unfold rpd
    rw [hd]
    exact hp
  unfold fRepr
  dsimp only
  rw [e1]
  dsimp only
  rw [hd]
  rw [if_pos (by simpa using hc)]
theorem repr_dct {S : Sto} {m : Nat} (h : S[m]? = some dctA) : ∃ s, fRepr [.obj m] S = .val (.str s) S := by
  have e0 : dctOf S (.obj m) = some [(.inr "a", .int 1)] := by
    show (match S[m]? with
      | some (.dct xs) => some xs
      | _ => none) = _
    rw [h]
    rfl
  have e1 : rpd S (.obj m) = some (.dict [(.str "a", .int 1)]) := by
    unfold rpd
    rw [e0]
    rfl
  refine ⟨(PyData.dict [(PyData.str (Str.ofString "a"), PyData.int 1)]).shown, ?_⟩
  unfold fRepr
  dsimp only
  rw [e1]
  dsimp only
  rw [e0]
  rw [if_pos (by decide +kernel)]
theorem ints_small : ∀ m : Fin 1000, ((PyData.int ((m.val : Int) - 500)).showable && decide ((PyData.int ((m.val : Int) - 500)).depth ≤ 64) && decide ((PyData.int ((m.val : Int) - 500)).shown.length ≤ sizeLine) && !(PyData.int ((m.val : Int) - 500)).hasDict) = true := by decide +kernel
def vals (m : Nat) (d : Int) : List D := [.non, .bl true, .int 0, .int 1, .str "", .str "a", .tup [], .tup [.str "a", .int 1], .ro [], .ro [.int 1, .tup [.int 2]], .obj m, .int (d - 500)]
theorem val_ok {S : Sto} {m i : Nat} {d : Int} {v : D} (hm : S[m]? = some dctA) (d0 : 0 ≤ d) (d1 : d < 1000) (h : (vals m d)[i]? = some v) : (∃ s, fRepr [v] S = .val (.str s) S) ∧ clD S.length v = true := by
  have hi : i < 12 := (List.getElem?_eq_some_iff.mp h).1
  have hml : m < S.length := (List.getElem?_eq_some_iff.mp hm).1
  have : i = 0 ∨ i = 1 ∨ i = 2 ∨ i = 3 ∨ i = 4 ∨ i = 5 ∨ i = 6 ∨ i = 7 ∨ i = 8 ∨ i = 9 ∨ i = 10 ∨ i = 11 := by omega
  rcases this with rfl | rfl | rfl | rfl | rfl | rfl | rfl | rfl | rfl | rfl | rfl | rfl
  · cases h; exact ⟨⟨_, repr_pd rfl rfl (by decide +kernel)⟩, rfl⟩
  · cases h; exact ⟨⟨_, repr_pd rfl rfl (by decide +kernel)⟩, rfl⟩
  · cases h; exact ⟨⟨_, repr_pd rfl rfl (by decide +kernel)⟩, rfl⟩
  · cases h; exact ⟨⟨_, repr_pd rfl rfl (by decide +kernel)⟩, rfl⟩
  · cases h; exact ⟨⟨_, repr_pd rfl rfl (by decide +kernel)⟩, rfl⟩
  · cases h; exact ⟨⟨_, repr_pd rfl rfl (by decide +kernel)⟩, rfl⟩
  · cases h; exact ⟨⟨_, repr_pd rfl rfl (by decide +kernel)⟩, rfl⟩
  · cases h; exact ⟨⟨_, repr_pd rfl rfl (by decide +kernel)⟩, rfl⟩
  · cases h; exact ⟨⟨_, repr_pd rfl rfl (by decide +kernel)⟩, rfl⟩
  · cases h; exact ⟨⟨_, repr_pd rfl rfl (by decide +kernel)⟩, rfl⟩
  · cases h; exact ⟨repr_dct hm, decide_eq_true hml⟩
  · cases h
    refine ⟨⟨_, repr_pd (P := .int (d - 500)) rfl rfl ?_⟩, rfl⟩
    have := ints_small ⟨d.toNat, by omega⟩
    simp only [Int.toNat_of_nonneg d0] at this
    exact this
/-! ### the loops -/
theorem for_enum {B : D → Env' → Sto → SOut} {xs : List D} {st : Sto} (P : Env' → Prop) (hs : ∀ (i : Nat) (x : D) (env : Env'), xs[i]? = some x → P env → ∃ env', B (.tup [.int i, x]) env st = .nx env' st ∧ P env') :
    ∀ (f i : Nat) (env : Env'), xs.length + 1 ≤ f + i → i ≤ xs.length → P env → ∃ env', forGo B (.enum (.ro xs)) f i env st = .nx env' st ∧ P env'
  | 0, i, env, h, hi, _ => by omega
  | f + 1, i, env, h, hi, p => by
    unfold forGo
    have ea : (Src.enum (.ro xs)).at_ st i = some ((xs[i]?).map fun x => .tup [.int i, x]) := rfl
    rw [ea]
    by_cases hl : i < xs.length
    · rw [List.getElem?_eq_getElem hl]
      obtain ⟨env', e, p'⟩ := hs i xs[i] env (List.getElem?_eq_getElem hl) p
      simp only [Option.map_some]
      rw [e]
      exact for_enum P hs f (i + 1) env' (by omega) (by omega) p'
    · rw [List.getElem?_eq_none (by omega)]
      exact ⟨env, rfl, p⟩
theorem lc_rng {g : D → Env' → Option Env'} {t : Env' → Sto → Out Bool} {e : Env' → Sto → Out D} {env0 : Env'} {st : Sto} {n : Nat} (hn : n ≤ 1000) (h : Nat → D) (hb : ∀ j, j < n → ∃ env, g (.int (0 + (j : Int))) env0 = some env ∧ t env st = .val true st ∧ e env st = .val (h j) st) :
    ∀ (f i : Nat) (acc : List D), n + 1 ≤ f + i → i ≤ n → acc.length = i → lcGo g t e (.rng 0 n) env0 f i acc st = .val (acc ++ (List.range (n - i)).map fun j => h (i + j)) st
  | 0, i, acc, h1, h2, _ => by omega
  | f + 1, i, acc, h1, h2, h3 => by
    unfold lcGo
    have ea : (Src.rng 0 n).at_ st i = some (if i < n then some (.int (0 + (i : Int))) else none) := rfl
    rw [ea]
    by_cases hl : i < n
    · obtain ⟨env, e1, e2, e3⟩ := hb i hl
      rw [if_pos hl]
      dsimp only
      rw [e1]
      dsimp only
      rw [e2, pure_val, bind_val]
      dsimp only
      rw [e3, pure_val, bind_val]
      rw [if_pos (by rw [sizeLine_eq]; omega)]
      rw [lc_rng hn h hb f (i + 1) (acc ++ [h i]) (by omega) (by omega) (by simp [h3])]
      have en : n - i = (n - (i + 1)) + 1 := by omega
      rw [en, List.range_succ_eq_map, List.map_cons, List.map_map, List.append_assoc]
      congr 2
      simp only [List.cons_append, List.nil_append, Nat.add_zero]
      congr 1
      apply List.map_congr_left
      intro j _
      show h (i + 1 + j) = h (i + (j + 1))
      congr 1
      omega
    · rw [if_neg hl]
      have : n - i = 0 := by omega
      rw [this]
      simp
theorem kinds_eq : ∀ i : Fin 52, (names52.map fun x => decide (names52.getD i.val "" = x) || decide (x = "SayError")) = (List.range 52).map fun t => decide (t = i.val) := by decide +kernel
theorem kinds_none : (names52.map fun x => decide (("SayError" : Str) = x) || decide (x = "SayError")).any id = false := by decide +kernel
theorem n52 : names52.length = 52 := by decide +kernel
theorem n52_mem : ∀ x ∈ names52, x ∈ errs := by decide +kernel
theorem sayIn : ("SayError" : Str) ∈ errs := by decide +kernel
theorem pdps_bl : ∀ bs : List Bool, pdps (bs.map D.bl) = some (bs.map PyData.bool)
  | [] => rfl
  | b :: bs => by
    show (match pdp (.bl b), pdps (bs.map D.bl) with
      | some x, some xs => some (x :: xs)
      | _, _ => none) = _
    rw [pdps_bl bs]
    rfl
theorem eqv_bl : ∀ bs : List Bool, PyData.eqvAll (bs.map PyData.bool) (bs.map PyData.bool) = true
  | [] => rfl
  | b :: bs => by
    show (PyData.eqv (.bool b) (.bool b) && PyData.eqvAll (bs.map PyData.bool) (bs.map PyData.bool)) = true
    rw [eqv_bl bs]
    cases b <;> rfl
theorem lay_bl : ∀ bs : List Bool, PyData.canLayAll0 (bs.map PyData.bool) = true
  | [] => rfl
  | b :: bs => lay_bl bs
theorem dep_bl : ∀ bs : List Bool, PyData.depthAll (bs.map PyData.bool) ≤ 1
  | [] => by decide
  | b :: bs => by
    have := dep_bl bs
    show max (PyData.depth (.bool b)) (PyData.depthAll (bs.map PyData.bool)) ≤ 1
    have e : PyData.depth (.bool b) ≤ 1 := by cases b <;> decide
    omega
theorem dNe_bl {bs : List Bool} {st : Sto} : dNe (.ro (bs.map D.bl)) (.ro (bs.map D.bl)) st = .val (.bl false) st := by
  have e : pd st (.ro (bs.map D.bl)) = some (.list (bs.map PyData.bool)) := by
    show (pdps (bs.map D.bl)).map PyData.list = _
    rw [pdps_bl]
    rfl
  have hs : SeqAt.shaped (.list (bs.map PyData.bool)) = true := by
    unfold SeqAt.shaped
    rw [Bool.and_eq_true]
    refine ⟨lay_bl bs, decide_eq_true ?_⟩
    have := dep_bl bs
    show PyData.depthAll (bs.map PyData.bool) + 1 ≤ 64
    omega
  show (match pd st (.ro (bs.map D.bl)), pd st (.ro (bs.map D.bl)) with
    | some p, some q => if (SeqAt.shaped p && SeqAt.shaped q) = true then Out.val (D.bl (!PyData.eqv p q)) st else .bad
    | _, _ => .bad) = _
  rw [e]
  dsimp only
  rw [if_pos (by rw [hs]; rfl)]
  rw [show PyData.eqv (.list (bs.map PyData.bool)) (.list (bs.map PyData.bool)) = true from eqv_bl bs]
  rfl
end L2.Ev.k61

namespace L2.Ev.k61
open PySem PySem.Spec PyProof.Rows L2
theorem dct_p {x : Option D} {e : Env'} {st : Sto} : (prs [(kE (.str "a"), kE (.int 1))] (x :: e) st).bind mkDc = .val (.obj st.length) (st ++ [dctA]) := by first | exact Eq.trans (Eq.refl _) (Eq.refl _)
theorem valE_ {c' : Str} {v : D} {st : Sto} (hc : c' ∈ errs) : valE c (.exc c' v) st = .val v st := if_pos (show c.isE c' = true from decide_eq_true hc)
def bodyR (k : Nat) : Env' → Sto → SOut := (seqS (ifS (orT [(cmpT dNe (callV [(attE c (ofEnv 6))] fRepr) (ofEnv 3)), (notT (truT (callV [(ofEnv 6), (kE (.glo "SayError"))] (fIsi c.isE c.kit)))), (notT (truT (callV [(ofEnv 6), (kE (.ty "ValueError"))] (fIsi c.isE c.kit))))]) (seqS (retS (kE (.bl false))) nxS) nxS) (seqS (ifS (cmpT dNe (callE' [(ofEnv 6)] (atN 1 (F k "_law_kinds"))) (lcE false (srcA srcRng1 [(callV [(ofEnv 4)] fLen)]) (tgName 8) yesT (binE dEq (ofEnv 8) (ofEnv 5)) [8])) (seqS (retS (kE (.bl false))) nxS) nxS) nxS))
theorem body_ok {k : Nat} {S : Sto} {o0 o1 o2 : D} {v : D} {s : Str} {i : Nat} {x : D} {y5 y6 : Option D} (hr : fRepr [v] S = .val (.str s) S) (hS : S.all (clO S.length) = true) (hx : (names52.map fun x => D.exc x v)[i]? = some x) :
    asgB (tgTup 2 (tgCons (tgName 5) (tgCons (tgName 6) tgNil))) (bodyR (k + 1)) (.tup [.int i, x]) [some o0, some o1, some o2, some (.str s), some (.ro (names52.map fun x => D.exc x v)), y5, y6, none, none] S =
      .nx [some o0, some o1, some o2, some (.str s), some (.ro (names52.map fun x => D.exc x v)), some (.int i), some x, none, none] S := by
  rw [asgB_some (env2 := [some o0, some o1, some o2, some (.str s), some (.ro (names52.map fun x => D.exc x v)), some (.int i), some x, none, none]) rfl]
  rw [List.getElem?_map] at hx
  obtain ⟨c', hc, rfl⟩ := Option.map_eq_some_iff.mp hx
  have hi : i < 52 := by
    rw [← n52]
    exact (List.getElem?_eq_some_iff.mp hc).1
  have hm : c' ∈ errs := n52_mem c' (List.mem_of_getElem? hc)
  have hk := kinds_ok (k := k) (v := v) hm hS
  have el : (names52.map fun x => D.exc x v).length = 52 := by rw [List.length_map, n52]
  have ekk : (names52.map fun x => D.bl (decide (c' = x) || decide (x = "SayError"))) = ((List.range 52).map fun t => decide (t = i)).map D.bl := by
    have z := kinds_eq ⟨i, hi⟩
    rw [List.getD_eq_getElem?_getD, hc] at z
    rw [← z, List.map_map]
    rfl
  have lc : lcGo (tgName 8) yesT (binE dEq (ofEnv 8) (ofEnv 5)) (.rng 0 52) [some o0, some o1, some o2, some (.str s), some (.ro (names52.map fun x => D.exc x v)), some (.int i), some (.exc c' v), none, none] (52 + 1) 0 [] S = .val (((List.range 52).map fun t => decide (t = i)).map D.bl) S := by
    rw [lc_rng (by omega) (fun j => D.bl (decide (j = i))) (fun j hj => ⟨_, rfl, rfl, ?_⟩) (52 + 1) 0 [] (by omega) (by omega) rfl]
    · rw [List.map_map]
      simp only [List.nil_append, Nat.sub_zero, Nat.zero_add]
      rfl
    · simp only [kE_, ofEnv_0, ofEnv_s, seqS_, setS_, setIxS_, setTgS_, retS_, exprS_, ifS_, forS_, nxS_, binE_, unE_, iteE_, cmpT_, callV_, callE_, evs_nil, evs_cons, mthE_, tupE_, lstE_, slE_, noO_, paO_, attE_, dctE_, lrgE1_, lcE_, srcE_, srcA_, truT_, notT_, frzE_, orT_1, orT_2, andT_1, andT_2, andE_1, andE_2, orE_1, orE_2, bind_val, toS_val, pure_val, ofP_, fin_rt, fin_nx, mkL_f, chk_b, tru_b, List.set_cons_zero, List.set_cons_succ, List.length_cons, List.length_nil, List.map_cons, List.map_nil, List.cons_append, List.nil_append, List.replicate, dAdd_ii, dSub_ii, dGt_ii, dLt_ii, dGe_ii, dEq_ii, fInt_i, fInt_b, fAbs_i, fLen_ro]
      congr 2
      rw [Bool.eq_iff_iff]
      simp
      constructor <;> intro h <;> omega
  have es : srcRng1 [.int 52] S = .val (.rng 0 52) S := by first | exact Eq.trans (Eq.refl _) (Eq.refl _)
  have ew : wipeE [some o0, some o1, some o2, some (.str s), some (.ro (names52.map fun x => D.exc x v)), some (.int i), some (.exc c' v), none, none] [8] = [some o0, some o1, some o2, some (.str s), some (.ro (names52.map fun x => D.exc x v)), some (.int i), some (.exc c' v), none, none] := rfl
  have eln : (Src.rng 0 52).len S = 52 := rfl
  unfold bodyR
  simp only [kE_, ofEnv_0, ofEnv_s, seqS_, setS_, setIxS_, setTgS_, retS_, exprS_, ifS_, forS_, nxS_, binE_, unE_, iteE_, cmpT_, callV_, callE_, evs_nil, evs_cons, mthE_, tupE_, lstE_, slE_, noO_, paO_, attE_, dctE_, lrgE1_, lcE_, srcE_, srcA_, truT_, notT_, frzE_, orT_1, orT_2, andT_1, andT_2, andE_1, andE_2, orE_1, orE_2, bind_val, toS_val, pure_val, ofP_, fin_rt, fin_nx, mkL_f, chk_b, tru_b, List.set_cons_zero, List.set_cons_succ, List.length_cons, List.length_nil, List.map_cons, List.map_nil, List.cons_append, List.nil_append, List.replicate, dAdd_ii, dSub_ii, dGt_ii, dLt_ii, dGe_ii, dEq_ii, fInt_i, fInt_b, fAbs_i, fLen_ro, valE_ hm, hr, dNe_ss, beq_self_eq_true, Bool.not_true, isi hm sayIn, isi_ve hm, decide_true, Bool.or_true, atN_ (show [D.exc c' v].length = 1 from rfl), hk, el]
  rw [show ((52 : Nat) : Int) = 52 from rfl, es]
  simp only [kE_, ofEnv_0, ofEnv_s, seqS_, setS_, setIxS_, setTgS_, retS_, exprS_, ifS_, forS_, nxS_, binE_, unE_, iteE_, cmpT_, callV_, callE_, evs_nil, evs_cons, mthE_, tupE_, lstE_, slE_, noO_, paO_, attE_, dctE_, lrgE1_, lcE_, srcE_, srcA_, truT_, notT_, frzE_, orT_1, orT_2, andT_1, andT_2, andE_1, andE_2, orE_1, orE_2, bind_val, toS_val, pure_val, ofP_, fin_rt, fin_nx, mkL_f, chk_b, tru_b, List.set_cons_zero, List.set_cons_succ, List.length_cons, List.length_nil, List.map_cons, List.map_nil, List.cons_append, List.nil_append, List.replicate, dAdd_ii, dSub_ii, dGt_ii, dLt_ii, dGe_ii, dEq_ii, fInt_i, fInt_b, fAbs_i, fLen_ro, ew, eln, lc, ekk, dNe_bl]
theorem anyK {S : Sto} : fAny [.ro (names52.map fun x => D.bl (decide (("SayError" : Str) = x) || decide (x = "SayError")))] S = .val (.bl false) S := by
  have e1 : (names52.map fun x => D.bl (decide (("SayError" : Str) = x) || decide (x = "SayError"))) = (names52.map fun x => decide (("SayError" : Str) = x) || decide (x = "SayError")).map D.bl := by
    rw [List.map_map]
    rfl
  unfold fAny
  dsimp only
  rw [listOf_ro, e1]
  simp only [Option.bind_some, blsOf_map, kinds_none]
theorem right_ok {k : Nat} {st : Sto} {p : Nat} {a b n : Int} (h : st[p]? = some (.lst [.int a, .int b, .int n])) (hs : st.all (clO st.length) = true) (ha : 0 ≤ a) (hb : 0 ≤ b) (hb2 : b < 2305843009213693952) (hn : 0 ≤ n) (hn2 : n ≤ 900) :
    ∃ a' n', F (k + 3) "_law_right" [.obj p] st = .val (.bl true) (st.set p (.lst [.int a', .int b, .int n'])) ∧ 0 ≤ a' ∧ 0 ≤ n' ∧ n' ≤ n + 2 := by
  have hp : p < st.length := (List.getElem?_eq_some_iff.mp h).1
  have h1 : (st ++ [dctA])[p]? = some (.lst [.int a, .int b, .int n]) := by rw [List.getElem?_append_left hp]; exact h
  obtain ⟨d, a1, n1, e1, d0, d1, a10, n10, n11⟩ := take_ok (k := k + 1) (u := 1000) h1 ha hb hb2 hn (by omega) (by omega) (by omega)
  rw [List.set_append_left _ _ hp] at e1
  have h2 : (st.set p (.lst [.int a1, .int b, .int n1]) ++ [dctA])[p]? = some (.lst [.int a1, .int b, .int n1]) := by
    rw [List.getElem?_append_left (by rw [List.length_set]; exact hp)]
    exact List.getElem?_set_self hp
  obtain ⟨i, v, a2, n2, ev, e2, a20, n20, n21⟩ := of_ok (k := k) (vs := vals st.length d) h2 rfl a10 hb hb2 n10 (by omega)
  rw [List.set_append_left _ _ (by rw [List.length_set]; exact hp), List.set_set] at e2
  generalize hS : st.set p (.lst [.int a2, .int b, .int n2]) ++ [dctA] = S at e2
  have lS : S.length = st.length + 1 := by rw [← hS, List.length_append, List.length_set]; rfl
  have hm : S[st.length]? = some dctA := by
    rw [← hS, List.getElem?_append_right (by rw [List.length_set]; exact Nat.le_refl _), List.length_set, Nat.sub_self]
    rfl
  have c1 : (st.set p (.lst [.int a2, .int b, .int n2])).all (clO st.length) = true := all_set hs rfl
  have cS : S.all (clO S.length) = true := by
    rw [lS, ← hS, List.all_append, Bool.and_eq_true]
    refine ⟨List.all_eq_true.mpr fun o ho => clO_mono (Nat.le_succ _) (List.all_eq_true.mp c1 o ho), rfl⟩
  obtain ⟨⟨s, hr⟩, cv⟩ := val_ok hm d0 d1 ev
  have em := made_ok (k := k + 1) cv cS
  have eb := kinds_ok (k := k + 1) (v := v) sayIn cS
  obtain ⟨env', ef, pe⟩ := for_enum (B := asgB (tgTup 2 (tgCons (tgName 5) (tgCons (tgName 6) tgNil))) (bodyR (k + 2))) (xs := names52.map fun x => D.exc x v) (st := S)
    (fun env => ∃ y5 y6, env = [some (.obj p), some (.ro (vals st.length d)), some v, some (.str s), some (.ro (names52.map fun x => D.exc x v)), y5, y6, none, none])
    (fun i x env hx ⟨y5, y6, ee⟩ => by
      subst ee
      exact ⟨_, body_ok hr cS hx, _, _, rfl⟩)
    ((names52.map fun x => D.exc x v).length + 1) 0 [some (.obj p), some (.ro (vals st.length d)), some v, some (.str s), some (.ro (names52.map fun x => D.exc x v)), none, none, none, none] (Nat.le_refl _) (Nat.zero_le _) ⟨none, none, rfl⟩
  obtain ⟨y5, y6, rfl⟩ := pe
  have ee : srcEnum [.ro (names52.map fun x => D.exc x v)] S = .val (.enum (.ro (names52.map fun x => D.exc x v))) S := by first | exact Eq.trans (Eq.refl _) (Eq.refl _)
  have el : (Src.enum (.ro (names52.map fun x => D.exc x v))).len S = (names52.map fun x => D.exc x v).length := rfl
  have el2 : (names52.map fun x => D.exc x v).length = 52 := by rw [List.length_map, n52]
  refine ⟨a2, n2, ?_, a20, n20, by omega⟩
  rw [f__law_right]
  unfold callF
  have fin : gcO st.length (.val (.bl true) S) = .val (.bl true) (st.set p (.lst [.int a2, .int b, .int n2])) := by
    have et : S.take st.length = st.set p (.lst [.int a2, .int b, .int n2]) := by
      rw [← hS]
      exact List.take_left' (by rw [List.length_set])
    rw [gc_drop rfl (by rw [et]; exact c1), et]
  rw [← fin]
  congr 1
  have e1' : F (k + 2) "_law_take" [.obj p, .int 1000] (st ++ [dctA]) = .val (.int d) (st.set p (.lst [.int a1, .int b, .int n1]) ++ [dctA]) := e1
  have e2' : F (k + 2) "_law_of" [.obj p, .ro [.non, .bl true, .int 0, .int 1, .str "", .str "a", .tup [], .tup [.str "a", .int 1], .ro [], .ro [.int 1, .tup [.int 2]], .obj st.length, .int (d - 500)]] (st.set p (.lst [.int a1, .int b, .int n1]) ++ [dctA]) = .val v S := e2
  simp only [env0, B__law_right, kE_, ofEnv_0, ofEnv_s, seqS_, setS_, setIxS_, setTgS_, retS_, exprS_, ifS_, forS_, nxS_, binE_, unE_, iteE_, cmpT_, callV_, callE_, evs_nil, evs_cons, mthE_, tupE_, lstE_, slE_, noO_, paO_, attE_, dctE_, lrgE1_, lcE_, srcE_, srcA_, truT_, notT_, frzE_, orT_1, orT_2, andT_1, andT_2, andE_1, andE_2, orE_1, orE_2, bind_val, toS_val, pure_val, ofP_, fin_rt, fin_nx, mkL_f, chk_b, tru_b, List.set_cons_zero, List.set_cons_succ, List.length_cons, List.length_nil, List.map_cons, List.map_nil, List.cons_append, List.nil_append, List.replicate, dAdd_ii, dSub_ii, dGt_ii, dLt_ii, dGe_ii, dEq_ii, fInt_i, fInt_b, fAbs_i, fLen_ro, dct_p, mkT_, mkLs_, List.length_cons, List.length_nil, Nat.reduceAdd, Nat.reduceLeDiff, Nat.zero_le, dct_a, atN_, e1', e2']
  have em' : F (k + 2) "_law_made" [v] S = .val (.ro (names52.map fun x => D.exc x v)) S := em
  have eb' : F (k + 2) "_law_kinds" [.exc "SayError" v] S = .val (.ro (names52.map fun x => D.bl (decide (("SayError" : Str) = x) || decide (x = "SayError")))) S := eb
  unfold bodyR at ef
  have ev2 : vals st.length d = [.non, .bl true, .int 0, .int 1, .str "", .str "a", .tup [], .tup [.str "a", .int 1], .ro [], .ro [.int 1, .tup [.int 2]], .obj st.length, .int (d - 500)] := rfl
  rw [ev2] at ef
  simp only [kE_, ofEnv_0, ofEnv_s, seqS_, setS_, setIxS_, setTgS_, retS_, exprS_, ifS_, forS_, nxS_, binE_, unE_, iteE_, cmpT_, callV_, callE_, evs_nil, evs_cons, mthE_, tupE_, lstE_, slE_, noO_, paO_, attE_, dctE_, lrgE1_, lcE_, srcE_, srcA_, truT_, notT_, frzE_, orT_1, orT_2, andT_1, andT_2, andE_1, andE_2, orE_1, orE_2, bind_val, toS_val, pure_val, ofP_, fin_rt, fin_nx, mkL_f, chk_b, tru_b, List.set_cons_zero, List.set_cons_succ, List.length_cons, List.length_nil, List.map_cons, List.map_nil, List.cons_append, List.nil_append, List.replicate, dAdd_ii, dSub_ii, dGt_ii, dLt_ii, dGe_ii, dEq_ii, fInt_i, fInt_b, fAbs_i, fLen_ro, hr, em', atN_, ee, el]
  rw [ef]
  simp only [kE_, ofEnv_0, ofEnv_s, seqS_, setS_, setIxS_, setTgS_, retS_, exprS_, ifS_, forS_, nxS_, binE_, unE_, iteE_, cmpT_, callV_, callE_, evs_nil, evs_cons, mthE_, tupE_, lstE_, slE_, noO_, paO_, attE_, dctE_, lrgE1_, lcE_, srcE_, srcA_, truT_, notT_, frzE_, orT_1, orT_2, andT_1, andT_2, andE_1, andE_2, orE_1, orE_2, bind_val, toS_val, pure_val, ofP_, fin_rt, fin_nx, mkL_f, chk_b, tru_b, List.set_cons_zero, List.set_cons_succ, List.length_cons, List.length_nil, List.map_cons, List.map_nil, List.cons_append, List.nil_append, List.replicate, dAdd_ii, dSub_ii, dGt_ii, dLt_ii, dGe_ii, dEq_ii, fInt_i, fInt_b, fAbs_i, fLen_ro, fSay_, valE_ sayIn, hr, dNe_ss, beq_self_eq_true, Bool.not_true, isi_ve sayIn, atN_, eb', anyK, el2, show ((52 : Nat) : Int) = 52 from rfl, dEq_ss]
/-- the law -/
theorem lap_ok {k : Nat} {st : Sto} {p : Nat} {a b : Int} {x0 : D} (h : st[p]? = some (.lst [.int a, .int b, .int 0])) (hs : st.all (clO st.length) = true) (ha : 0 ≤ a) (hb : 0 ≤ b) (hb2 : b < 2305843009213693952) (o0 o1 : D) :
    ∃ a' n', lcE false (srcA srcRng1 [(kE (.int 3))]) (tgName 3) yesT (callE' [(ofEnv 2)] (atN 1 (F (k + 3) "_law_right"))) [3] [some o0, some o1, some (.obj p), none] st = .val (.ro [.bl true, .bl true, .bl true]) (st.set p (.lst [.int a', .int b, .int n'])) := by
  have hp : p < st.length := (List.getElem?_eq_some_iff.mp h).1
  obtain ⟨a1, n1, e1, a10, n10, n11⟩ := right_ok (k := k) h hs ha hb hb2 (by omega) (by omega)
  have h1 : (st.set p (.lst [.int a1, .int b, .int n1]))[p]? = some (.lst [.int a1, .int b, .int n1]) := List.getElem?_set_self hp
  have s1 : (st.set p (.lst [.int a1, .int b, .int n1])).all (clO (st.set p (.lst [.int a1, .int b, .int n1])).length) = true := by
    rw [List.length_set]
    exact all_set hs rfl
  obtain ⟨a2, n2, e2, a20, n20, n21⟩ := right_ok (k := k) h1 s1 a10 hb hb2 n10 (by omega)
  rw [List.set_set] at e2
  have h2 : (st.set p (.lst [.int a2, .int b, .int n2]))[p]? = some (.lst [.int a2, .int b, .int n2]) := List.getElem?_set_self hp
  have s2 : (st.set p (.lst [.int a2, .int b, .int n2])).all (clO (st.set p (.lst [.int a2, .int b, .int n2])).length) = true := by
    rw [List.length_set]
    exact all_set hs rfl
  obtain ⟨a3, n3, e3, a30, n30, n31⟩ := right_ok (k := k) h2 s2 a20 hb hb2 n20 (by omega)
  rw [List.set_set] at e3
  refine ⟨a3, n3, ?_⟩
  have es : ∀ S, srcRng1 [.int 3] S = .val (.rng 0 3) S := fun S => by first | exact Eq.trans (Eq.refl _) (Eq.refl _)
  have ew : wipeE [some o0, some o1, some (.obj p), none] [3] = [some o0, some o1, some (.obj p), none] := rfl
  have el : ∀ S, (Src.rng 0 3).len S = 3 := fun _ => rfl
  have at_ : ∀ S i, (Src.rng 0 3).at_ S i = some (if i < 3 then some (.int (0 + (i : Int))) else none) := fun _ _ => rfl
  have tg : ∀ d, tgName 3 d [some o0, some o1, some (.obj p), none] = some [some o0, some o1, some (.obj p), some d] := fun _ => rfl
  have sz : ∀ n : Nat, n < 10 → n < sizeLine := fun n hn => by rw [sizeLine_eq]; omega
  have ys : ∀ (e : Env') (S : Sto), yesT e S = .val true S := fun _ _ => by first | exact Eq.trans (Eq.refl _) (Eq.refl _)
  simp only [kE_, ofEnv_0, ofEnv_s, seqS_, setS_, setIxS_, setTgS_, retS_, exprS_, ifS_, forS_, nxS_, binE_, unE_, iteE_, cmpT_, callV_, callE_, evs_nil, evs_cons, mthE_, tupE_, lstE_, slE_, noO_, paO_, attE_, dctE_, lrgE1_, lcE_, srcE_, srcA_, truT_, notT_, frzE_, orT_1, orT_2, andT_1, andT_2, andE_1, andE_2, orE_1, orE_2, bind_val, toS_val, pure_val, ofP_, fin_rt, fin_nx, mkL_f, chk_b, tru_b, List.set_cons_zero, List.set_cons_succ, List.length_cons, List.length_nil, List.map_cons, List.map_nil, List.cons_append, List.nil_append, List.replicate, dAdd_ii, dSub_ii, dGt_ii, dLt_ii, dGe_ii, dEq_ii, fInt_i, fInt_b, fAbs_i, fLen_ro, es, ew, el, lcGo, at_, tg, ys, if_true, atN_, e1, e2, e3, sz, Nat.reduceLT, Nat.lt_irrefl, if_false, Nat.reduceAdd]
  done
end L2.Ev.k61

namespace L2.Ev.k61
open PySem PySem.Spec PyProof.Rows L2
theorem all3 {st : Sto} : fAll [.ro [.bl true, .bl true, .bl true]] st = .val (.bl true) st := by first | exact Eq.trans (Eq.refl _) (Eq.refl _)
def bodyL (k : Nat) : Env' → Sto → SOut := (seqS (setS 2 (callE' [(ofEnv 0), (ofEnv 1)] (atN 2 (F k "_law_pot")))) (seqS (ifS (notT (truT (callV [(lcE false (srcA srcRng1 [(kE (.int 3))]) (tgName 3) yesT (callE' [(ofEnv 2)] (atN 1 (F k "_law_right"))) [3])] fAll))) (seqS (retS (kE (.bl false))) nxS) nxS) nxS))
theorem bodyL_ok2 {k : Nat} {ns : List Int} {pl : Int} {S : Sto} {y1 y2 : Option D} (hp : pl = 0 ∨ pl = 1) (hs : S.all (clO S.length) = true) :
    ∃ S', asgB (tgName 1) (bodyL (k + 3)) (.int pl) [some (.ro (ns.map D.int)), y1, y2, none] S = .nx [some (.ro (ns.map D.int)), some (.int pl), some (.obj S.length), none] S' ∧ S'.length = S.length + 1 ∧ S'.all (clO S'.length) = true := by
  obtain ⟨a, b, ep, a0, b0, b1⟩ := pot_ok (k := k + 2) (ns := ns) (st := S) hp
  have h1 : (S ++ [O.lst [.int a, .int b, .int 0]])[S.length]? = some (.lst [.int a, .int b, .int 0]) := by rw [List.getElem?_append_right (Nat.le_refl _), Nat.sub_self]; rfl
  have l1 : (S ++ [O.lst [.int a, .int b, .int 0]]).length = S.length + 1 := by simp
  have s1 : (S ++ [O.lst [.int a, .int b, .int 0]]).all (clO (S ++ [O.lst [.int a, .int b, .int 0]]).length) = true := by
    rw [l1, List.all_append, Bool.and_eq_true]
    exact ⟨List.all_eq_true.mpr fun o ho => clO_mono (Nat.le_succ _) (List.all_eq_true.mp hs o ho), rfl⟩
  obtain ⟨a', n', el⟩ := lap_ok (k := k) (x0 := .non) h1 s1 a0 b0 b1 (.ro (ns.map D.int)) (.int pl)
  refine ⟨(S ++ [O.lst [.int a, .int b, .int 0]]).set S.length (.lst [.int a', .int b, .int n']), ?_, ?_, ?_⟩
  · rw [asgB_some (env2 := [some (.ro (ns.map D.int)), some (.int pl), y2, none]) rfl]
    unfold bodyL
    have ep' : F (k + 3) "_law_pot" [.ro (ns.map D.int), .int pl] S = .val (.obj S.length) (S ++ [.lst [.int a, .int b, .int 0]]) := ep
    simp only [seqS_, setS_, callE_, evs_cons, evs_nil, ofEnv_0, ofEnv_s, bind_val, atN_ (show [D.ro (ns.map D.int), D.int pl].length = 2 from rfl), ep', toS_val, List.set_cons_succ, List.set_cons_zero, ifS_, notT_, truT_, callV_, el, all3, pure_val, tru_b, Bool.not_true, nxS_]
  · rw [List.length_set, l1]
  · rw [List.length_set]
    exact all_set s1 rfl
theorem bodyL_ok {k : Nat} {ns : List Int} {pl : Int} {S : Sto} {y2 : Option D} (hp : pl = 0 ∨ pl = 1) (hs : S.all (clO S.length) = true) :
    ∃ S', asgB (tgName 1) (bodyL (k + 3)) (.int pl) [some (.ro (ns.map D.int)), none, y2, none] S = .nx [some (.ro (ns.map D.int)), some (.int pl), some (.obj S.length), none] S' ∧ S'.length = S.length + 1 ∧ S'.all (clO S'.length) = true := bodyL_ok2 hp hs
end L2.Ev.k61

namespace L2.Ev.k61
open PySem PySem.Spec PyProof.Rows L2
theorem go_s {b : D → Env' → Sto → SOut} {xs : List D} {f i : Nat} {env env2 : Env'} {st st2 : Sto} {x : D} (h : xs[i]? = some x) (hb : b x env st = .nx env2 st2) :
    forGo b (.seq (.ro xs)) (f + 1) i env st = forGo b (.seq (.ro xs)) f (i + 1) env2 st2 := by
  show (match (Src.seq (.ro xs)).at_ st i with
    | none => SOut.bad
    | some none => .nx env st
    | some (some x) => match b x env st with
      | .nx env st => forGo b (.seq (.ro xs)) f (i + 1) env st
      | .ct env st => forGo b (.seq (.ro xs)) f (i + 1) env st
      | .bk env st => .nx env st
      | .rt d st => .rt d st
      | .exc c v env st => .exc c v env st
      | .bad => .bad) = _
  have e : (Src.seq (.ro xs)).at_ st i = some xs[i]? := by first | rfl | exact Eq.trans (Eq.refl _) (Eq.refl _)
  rw [e, h]
  show (match b x env st with
      | .nx env st => forGo b (.seq (.ro xs)) f (i + 1) env st
      | .ct env st => forGo b (.seq (.ro xs)) f (i + 1) env st
      | .bk env st => .nx env st
      | .rt d st => .rt d st
      | .exc c v env st => .exc c v env st
      | .bad => .bad) = _
  rw [hb]
theorem go_e {b : D → Env' → Sto → SOut} {xs : List D} {f i : Nat} {env : Env'} {st : Sto} (h : xs[i]? = none) :
    forGo b (.seq (.ro xs)) (f + 1) i env st = .nx env st := by
  show (match (Src.seq (.ro xs)).at_ st i with
    | none => SOut.bad
    | some none => .nx env st
    | some (some x) => match b x env st with
      | .nx env st => forGo b (.seq (.ro xs)) f (i + 1) env st
      | .ct env st => forGo b (.seq (.ro xs)) f (i + 1) env st
      | .bk env st => .nx env st
      | .rt d st => .rt d st
      | .exc c v env st => .exc c v env st
      | .bad => .bad) = _
  have e : (Src.seq (.ro xs)).at_ st i = some xs[i]? := by first | rfl | exact Eq.trans (Eq.refl _) (Eq.refl _)
  rw [e, h]
theorem gcO_val {n : Nat} {d : D} {st : Sto} : ∃ st2, gcO n (.val d st) = .val d st2 := by
  unfold gcO
  by_cases h : (clD n d && (st.take n).all (clO n)) = true
  · exact ⟨st.take n, if_pos h⟩
  · exact ⟨st, if_neg h⟩
theorem loop_ok {k : Nat} {ns : List Int} {ys : List D} (hy : ys = [.int 0, .int 1] ∨ ys = [.int 0]) :
    ∃ env S, forGo (asgB (tgName 1) (bodyL (k + 3))) (.seq (.ro ys)) ((Src.seq (.ro ys)).len ([] : Sto) + 1) 0 [some (.ro (ns.map D.int)), none, none, none] [] = .nx (some (.ro (ns.map D.int)) :: env) S := by
  -- one step from any environment of the loop
  obtain ⟨S1, e1, l1, c1⟩ := bodyL_ok (k := k) (ns := ns) (pl := 0) (S := []) (y2 := none) (Or.inl rfl) rfl
  have e1' : asgB (tgName 1) (bodyL (k + 3)) (.int 0) [some (.ro (ns.map D.int)), none, none, none] [] = .nx [some (.ro (ns.map D.int)), some (.int 0), some (.obj 0), none] S1 := e1
  rcases hy with rfl | rfl
  · obtain ⟨S2, e2, l2, c2⟩ := bodyL_ok2 (k := k) (ns := ns) (pl := 1) (S := S1) (y1 := some (.int 0)) (y2 := some (.obj 0)) (Or.inr rfl) c1
    refine ⟨[some (.int 1), some (.obj S1.length), none], S2, ?_⟩
    show forGo _ _ (2 + 1) 0 _ _ = _
    rw [go_s (x := .int 0) rfl e1', go_s (x := .int 1) rfl e2, go_e rfl]
  · refine ⟨[some (.int 0), some (.obj 0), none], S1, ?_⟩
    show forGo _ _ (1 + 1) 0 _ _ = _
    rw [go_s (x := .int 0) rfl e1', go_e rfl]
theorem plain (ns : List Int) (h1 : ns.length ≤ 63) (h2 : ∀ z ∈ ns, Builtin.Int.intBits z ≤ 1048576) : ∃ st, F 20 "law" [.ro (ns.map D.int)] [] = .val (.bl true) st := by
  have eL : F 20 "law" = callF 4 (B_law 19) := f_law 19
  obtain ⟨ys, ec, hy⟩ : ∃ ys, F 19 "_law_cells" [.ro (ns.map D.int), .int 2] [] = .val (.ro ys) [] ∧ (ys = [D.int 0, .int 1] ∨ ys = [D.int 0]) := by
    rcases cells_ok (k := 18) (ns := ns) (st := []) with e | e
    · exact ⟨_, e, Or.inl rfl⟩
    · exact ⟨_, e, Or.inr rfl⟩
  obtain ⟨env, S, el⟩ := loop_ok (k := 16) (ns := ns) hy
  have es : srcD (.ro ys) ([] : Sto) = .val (.seq (.ro ys)) [] := by first | rfl | exact Eq.trans (Eq.refl _) (Eq.refl _)
  rw [eL]
  unfold callF
  have e0 : env0 4 [D.ro (ns.map D.int)] = [some (.ro (ns.map D.int)), none, none, none] := rfl
  have hb : B_law 19 (env0 4 [D.ro (ns.map D.int)]) [] = .rt (.bl true) S := by
    rw [e0]
    have hB : B_law 19 = (seqS (forS (srcE (callE' [(ofEnv 0), (kE (.int 2))] (atN 2 (F 19 "_law_cells")))) (asgB (tgName 1) (bodyL (16 + 3)))) (seqS (retS (kE (.bl true))) nxS)) := rfl
    rw [hB, seqS_, forS_, srcE_]
    simp only [callE_, evs_cons, evs_nil, ofEnv_0, kE_, bind_val, atN_ (show [D.ro (ns.map D.int), D.int 2].length = 2 from rfl), ec, es, toS_val, el, seqS_, retS_]
  rw [hb]
  exact gcO_val
end L2.Ev.k61

set_option maxHeartbeats 0
namespace L2.Ev.k61
open PySem PySem.Spec PyProof.Rows L2
theorem facts {w : World} {K : PySem.W.Frag} {h : Heap} {mg : Str → Option Value} {f : Addr} (X : K.In h) (G : h.Ns mainGlobals mg) (hfa : mg ("law" : Str) = some (.ref f)) (e : hd.obs K = hd.val) :
    ∃ (fd : FuncData), (∀ (s : Shared) (u : Value), BindsTo s fd ⟨[u], []⟩ [(("script" : Str), u)]) ∧
      ∀ base : Heap, FnG PySem.Challenge.rw_somesuchthing_k61_every_error_by_itself.prog w K mg base (L2.CX PySem.Challenge.rw_somesuchthing_k61_every_error_by_itself.prog w) 20 f fd [("script" : Str)] (spD K 1 (F 20 "law")) := by
  obtain ⟨fx, df⟩ := Hd.facts (h := hd) (mu := fun p => decide (p ∈ muL)) (frz := fun p => decide (p ∈ frL)) (P := PySem.Challenge.rw_somesuchthing_k61_every_error_by_itself.prog) X G e fnsP (by decide +kernel) (by kernel_rfl) (by kernel_rfl) (by kernel_rfl)
  exact law_facts fx df (show c.fns ("law" : Str) = some d_law by kernel_rfl) (by kernel_rfl) hfa p_law.2
end L2.Ev.k61
open PySem PySem.W PySem.Calls PyProof.Rows
theorem PySem.Challenge.cw_somesuchthing_k61_every_error_by_itself_holds : PySem.Challenge.rw_somesuchthing_k61_every_error_by_itself.Holds := by
  w_on; o_law
  refine HandSHeadRun.head_any (r := OpenLaw.row PySem.Challenge.rw_somesuchthing_k61_every_error_by_itself) (q := view (OpenLaw.row PySem.Challenge.rw_somesuchthing_k61_every_error_by_itself).prog [62]) (H := L2.Ev.k61.hk) (ob := L2.Ev.k61.ob) (M := 20000) (loose := L2.Ev.k61.names) (d := HandSHeadRun.topDef (OpenLaw.row PySem.Challenge.rw_somesuchthing_k61_every_error_by_itself).prog 62) (kwd := []) L2.Ev.k61.ob_eq
    (by kernel_rfl) (fun s => by kernel_rfl) L2.Ev.k61.run (by kernel_rfl) (by kernel_rfl) (by kernel_rfl) (by rfl) (by first | assumption | decide +kernel) (by decide +kernel) ⟨rfl, rfl, rfl, rfl, rfl, by decide +kernel⟩ ?hw ?hc
  case hw => w_witness2
  case hc =>
    refine L2.Ev.walk_ofG (l := PySem.Challenge.rw_somesuchthing_k61_every_error_by_itself) (n := 63) (k := 20) (x := "script") (CX := fun w => L2.CX PySem.Challenge.rw_somesuchthing_k61_every_error_by_itself.prog w) rfl (by decide) (by kernel_rfl) ⟨⟨rfl, by decide, by decide⟩, rfl⟩ ?F (fun w H s e s' z => ?Z)
    case Z =>
      obtain ⟨a, B, H', cls, d, h1, h2, h3, h4, h5, h6, h7, z⟩ := z
      exact z
    intro w mg fa h Y G hmg0
    obtain ⟨K, KX, c⟩ := Y
    have hmg : mg ("law" : PySem.Str) = some (.ref fa) := by
      have e : (HandSHeadRun.topDef (OpenLaw.row PySem.Challenge.rw_somesuchthing_k61_every_error_by_itself).prog 62).name = ("law" : PySem.Str) := by kernel_rfl
      rw [← e]
      exact hmg0
    obtain ⟨fd, hb, hF⟩ := L2.Ev.k61.facts (w := w) KX G hmg c
    exact ⟨K, fd, L2.Ev.spD K 1 (L2.Ev.k61.F 20 "law"), KX, hb, fun H a ns hl hbits hS => L2.Ev.law_sp hS (L2.Ev.k61.plain ns hl hbits), fun base _ _ => hF base⟩
