import PyProof.Rows.All
import Wide.All
import OpenK.AllK
import Wide.FinOn
import KE.KExcSuper
import HandS.Exc
import HandS.ForExc
import HandS.Defaults
import HandS.ExcIs
import HandS.ForMost
import HandS.Words
import HandS.HeadHook1
import HandS.HeadHook2
import HandS.ListEq
import HandS.Style
import HandS.Wide
import HandS.HeadEnd
import PySem.Challenge.RW_heardsince_k00_errors_keep_what_they_are
import HandS.Small
import HandS.DictTup
import KE.KDictDisplayH
import HandS.ExcInit
import HandS.ExcValue
import HandS.DeepEq
import PyProof.NeKinds
import HandS.IsInst
import HandS.Comp
import KE.KStateDown
import HandS.WordsExc
import HandS.Head0
import HandS.Head1
import HandS.Head2
import HandS.Ends
set_option Elab.async false
set_option linter.all false
set_option maxRecDepth 100000
/-! ## K00M -/
set_option maxHeartbeats 2000000
namespace PySem
namespace HErr
open PySem.W PySem.Calls PyProof.Rows PySem.HandSPX
/-! ### an own exception class is called, with keywords too -/
section
variable {M : Model} {A : Around} {E : Value → Shared → Prop} {h : Heap} {g : Array GenState} {d : Drawn} {t : Nat} {os : OsState}
variable {nm q : Str} {C N : Addr} {bs bm bmB : List Value} {hdct : Bool} {sn : List Str} {sub : List Value} {ab : Bool} {col : Option Bool} {dd : Option Addr} {k0 k1 k2 k3 k5 : Option Value} {B newId initId : String}
theorem check_newK (F : ExcBaseFacts B newId initId bmB) (hT : ∀ X : String, bm.contains (.type X) = bmB.contains (.type X)) {rest : List Value} {kw : List (Str × Value)} {Q : Unit → Shared → Prop}
    (hC : h.get? C = some (excClassObj nm q C N bs bm hdct sn sub ab col dd k0 k1 k2 k3 k5 newId)) (hq : Q () ⟨h, g, d, t, os⟩) : wpAny M A (checkBuiltinCall newId ⟨.ref C :: rest, kw⟩) Q E ⟨h, g, d, t, os⟩ := by
  have hcont : (Value.ref C :: bm).contains (.type B) = true := by rw [List.contains_cons, hT, F.hasB, Bool.or_true]
  have hstar := F.noStar
  simp only [checkBuiltinCall, F.newKind, F.newSplit, F.newRow]
  repeat (first | refine wpAny_loadPart_at hC ?_ | (refine wpAny_isSubtype_exc hC ?_; rw [hcont]) | refine wpAny_staticBase_exc hC ?_ | refine wpAny_madeBy_exc hC ?_ | simp only [bne_self_eq_false, Bool.false_eq_true, if_false] | wp_step)
  exact hq
theorem check_typeK {rest : List Value} {kw : List (Str × Value)} {Q : Unit → Shared → Prop} (hC : h.get? C = some (excClassObj nm q C N bs bm hdct sn sub ab col dd k0 k1 k2 k3 k5 newId))
    (hq : Q () ⟨h, g, d, t, os⟩) : wpAny M A (checkBuiltinCall "type.__call__" ⟨.ref C :: rest, kw⟩) Q E ⟨h, g, d, t, os⟩ := by
  have f3 := tc_sub
  have hT : (⟨h, g, d, t, os⟩ : Shared).TypeIs (.ref C) "type" := ⟨_, hC, rfl⟩
  simp only [checkBuiltinCall, tc_kind, tc_split]
  repeat (any_goals (first | assumption | with_reducible refine wpAny_loadPart_at hC ?_ | with_reducible refine wpAny_onRaise ?_ | with_reducible refine wpAny_map ?_ | wp_step))
end
section
variable {prog : Program} {w : World} {A : Around} {E : Value → Shared → Prop} {R : Result → Shared → Prop} {h : Heap} {g : Array GenState} {d : Drawn} {t : Nat} {os : OsState}
variable {nm q : Str} {C N : Addr} {bs bm bmB : List Value} {hdct : Bool} {sn : List Str} {sub : List Value} {ab : Bool} {col : Option Bool} {dd : Option Addr} {k0 k1 k2 k3 k5 : Option Value} {B newId initId : String}
theorem newK (F : ExcBaseFacts B newId initId bmB) (hT : ∀ X : String, bm.contains (.type X) = bmB.contains (.type X)) {rest : List Value} {kw : List (Str × Value)}
    (hC : h.get? C = some (excClassObj nm q C N bs bm hdct sn sub ab col dd k0 k1 k2 k3 k5 newId))
    (hq : R (.ok (.ret (.ref (h.objs.size + 1)))) ⟨(h.push { cls := .type "tuple", data := .seq rest.toArray }).push
      { cls := .ref C, data := .fields #[.ref h.objs.size, .none, .none, .none, .bool false, .none] }, g, d, t, os⟩) (hrest : rest.length ≤ sizeLine) :
    codeAny (model prog w) A (.builtin newId ⟨.ref C :: rest, kw⟩) R ⟨h, g, d, t, os⟩ := by
  have hends := F.ends
  have hcB : (Value.ref C :: bm).contains (.type B) = true := by rw [List.contains_cons, hT, F.hasB, Bool.or_true]
  have hcA : (Value.ref C :: bm).contains (.type "AttributeError") = false := by rw [List.contains_cons, hT, F.noAttr]; rfl
  have hcN : (Value.ref C :: bm).contains (.type "NameError") = false := by rw [List.contains_cons, hT, F.noName]; rfl
  refine codeAny_builtinAt F.entry ?_
  unfold Builtin.«BaseException.__new__»
  refine wpAt_bind ?_
  show wpAt _ _ _ (stack >>= _) _ _ _
  refine wpAt_bind (wpAt_stack fun p below => wpAt_of_wpAny ?_)
  wp_walk
  refine wpAt_of_wpAny ?_
  rw [F.owner]
  repeat (first | with_reducible refine wpAny_madeHere_exc F.canon hC ?_ | with_reducible refine wpAny_loadPart_at hC ?_ | (with_reducible refine wpAny_isSubtype_exc hC ?_; first | rw [hcB] | rw [hcA] | rw [hcN]) | wp_step)
  show R _ _
  rw [Heap.size_push]
  exact hq
theorem type_callK (F : ExcBaseFacts B newId initId bmB) (hT : ∀ X : String, bm.contains (.type X) = bmB.contains (.type X)) {rest : List Value} {kw : List (Str × Value)} {fI : Addr} {Q : Fin → Shared → Prop}
    (hC : h.get? C = some (excClassObj nm q C N bs bm hdct sn sub ab col dd k0 k1 k2 k3 k5 newId))
    (hi : W.Looks (model prog w) h (typeLookup (.ref C) "__init__") (some (.ref fI))) (hb : ∀ self, W.Looks (model prog w) h (bindSpecial (.ref fI) self) (.ref fI, [self])) (hrest : rest.length ≤ sizeLine)
    (hq : codeAny (model prog w) A (.call (.ref fI) ⟨.ref (h.objs.size + 1) :: rest, kw⟩)
      (fun r s' => match r with | .ok (.ret v) => v = .none ∧ Q (.done (.ret (.ref (h.objs.size + 1)))) s' | .ok _ => False | .error e => E e s')
      ⟨(h.push (W.kdv_tup rest)).push (excO C h.objs.size), g, d, t, os⟩) :
    wpAny (model prog w) A (Builtin.«type.__call__» ⟨.ref C :: rest, kw⟩) Q E ⟨h, g, d, t, os⟩ := by
  repeat (first | with_reducible refine wpAny_loadPart_at hC ?_ | with_reducible refine wpAny_madeBy_exc hC ?_ | wp_step)
  refine codeAny_call_builtin_code (Code.quiet_builtin _ F.quiet) (check_newK F hT hC ?_)
  refine newK F hT hC ?_ hrest
  show wpAny _ _ _ _ _ _
  have k : ∀ b o, h.get? b = some o → ((h.push (W.kdv_tup rest)).push (excO C h.objs.size)).get? b = some o := fun b o e => Heap.get?_push_of_some _ (Heap.get?_push_of_some _ e)
  have hC₁ := k _ _ hC
  have hget : ((h.push (W.kdv_tup rest)).push (excO C h.objs.size)).get? (h.objs.size + 1) = some (excO C h.objs.size) := by heap_get
  have hcC : (Value.ref C :: bm).contains (.ref C) = true := by simp
  have i1 := hi.keeps k
  have b1 := (hb (.ref (h.objs.size + 1))).keeps k
  unfold isInstance
  repeat (first | with_reducible refine wpAny_loadPart_at hget ?_ | (with_reducible refine wpAny_isSubtype_exc hC₁ ?_; rw [hcC]) | wp_step)
  show wpAny _ _ (typeLookup (.ref C) _) _ _ _
  refine i1.at ?_
  refine wpAny_holding (wpAny_bind (b1.at ?_))
  refine wpAny_bind (wpAny_call (codeAny_mono hq fun r s' z => ?_))
  rcases r with e | (v | _ | _ | _) <;> first | exact z | exact z.elim | skip
  obtain ⟨rfl, z⟩ := z
  first
    | exact wpAny_pure (wpAny_pure z)
    | (wp_walk; exact z)
theorem callK (F : ExcBaseFacts B newId initId bmB) (hT : ∀ X : String, bm.contains (.type X) = bmB.contains (.type X)) {rest : List Value} {kw : List (Str × Value)} {fI : Addr}
    (hC : h.get? C = some (excClassObj nm q C N bs bm hdct sn sub ab col dd k0 k1 k2 k3 k5 newId))
    (hi : W.Looks (model prog w) h (typeLookup (.ref C) "__init__") (some (.ref fI))) (hb : ∀ self, W.Looks (model prog w) h (bindSpecial (.ref fI) self) (.ref fI, [self])) (hrest : rest.length ≤ sizeLine)
    (hq : codeAny (model prog w) (A.under (.builtin "type.__call__" ⟨.ref C :: rest, kw⟩)) (.call (.ref fI) ⟨.ref (h.objs.size + 1) :: rest, kw⟩) (W.InitBack (h.objs.size + 1) R)
      ⟨(h.push (W.kdv_tup rest)).push (excO C h.objs.size), g, d, t, os⟩) :
    codeAny (model prog w) A (.call (.ref C) ⟨rest, kw⟩) R ⟨h, g, d, t, os⟩ := by
  have f1 := tc_lookup
  have f2 := tc_bind (.ref C)
  have hTy : (⟨h, g, d, t, os⟩ : Shared).TypeIs (.ref C) "type" := ⟨_, hC, rfl⟩
  refine codeAny_of_tree ?_
  show wpAny _ _ (callAny (.ref C) _) _ _ _
  repeat (any_goals (first | assumption | with_reducible refine wpAny_loadPart_at hC ?_ | wp_step))
  refine ⟨rfl, ?_⟩
  refine codeAny_call_builtin_at (Code.quiet_builtin _ (by decide +kernel)) entry_typeCall (check_typeK hC (type_callK F hT hC hi hb hrest ?_))
  refine codeAny_mono hq fun r s' z => ?_
  rcases r with e | (v | _ | _ | _) <;> exact z
end
/-! ### self.name = v where the exception has its dict already -/
section
open Builtin Builtin.ObjectAttr
variable {prog : Program} {w : World} {A : Around} {E : Value → Shared → Prop} {R : Result → Shared → Prop} {hp : Heap} {g : Array GenState} {d : Drawn} {t : Nat} {os : OsState}
theorem osa_old {K : W.Frag} {name : Str} {tk : Tok} {v : Value} {x C dx : Addr} {fv : Array Value} {cd : ClassData} {m0 : Str → Option Value} {nl : List Str}
    (X : K.In hp) (hx : hp.get? x = some { cls := .ref C, dict := some dx, data := .fields fv }) (hns : hp.Ns1 dx m0) (hw : Within m0 nl) (hz : nl.length ≤ 1000) (hcd : W.clsIn K C = some cd) (hm : refsVE cd.mro = true) (hh : cd.hasDict = true)
    (ha : W.findIn K (.ref C) name = some none)
    (hq : ∀ h' tk', (∀ b o, b ≠ dx → hp.get? b = some o → h'.get? b = some o) → h'.Ns1 dx (fun y => if y = name then some v else m0 y) → R (.ok (.ret .none)) ⟨h', g, d, tk', os⟩) :
    codeAny (model prog w) A (.call (.builtin "object.__setattr__") ⟨[.ref x, .str name tk, v], []⟩) R ⟨hp, g, d, t, os⟩ := by
  obtain ⟨oD, esD, epD, hoD, hdD, _⟩ := hns.count hw
  have I : W.InstAt hp x { cls := .ref C, dict := some dx, data := .fields fv } C (some oD) := ⟨hx, rfl, rfl, hoD⟩
  have SF := F.store_object
  have ne := refsVE_ne hm
  have hob : cd.mro.contains (.type "object") = true := (refsVE_contains "object" _ hm).trans (by decide +kernel)
  have sub : W.Looks (model prog w) hp (isInstance (.ref x) (.type "object")) true := I.type.andThen (W.looks_mroIn X (by unfold W.mroIn; rw [hcd, Option.bind_some, if_neg (by rw [ne]; decide), hob]))
  refine codeAny_call_builtin SF.slot.plain SF.entry (@W.check_slot (model prog w) _ _ ⟨hp, g, d, t, os⟩ "object.__setattr__" "object" "__setattr__" (.ref x) [.str name tk, v] [] _ SF.kind SF.split sub (SF.args (.ref x) (.str name tk) v) ?_)
  have hmr : W.Looks (model prog w) hp (mroOf (.ref C)) cd.mro := (W.looks_clsIn X hcd).andThen .now
  have L3 : W.Looks (model prog w) hp (storeTaker? none) none := .now
  have hcls : W.Looks (model prog w) hp (classData C) cd := W.looks_clsIn X hcd
  rw [W.osa_eq, refuse_eq]
  refine wpAny_bind (wpAny_bind (I.type.at (wpAny_bind (hmr.at ?_))))
  rw [refsVE_pass _ _ hm]
  refine wpAny_pure (wpAny_bind (I.type.at (wpAny_bind ((W.looks_findIn X ha).at (wpAny_bind (L3.at ?_))))))
  show wpAny _ _ (storeInOwnDict (.ref x) (.ref C) (.str name tk) name v false) _ _ _
  obtain ⟨nm, bs, mro, ns, qn, hd, sn, sb, ab, col, del⟩ := cd
  dsimp only at hh
  subst hh
  unfold storeInOwnDict ownDictForStores
  have fin : ∀ {Q : Fin → Shared → Prop} {E : Value → Shared → Prop}, (∀ h' tk', h'.Ns1 dx (fun y => if y = name then some v else m0 y) → Heap.SameBut dx hp h' → Q (.done (.ret .none)) ⟨h', g, d, tk', os⟩) →
      wpAny (model prog w) A.in1 (storeInDict dx (.str name tk) name v) Q E ⟨hp, g, d, t, os⟩ := fun {Q E} hq => by
    unfold storeInDict newKeyGuard
    refine wpAny_bind (wpAny_pure (wpAny_bind (wpAny_nsSet1 hns fun h' hn' hs => ?_)))
    obtain ⟨oD, esD, epD, hoD, hdD, hcD⟩ := hn'.count (Within.cons name v hw)
    refine wpAny_bind (wpAny_lookBehind hoD (by rw [hdD]; exact pastItsLine_dict (Nat.le_trans hcD (by rw [List.length_cons, sizeLine_eq]; omega))) ?_)
    wp_walk
    exact hq h' _ hn' hs
  repeat (first | with_reducible refine fin ?_ | with_reducible refine wpAny_loadPart_at hx ?_ | with_reducible refine hcls.at ?_ | wp_step)
  intro h' tk' hn' hs
  exact hq h' tk' (fun b o hb ho => (hs.2 b hb).trans ho) hn'
end
end HErr
end PySem
/-! ## K00N -/
set_option maxHeartbeats 2000000
namespace PySem
namespace HErr
open PySem.W PySem.Calls PyProof.Rows PySem.HandSPX
/-! ### the text of an __init__: super().__init__(f); self.f = f -/
def iA1 (f : Str) (p1 p2 : Pos) : Arguments := { posonlyargs := [], args := [{ arg := "self", annotation := none, pos := p1 }, { arg := f, annotation := none, pos := p2 }], vararg := none, kwonlyargs := [], kw_defaults := [], kwarg := none, defaults := [] }
def iA2 (f g : Str) (p1 p2 p3 : Pos) : Arguments := { posonlyargs := [], args := [{ arg := "self", annotation := none, pos := p1 }, { arg := f, annotation := none, pos := p2 }, { arg := g, annotation := none, pos := p3 }], vararg := none, kwonlyargs := [], kw_defaults := [], kwarg := none, defaults := [] }
def iSup (es : List Expr) (q1 q2 q3 q4 q5 : Pos) : Stmt := .Expr (.Call (.Attribute (.Call (.Name "super" q1) [] [] q2) "__init__" q3) es [] q4) q5
def iSto (f : Str) (r1 r2 r3 r4 : Pos) : Stmt := .Assign [.Attribute (.Name "self" r1) f r2] (.Name f r3) r4
def iS1 (f : Str) : Scope := { kind := .function, names := [("self", .local), (f, .local), ("__class__", .free), ("super", .globalImplicit)], isGenerator := false, isCoroutine := false, more := [] }
def iS2 (f g : Str) : Scope := { kind := .function, names := [("self", .local), (f, .local), (g, .local), ("__class__", .free), ("super", .globalImplicit)], isGenerator := false, isCoroutine := false, more := [] }
/-- where an __init__ stands: its function object, its cell of the class, its code object -/
def InitFn (prog : Program) (K : Frag) (q : Str) (C fI : Addr) (A : Arguments) (B : List Stmt) (S : Scope) : Prop :=
  ∃ (oc : Value) (od : Option Addr) (osl : Array (Option Value)) (doc pm : Value) (an : Option Addr) (cda : Addr) (ct : Value) (cc : Addr) (cl : Value) (cld : Option Addr) (csl : Array (Option Value)) (ccl : Value) (cdd : Option Addr) (vs : Array Value) (ccs : Array (Option Value)) (file : Str) (tf : Tok),
    K.lookup fI = some ⟨oc, od, .func (fnX "__init__" q A B S [("__class__", cc)] .none .none doc pm an (.ref cda) ct), osl⟩ ∧ codeIn K (.ref cda) q = true ∧
    K.lookup cc = some ⟨cl, cld, .cell (some (.ref C)), csl⟩ ∧ K.lookup cda = some ⟨ccl, cdd, .fields vs, ccs⟩ ∧ vs[2]? = some (.str file tf) ∧ ((prog.main.file : Str) == file) = true
/-- what is asked of an error's class -/
structure ErrC (K : Frag) (C fI : Addr) : Prop where
  cls : ∃ nm q N bs bm sn sub ab col dd k0 k1 k2 k3 k5, K.lookup C = some (excClassObj nm q C N bs bm true sn sub ab col dd k0 k1 k2 k3 k5 "ValueError.__new__") ∧ refsVE bm = true
  sa : findIn K (.ref C) "__setattr__" = some (some (.builtin "object.__setattr__"))
  ga : findIn K (.ref C) "__getattribute__" = some (some (.builtin "BaseException.__getattribute__"))
  gg : findIn K (.ref C) "__getattr__" = some none
  iC : findIn K (.ref C) "__init__" = some (some (.ref fI))
  tC : typeIn K (.ref fI) = some (.type "function")
  kC : keepIn K (.ref C) = true
  exC : subIn K (.ref C) (.type "BaseException") = some true
  veC : subIn K (.ref C) (.type "ValueError") = some true
  tyC : typeIn K (.ref C) = some (.type "type")
  hdC : hasDictIn K C = true
  meC : mroIn K C (.ref C) = some true
  su : ks_superIn K C C "__init__" = some (some (.builtin "ValueError.__init__"))
  st : nsIn K cStatics "thirdparty.any" = some none
/-- the module's names and the built-ins' -/
structure Nms (prog : Program) (h : Heap) (mg : Str → Option Value) : Prop where
  glob : h.Ns mainGlobals mg
  blt : ∃ mb, h.Ns builtinsNs mb ∧ ∀ x : Str, x ≠ "__name__" → mb x = bootBuiltins x
  lim : h.NoLimit
  sup : mg "super" = none
  top : (prog.main.scope.names.lookup ("super" : Str)).isSome = false
theorem Nms.keeps {prog : Program} {h h' : Heap} {mg : Str → Option Value} (n : Nms prog h mg) (k : ∀ b o, h.get? b = some o → h'.get? b = some o) : Nms prog h' mg :=
  ⟨n.glob.keeps k, let ⟨mb, a, b⟩ := n.blt; ⟨mb, a.keeps k, b⟩, n.lim.keeps k, n.sup, n.top⟩
section
variable {prog : Program} {w : World} {A : Around} {E : Value → Shared → Prop} {R : Result → Shared → Prop} {s : Shared} {K : Frag} {mg : Str → Option Value} {C fI : Addr}
theorem ErrC.cd {K : Frag} {C fI : Addr} (T : ErrC K C fI) : ∃ cd, clsIn K C = some cd ∧ refsVE cd.mro = true ∧ cd.hasDict = true := by
  obtain ⟨nm, q, N, bs, bm, sn, sub, ab, col, dd, k0, k1, k2, k3, k5, hC, hbm⟩ := T.cls
  exact ⟨{ name := nm, bases := bs, mro := .ref C :: bm, ns := N, qualname := q, hasDict := true, slotNames := sn, subclasses := sub, abstract := ab, collection := col, hasDel := false }, by unfold clsIn; rw [hC] <;> rfl, hbm, rfl⟩
theorem ldL {M : Model} {env : Env} {L : Addr} {m : Str → Option Value} {x : Str} {pos : Pos} {v : Value} {Q : Value → Shared → Prop} (hn : s.heap.Ns L m) (hL : env.locals = L) (hv : m x = some v) (h : Q v s)
    (hk : env.scope.kind = .function) (hl : env.kindOf x = some .local) (hd : (x == ("__debug__" : Str)) = false) : wpAny M A (eval (.Name x pos) env) Q E s :=
  wpAny_Name (wpAny_loadName_local hk hl (hL ▸ hn) hv h) hd
/-- the method call's tree, where it stands on one line -/
def plO (o : Expr) (env : Env) : Sem Bool := do return (← importBound o env).getD true
theorem mc_line {o : Expr} {m : Str} {apos pos : Pos} {env : Env} {args : List Expr} (hf : methodCallForm (args.length + 0) (backTo pos (starEach args env)) [] = true) (hl : (apos.endLine == pos.line) = true) :
    eval (.Call (.Attribute o m apos) args [] pos) env = (do
      let ov ← attributeBase o m env (eval o env)
      standAt apos.atName
      let (f, first) ← holding [ov] (getMethod ov m (plO o env))
      callWith pos f first (backTo pos (starEach args env)) []) := by
  rw [arm_eval_Call]
  have e1 : ∀ ov, calleeOf (methodCallForm (args.length + 0) (backTo pos (starEach args env)) []) o env ov m = getMethod ov m (plO o env) := fun ov => by
    rw [hf] <;> rfl
  have e2 : methodCallPos (methodCallForm (args.length + 0) (backTo pos (starEach args env)) []) o env apos pos = pure pos := by
    unfold methodCallPos
    exact if_pos (by rw [hl, Bool.or_true])
  have e3 : ∀ ov, methodCall o m apos pos env ov (args.length + ([] : List Keyword).length) (backTo pos (starEach args env)) (backToKw pos (keywordEach [] env)) = (do
      let (f, first) ← holding [ov] (getMethod ov m (plO o env))
      callWith pos f first (backTo pos (starEach args env)) []) := fun ov => by
    show methodCall o m apos pos env ov (args.length + 0) (backTo pos (starEach args env)) [] = _
    unfold methodCall
    rw [e1, e2]
    first
      | rfl
      | simp only [pure_bind]
  simp only [e3]
/-- super().__init__(e, ..) within the body of the method at fI of the class C, of the exception at x: its args are laid anew -/
theorem sup_init {q : Str} {B : List Stmt} {S : Scope} {L cc cda : Addr} {ar : Arg} {fd : FuncData} {oc : Value} {od : Option Addr} {osl : Array (Option Value)} {cl : Value} {cld : Option Addr} {csl : Array (Option Value)} {ccl : Value} {cdd : Option Addr} {vs : Array Value} {ccs : Array (Option Value)} {file : Str} {tf : Tok}
    {x t0 : Addr} {m : Str → Option Value} {e : Expr} {es : List Expr} {us : List Value} {q1 q2 q3 q4 q5 : Pos} {Q : Flow → Shared → Prop}
    (T : ErrC K C fI) (X : K.In s.heap) (G : Nms prog s.heap mg) (hx : s.heap.get? x = some (excO C t0))
    (ho : K.lookup fI = some ⟨oc, od, .func fd, osl⟩) (hp : (fd.params.posonlyargs ++ fd.params.args).head? = some ar) (hcc : K.lookup cc = some ⟨cl, cld, .cell (some (.ref C)), csl⟩)
    (hcd : K.lookup cda = some ⟨ccl, cdd, .fields vs, ccs⟩) (hv2 : vs[2]? = some (.str file tf)) (hfile : ((prog.main.file : Str) == file) = true)
    (hk : S.kind = .function) (ks : S.names.lookup ("super" : Str) = some .globalImplicit) (kc : S.names.lookup ("__class__" : Str) = some .free) (ka : S.names.lookup ar.arg = some .local)
    (hns : s.heap.Ns L m) (hm : m ar.arg = some (.ref x))
    (hargs : ∀ (s1 : Shared) (Q1 : List Value → Shared → Prop), s1.heap.Ns L m → Q1 us s1 → wpAny (model prog w) A (spliced ((false, eval e (ksEnv q S L fI (.ref cda) cc)) :: backTo q4 (starEach es (ksEnv q S L fI (.ref cda) cc)))) Q1 E s1)
    (hstar : starEach (e :: es) (ksEnv q S L fI (.ref cda) cc) = (false, eval e (ksEnv q S L fI (.ref cda) cc)) :: starEach es (ksEnv q S L fI (.ref cda) cc))
    (hpl : (backTo q4 (starEach es (ksEnv q S L fI (.ref cda) cc))).any (·.1) = false) (hz : us.length ≤ sizeLine)
    (hsw : swapsWith (.Call (.Attribute (.Call (.Name "super" q1) [] [] q2) "__init__" q3) (e :: es) [] q4) none q5.line (ksEnv q S L fI (.ref cda) cc) = pure false)
    (hf : methodCallForm ((e :: es).length + 0) (backTo q4 (starEach (e :: es) (ksEnv q S L fI (.ref cda) cc))) [] = true) (hl : (q3.endLine == q4.line) = true)
    (h : ∀ h' tk t1, (∀ b o, b ≠ x → s.heap.get? b = some o → h'.get? b = some o) → h'.get? x = some (excO C t1) → Q .next { s with heap := h', toks := tk }) :
    PySem.wpAt (model prog w) A (.func B (ksEnv q S L fI (.ref cda) cc)) (exec (iSup (e :: es) q1 q2 q3 q4 q5) (ksEnv q S L fI (.ref cda) cc)) Q E s := by
  obtain ⟨cd, hcl, hmro, hdd⟩ := T.cd
  obtain ⟨oD, hD1, hD2⟩ : ∃ oD, s.heap.get? C = some oD ∧ oD.data = .cls cd := by
    have z := hcl
    unfold clsIn at z
    split at z
    · rename_i c d cd' sl ho
      cases z
      exact ⟨_, X _ _ ho, rfl⟩
    · cases z
  have I : InstAt s.heap x (excO C t0) C none := ⟨hx, rfl, rfl, trivial⟩
  have hxC : x ≠ C := ks_ne X I hcl
  refine ks_wpAt_Expr_any (hi := ?hi) (hs := hsw) (ks_wpAt_MethodCall (pl := plO (.Call (.Name "super" q1) [] [] q2) (ksEnv q S L fI (.ref cda) cc)) (he := mc_line hf hl) ?_)
  case hi => show (S.kind == .module && _) = false; rw [hk]; rfl
  refine ks_wpAt_super_base (env := ksEnv q S L fI (.ref cda) cc) ks kc rfl rfl (X _ _ ho) rfl hp rfl (X _ _ hcd) rfl hv2 hfile G.top ?_
  obtain ⟨mb, hb, hb2⟩ := G.blt
  refine ks_loadName_global hk ks (loadGlobal_builtin (env := ksEnv q S L fI (.ref cda) cc) G.glob G.sup hb ((hb2 _ (by decide +kernel)).trans (by decide +kernel : bootBuiltins "super" = some (.type "super"))) ⟨rfl, ?_⟩)
  refine wpAny_loadName_free hk kc rfl ⟨_, X _ _ hcc, rfl⟩ ?_
  refine wpAny_loadName_local hk ka hns hm ?_
  refine ks_wpAny_isType_cls hD1 hD2 ⟨rfl, ?_⟩
  obtain ⟨hh, g, d, tk, os⟩ := s
  refine ks_wpAny_call_super hD1 hD2 hx rfl (fun c e => nomatch e) (looks_mroIn X T.meC) (fun h1 e1 k1 => ?_)
  have X1 : K.In h1 := X.keeps k1
  have I1 : InstAt h1 x (excO C t0) C none := ⟨k1 _ _ hx, rfl, rfl, trivial⟩
  have hI : Looks (model prog w) h1 (isInstance (.ref x) (.type "ValueError")) true := I1.type.andThen (looks_subIn X1 T.veC)
  have hsu : alongIn K "__init__" ((cd.mro.dropWhile (· != .ref C)).drop 1) = some (some (.builtin "ValueError.__init__")) := by
    have z := T.su
    unfold ks_superIn at z
    rw [hcl] at z
    exact z
  refine kxs_getMethod kxs_ValueError e1 (looks_opaque X1 T.st) (l₀ := cd.mro) ?_ rfl X1 hsu hI hxC (by decide) ?_
  · exact fun A Q E s k q => wpAny_bind ((looks_clsIn X1 hcl) A _ E s k (wpAny_pure q))
  have k2 : ∀ b o, h1.get? b = some o → (h1.push (kxs_mw "ValueError.__init__" x)).get? b = some o := fun b o e => Heap.get?_push_of_some _ e
  have hu : (h1.push (kxs_mw "ValueError.__init__" x)).get? h1.objs.size = some (kxs_mw "ValueError.__init__" x) := Heap.get?_push_at rfl rfl
  rw [hstar]
  refine kxs_callWith (i := "ValueError.__init__") (x := x) (by show (false || (backTo q4 (starEach es (ksEnv q S L fI (.ref cda) cc))).any (·.1)) = false; rw [hpl]; rfl) (evalArgs_plain ?_)
  refine hargs _ _ (hns.keeps fun b o e => k2 b o (k1 b o e)) ⟨hu, ?_⟩
  obtain ⟨nm, qn, N, bs, bm, sn, sub, ab, col, dd, k0, k1', k2', k3, k5, hC, hbm⟩ := T.cls
  have X2 : K.In (h1.push (kxs_mw "ValueError.__init__" x)) := X1.keeps k2
  refine wpAny_call (codeAny_of_tree ?_)
  show wpAny _ A.in1 (callAny (.ref h1.objs.size) ⟨us, []⟩) _ _ _
  simp only [callAny]
  refine wpAny_bind (wpAny_load hu ?_)
  simp only [kxs_mw, show (Value.type "method-wrapper" == Value.type "method" || Value.type "method-wrapper" == Value.type "builtin_function_or_method" || Value.type "method-wrapper" == Value.type "method-wrapper") = true by decide, if_true]
  refine KFB.if_so (by decide) ?_
  have hx2 := k2 _ _ (k1 _ _ hx)
  refine wpAny_bind (check_bound_init PySem.F.excBase_ValueError.toExcCallFacts (X2 _ _ hC) hx2 rfl ?_)
  refine wpAny_bind (wpAny_pure (wpAny_pure ?_))
  refine ⟨plainId_quiet PySem.F.excBase_ValueError.init.plain _, codeAny_builtin PySem.F.excBase_ValueError.initEntry ?_⟩
  refine exc_init_tree (cls := .ref C) (t0 := t0) (dv := none) (c2 := .none) (c3 := .none) (b4 := .bool false) hx2 hz fun h3 k3' e3 _ => ?_
  exact h h3 _ _ (fun b o hb e => k3' b o hb (k2 b o (k1 b o e))) e3
end
end HErr
end PySem
/-! ## K00P -/
set_option maxHeartbeats 2000000
namespace PySem
namespace HErr
open PySem.W PySem.Calls PyProof.Rows PySem.HandSPX
/-- a field's name is none of the others -/
def fldB (f : Str) : Bool := decide (f ≠ "self") && (decide (f ≠ "super") && (decide (f ≠ "__class__") && !(f == ("__debug__" : Str))))
structure FldOk (f : Str) : Prop where
  s : f ≠ "self"
  u : f ≠ "super"
  c : f ≠ "__class__"
  d : (f == ("__debug__" : Str)) = false
theorem fldB_ok {f : Str} (h : fldB f = true) : FldOk f := by
  unfold fldB at h
  simp only [Bool.and_eq_true, decide_eq_true_eq, Bool.not_eq_true'] at h
  exact ⟨h.1, h.2.1, h.2.2.1, h.2.2.2⟩
theorem beqN {a b : Str} (h : a ≠ b) : (a == b) = false := by simpa using h
theorem lk_ne {α : Type} {x a : Str} {v : α} {l : List (Str × α)} (h : x ≠ a) : ((a, v) :: l).lookup x = l.lookup x := by
  rw [List.lookup_cons, beqN h]
theorem lk_eq {α : Type} {x : Str} {v : α} {l : List (Str × α)} : ((x, v) :: l).lookup x = some v := by
  rw [List.lookup_cons, show (x == x) = true from by simp]
section
variable {prog : Program} {w : World} {A : Around} {E : Value → Shared → Prop} {R : Result → Shared → Prop} {s : Shared} {K : Frag} {mg : Str → Option Value} {C fI : Addr}
/-- self.f = v, the first one -/
theorem sto_new {L : Addr} {env : Env} {m : Str → Option Value} {f : Str} {x t1 : Addr} {v : Value} {r1 r2 r3 r4 : Pos} {Q : Flow → Shared → Prop}
    (T : ErrC K C fI) (X : K.In s.heap) (hnf : findIn K (.ref C) f = some none) (hx : s.heap.get? x = some (excO C t1)) (hns : s.heap.Ns L m) (hL : env.locals = L) (hk : env.scope.kind = .function)
    (k1 : env.kindOf f = some .local) (k2 : env.kindOf "self" = some .local) (hd : (f == ("__debug__" : Str)) = false) (hv : m f = some v) (hs : m "self" = some (.ref x))
    (h : ∀ h' tk dx, (∀ b o, b ≠ x → s.heap.get? b = some o → h'.get? b = some o) → s.heap.objs.size ≤ dx → dx ≠ x → h'.get? x = some { cls := .ref C, dict := some dx, data := .fields #[.ref t1, .none, .none, .none, .bool false, .none] } →
      h'.Ns1 dx (fun y => if y = f then some v else none) → Q .next { s with heap := h', toks := tk }) :
    wpAny (model prog w) A (exec (iSto f r1 r2 r3 r4) env) Q E s := by
  refine plainObj_wpAny_Assign_Attribute ?_
  refine ldL hns hL hv (ldL hns hL hs ?_ hk k2 (by decide)) hk k1 hd
  obtain ⟨cd, hcl, hmro, hdd⟩ := T.cd
  refine set_plain X (ox := excO C t1) (od := none) ⟨hx, rfl, rfl, trivial⟩ T.sa ?_
  exact exc_osa X hx hcl hmro hdd hnf (fun h₃ tk₃ dx k₃ dn dne hx₃ hn₃ => h h₃ tk₃ dx k₃ dn dne hx₃ hn₃)
/-- self.f = v, where the dict stands -/
theorem sto_old {L : Addr} {env : Env} {m m0 : Str → Option Value} {nl : List Str} {f : Str} {x t1 dx : Addr} {v : Value} {r1 r2 r3 r4 : Pos} {Q : Flow → Shared → Prop}
    (T : ErrC K C fI) (X : K.In s.heap) (hnf : findIn K (.ref C) f = some none) (hx : s.heap.get? x = some { cls := .ref C, dict := some dx, data := .fields #[.ref t1, .none, .none, .none, .bool false, .none] }) (hns1 : s.heap.Ns1 dx m0) (hw : Within m0 nl) (hz : nl.length ≤ 1000)
    (hns : s.heap.Ns L m) (hL : env.locals = L) (hk : env.scope.kind = .function)
    (k1 : env.kindOf f = some .local) (k2 : env.kindOf "self" = some .local) (hd : (f == ("__debug__" : Str)) = false) (hv : m f = some v) (hs : m "self" = some (.ref x))
    (h : ∀ h' tk, (∀ b o, b ≠ dx → s.heap.get? b = some o → h'.get? b = some o) → h'.Ns1 dx (fun y => if y = f then some v else m0 y) → Q .next { s with heap := h', toks := tk }) :
    wpAny (model prog w) A (exec (iSto f r1 r2 r3 r4) env) Q E s := by
  refine plainObj_wpAny_Assign_Attribute ?_
  refine ldL hns hL hv (ldL hns hL hs ?_ hk k2 (by decide)) hk k1 hd
  obtain ⟨cd, hcl, hmro, hdd⟩ := T.cd
  obtain ⟨oD, esD, epD, hoD, hdD, _⟩ := hns1.count hw
  refine set_plain X (ox := { cls := .ref C, dict := some dx, data := .fields #[.ref t1, .none, .none, .none, .bool false, .none] }) (od := some oD) ⟨hx, rfl, rfl, hoD⟩ T.sa ?_
  exact osa_old X hx hns1 hw hz hcl hmro hdd hnf (fun h₃ tk₃ k₃ hn₃ => h h₃ tk₃ k₃ hn₃)
/-- what an __init__ leaves of the fresh exception at x -/
structure InitEnd (h h' : Heap) (x C dx t1 : Addr) (mA : Str → Option Value) : Prop where
  keep : ∀ b o, b ≠ x → h.get? b = some o → h'.get? b = some o
  obj : h'.get? x = some { cls := .ref C, dict := some dx, data := .fields #[.ref t1, .none, .none, .none, .bool false, .none] }
  dbig : h.objs.size ≤ dx
  dne : dx ≠ x
  ns : h'.Ns1 dx mA
theorem in_but {K : Frag} {h h' : Heap} {x : Addr} (X : K.In h) (hx : K.lookup x = none) (k : ∀ b o, b ≠ x → h.get? b = some o → h'.get? b = some o) : K.In h' := fun a o e =>
  k a o (fun z => by rw [z, hx] at e; cases e) (X a o e)
theorem ns_but {h h' : Heap} {L x : Addr} {m : Str → Option Value} (n : h.Ns L m) (hne : L ≠ x) (k : ∀ b o, b ≠ x → h.get? b = some o → h'.get? b = some o) : h'.Ns L m := by
  obtain ⟨o, es, ep, e, r⟩ := n
  exact ⟨o, es, ep, k _ _ hne e, r⟩
theorem noX {K : Frag} {h : Heap} {x : Addr} (X : K.In h) (e : h.get? x = none) : K.lookup x = none := by
  cases z : K.lookup x with
  | none => rfl
  | some o =>
    have y := X _ _ z
    rw [e] at y
    cases y
theorem init1 {q f : Str} {p1 p2 a1 q1 q2 q3 q4 q5 r1 r2 r3 r4 : Pos} {x t0 : Addr} {v : Value} {args : Args} (T : ErrC K C fI) (hnf : findIn K (.ref C) f = some none) (O : FldOk f) (hl : (q3.endLine == q4.line) = true)
    (F : InitFn prog K q C fI (iA1 f p1 p2) [iSup [.Name f a1] q1 q2 q3 q4 q5, iSto f r1 r2 r3 r4] (iS1 f)) (X : K.In s.heap) (G : Nms prog s.heap mg) (hx : s.heap.get? x = some (excO C t0)) (hnx : K.lookup x = none) (hroom : A.depth < recursionLimit)
    (hb : ∀ (doc pm : Value) (an : Option Addr) (cdv ct : Value) (cc : Addr), BindsTo s (fnX "__init__" q (iA1 f p1 p2) [iSup [.Name f a1] q1 q2 q3 q4 q5, iSto f r1 r2 r3 r4] (iS1 f) [("__class__", cc)] .none .none doc pm an cdv ct) args [("self", .ref x), (f, v)])
    (h : ∀ h' tk dx t1, InitEnd s.heap h' x C dx t1 (fun y => if y = f then some v else none) → R (.ok (.ret .none)) { s with heap := h', toks := tk }) :
    codeAny (model prog w) A (.call (.ref fI) args) R s := by
  obtain ⟨oc, od, osl, doc, pm, an, cda, ct, cc, cl, cld, csl, ccl, cdd, vs, ccs, file, tf, ho, hcd, hcc, hca, hv2, hfile⟩ := F
  have lf : (iS1 f).names.lookup f = some .local := by
    show ((("self" : Str), NameKind.local) :: (f, NameKind.local) :: _).lookup f = _
    rw [lk_ne O.s, lk_eq]
  have lu : (iS1 f).names.lookup ("super" : Str) = some .globalImplicit := by
    show ((("self" : Str), NameKind.local) :: (f, NameKind.local) :: (("__class__" : Str), NameKind.free) :: _).lookup _ = _
    rw [lk_ne (by decide), lk_ne O.u.symm, lk_ne (by decide)]
    rfl
  have lc : (iS1 f).names.lookup ("__class__" : Str) = some .free := by
    show ((("self" : Str), NameKind.local) :: (f, NameKind.local) :: (("__class__" : Str), NameKind.free) :: _).lookup _ = _
    rw [lk_ne (by decide), lk_ne O.c.symm, lk_eq]
  have b1 : ([(("self" : Str), Value.ref x), (f, v)] : List (Str × Value)).reverse.lookup f = some v := by
    show ((f, v) :: _).lookup f = _
    rw [lk_eq]
  have b2 : ([(("self" : Str), Value.ref x), (f, v)] : List (Str × Value)).reverse.lookup ("self" : Str) = some (.ref x) := by
    show ([(f, v), (("self" : Str), Value.ref x)] : List (Str × Value)).lookup ("self" : Str) = _
    rw [lk_ne O.s.symm, lk_eq]
  refine ks_codeAny_call_defAt (fd := fnX "__init__" q (iA1 f p1 p2) [iSup [.Name f a1] q1 q2 q3 q4 q5, iSto f r1 r2 r3 r4] (iS1 f) [("__class__", cc)] .none .none doc pm an (.ref cda) ct) (binds := [("self", .ref x), (f, v)]) hroom (X _ _ ho) rfl G.lim (codeRec_of X hcd) rfl (hb _ _ _ _ _ _) ?_ ?_ (fun h1 hns k1 => ?_) rfl rfl rfl
  · intro y hy
    simp only [fnX, iS1, List.mem_cons, List.mem_nil_iff, or_false] at hy
    rcases hy with rfl | rfl | rfl | rfl <;> exact fun z => nomatch z
  · intro y hy
    simp only [List.mem_cons, List.mem_nil_iff, or_false] at hy
    rcases hy with rfl | rfl
    · rfl
    · exact lf
  have hxL : s.heap.objs.size ≠ x := Nat.ne_of_gt (Heap.lt_size hx)
  have X1 : K.In h1 := X.keeps k1
  refine ks_wpAt_execs_cons ?_
  refine sup_init (q := q) (S := iS1 f) (L := s.heap.objs.size) (cc := cc) (cda := cda) (t0 := t0) (us := [v]) (e := .Name f a1) (es := []) (s := { s with heap := h1, toks := s.toks + 2 }) T X1 (G.keeps k1) (k1 _ _ hx) ho rfl hcc hca hv2 hfile rfl lu lc rfl hns b2 ?_ rfl rfl (by show 1 ≤ sizeLine; rw [sizeLine_eq]; decide) rfl rfl hl ?_
  · intro s1 Q1 hn1 hQ
    exact spliced_cons (ldL hn1 rfl b1 (spliced_nil hQ) rfl lf O.d)
  · intro h2 tk2 t1 k2 hx2
    have hns2 := ns_but hns hxL k2
    have X2 : K.In h2 := in_but X1 hnx k2
    refine wpAt_of_wpAny (wpAny_execs_cons ?_)
    refine sto_new (s := { s with heap := h2, toks := tk2 }) T X2 hnf hx2 hns2 rfl rfl lf rfl O.d b1 b2 fun h3 tk3 dx k3 dn dne hx3 hn3 => ?_
    refine wpAny_execs_nil (h h3 tk3 dx t1 ⟨fun b o hb e => k3 b o hb (k2 b o hb (k1 b o e)), hx3, ?_, dne, hn3⟩)
    have z1 : s.heap.objs.size ≤ h1.objs.size := Nat.le_of_lt hns.lt
    have z2 : s.heap.objs.size < h2.objs.size := hns2.lt
    exact Nat.le_of_lt (Nat.lt_of_lt_of_le z2 dn)
theorem init2 {q f f2 : Str} {p1 p2 p3 a1 a2 q1 q2 q3 q4 q5 r1 r2 r3 r4 r5 r6 r7 r8 : Pos} {x t0 : Addr} {v v2 : Value} {args : Args} (T : ErrC K C fI) (hnf : findIn K (.ref C) f = some none) (hnf2 : findIn K (.ref C) f2 = some none) (O : FldOk f) (O2 : FldOk f2) (hff : f ≠ f2) (hl : (q3.endLine == q4.line) = true)
    (F : InitFn prog K q C fI (iA2 f f2 p1 p2 p3) [iSup [.Name f a1, .Name f2 a2] q1 q2 q3 q4 q5, iSto f r1 r2 r3 r4, iSto f2 r5 r6 r7 r8] (iS2 f f2)) (X : K.In s.heap) (G : Nms prog s.heap mg) (hx : s.heap.get? x = some (excO C t0)) (hnx : K.lookup x = none) (hroom : A.depth < recursionLimit)
    (hb : ∀ (doc pm : Value) (an : Option Addr) (cdv ct : Value) (cc : Addr), BindsTo s (fnX "__init__" q (iA2 f f2 p1 p2 p3) [iSup [.Name f a1, .Name f2 a2] q1 q2 q3 q4 q5, iSto f r1 r2 r3 r4, iSto f2 r5 r6 r7 r8] (iS2 f f2) [("__class__", cc)] .none .none doc pm an cdv ct) args [("self", .ref x), (f, v), (f2, v2)])
    (h : ∀ h' tk dx t1, InitEnd s.heap h' x C dx t1 (fun y => if y = f2 then some v2 else if y = f then some v else none) → R (.ok (.ret .none)) { s with heap := h', toks := tk }) :
    codeAny (model prog w) A (.call (.ref fI) args) R s := by
  obtain ⟨oc, od, osl, doc, pm, an, cda, ct, cc, cl, cld, csl, ccl, cdd, vs, ccs, file, tf, ho, hcd, hcc, hca, hv2, hfile⟩ := F
  have lf : (iS2 f f2).names.lookup f = some .local := by
    show ((("self" : Str), NameKind.local) :: (f, NameKind.local) :: _).lookup f = _
    rw [lk_ne O.s, lk_eq]
  have lf2 : (iS2 f f2).names.lookup f2 = some .local := by
    show ((("self" : Str), NameKind.local) :: (f, NameKind.local) :: (f2, NameKind.local) :: _).lookup f2 = _
    rw [lk_ne O2.s, lk_ne hff.symm, lk_eq]
  have lu : (iS2 f f2).names.lookup ("super" : Str) = some .globalImplicit := by
    show ((("self" : Str), NameKind.local) :: (f, NameKind.local) :: (f2, NameKind.local) :: (("__class__" : Str), NameKind.free) :: _).lookup _ = _
    rw [lk_ne (by decide), lk_ne O.u.symm, lk_ne O2.u.symm, lk_ne (by decide)]
    rfl
  have lc : (iS2 f f2).names.lookup ("__class__" : Str) = some .free := by
    show ((("self" : Str), NameKind.local) :: (f, NameKind.local) :: (f2, NameKind.local) :: (("__class__" : Str), NameKind.free) :: _).lookup _ = _
    rw [lk_ne (by decide), lk_ne O.c.symm, lk_ne O2.c.symm, lk_eq]
  have b1 : ([(("self" : Str), Value.ref x), (f, v), (f2, v2)] : List (Str × Value)).reverse.lookup f = some v := by
    show ((f2, v2) :: (f, v) :: _).lookup f = _
    rw [lk_ne hff, lk_eq]
  have b12 : ([(("self" : Str), Value.ref x), (f, v), (f2, v2)] : List (Str × Value)).reverse.lookup f2 = some v2 := by
    show ((f2, v2) :: (f, v) :: _).lookup f2 = _
    rw [lk_eq]
  have b2 : ([(("self" : Str), Value.ref x), (f, v), (f2, v2)] : List (Str × Value)).reverse.lookup ("self" : Str) = some (.ref x) := by
    show ([(f2, v2), (f, v), (("self" : Str), Value.ref x)] : List (Str × Value)).lookup ("self" : Str) = _
    rw [lk_ne O2.s.symm, lk_ne O.s.symm, lk_eq]
  refine ks_codeAny_call_defAt (fd := fnX "__init__" q (iA2 f f2 p1 p2 p3) [iSup [.Name f a1, .Name f2 a2] q1 q2 q3 q4 q5, iSto f r1 r2 r3 r4, iSto f2 r5 r6 r7 r8] (iS2 f f2) [("__class__", cc)] .none .none doc pm an (.ref cda) ct) (binds := [("self", .ref x), (f, v), (f2, v2)]) hroom (X _ _ ho) rfl G.lim (codeRec_of X hcd) rfl (hb _ _ _ _ _ _) ?_ ?_ (fun h1 hns k1 => ?_) rfl rfl rfl
  · intro y hy
    simp only [fnX, iS2, List.mem_cons, List.mem_nil_iff, or_false] at hy
    rcases hy with rfl | rfl | rfl | rfl | rfl <;> exact fun z => nomatch z
  · intro y hy
    simp only [List.mem_cons, List.mem_nil_iff, or_false] at hy
    rcases hy with rfl | rfl | rfl
    · rfl
    · exact lf
    · exact lf2
  have hxL : s.heap.objs.size ≠ x := Nat.ne_of_gt (Heap.lt_size hx)
  have X1 : K.In h1 := X.keeps k1
  refine ks_wpAt_execs_cons ?_
  refine sup_init (q := q) (S := iS2 f f2) (L := s.heap.objs.size) (cc := cc) (cda := cda) (t0 := t0) (us := [v, v2]) (e := .Name f a1) (es := [.Name f2 a2]) (s := { s with heap := h1, toks := s.toks + 3 }) T X1 (G.keeps k1) (k1 _ _ hx) ho rfl hcc hca hv2 hfile rfl lu lc rfl hns b2 ?_ rfl rfl (by show 2 ≤ sizeLine; rw [sizeLine_eq]; decide) rfl rfl hl ?_
  · intro s1 Q1 hn1 hQ
    exact spliced_cons (ldL hn1 rfl b1 (spliced_cons (ldL hn1 rfl b12 (spliced_nil hQ) rfl lf2 O2.d)) rfl lf O.d)
  · intro h2 tk2 t1 k2 hx2
    have hns2 := ns_but hns hxL k2
    have X2 : K.In h2 := in_but X1 hnx k2
    have z1 : s.heap.objs.size ≤ h1.objs.size := Nat.le_of_lt hns.lt
    have z2 : s.heap.objs.size < h2.objs.size := hns2.lt
    refine wpAt_of_wpAny (wpAny_execs_cons ?_)
    refine sto_new (s := { s with heap := h2, toks := tk2 }) T X2 hnf hx2 hns2 rfl rfl lf rfl O.d b1 b2 fun h3 tk3 dx k3 dn dne hx3 hn3 => ?_
    have hns3 := ns_but hns2 hxL k3
    have X3 : K.In h3 := in_but X2 hnx k3
    have dL : s.heap.objs.size ≠ dx := Nat.ne_of_lt (Nat.lt_of_lt_of_le z2 dn)
    have hw3 : Within (fun y => if y = f then some v else none) [f] := Within.cons f v Within.nil
    refine wpAny_execs_cons ?_
    refine sto_old (s := { s with heap := h3, toks := tk3 }) T X3 hnf2 hx3 hn3 hw3 (by show 1 ≤ 1000; decide) hns3 rfl rfl lf2 rfl O2.d b12 b2 fun h4 tk4 k4 hn4 => ?_
    have dsz : s.heap.objs.size ≤ dx := Nat.le_of_lt (Nat.lt_of_lt_of_le z2 dn)
    refine wpAny_execs_nil (h h4 tk4 dx t1 ⟨fun b o hb e => k4 b o (Nat.ne_of_lt (Nat.lt_of_lt_of_le (Heap.lt_size e) dsz)) (k3 b o hb (k2 b o hb (k1 b o e))), k4 _ _ dne.symm hx3, dsz, dne, hn4⟩)
/-- a made error -/
structure Made (h h' : Heap) (e C d : Addr) (mA : Str → Option Value) : Prop where
  keep : ∀ b o, h.get? b = some o → h'.get? b = some o
  new : h.objs.size ≤ e
  obj : ∃ t1, h'.get? e = some { cls := .ref C, dict := some d, data := .fields #[.ref t1, .none, .none, .none, .bool false, .none] }
  dbig : h.objs.size ≤ d
  dne : d ≠ e
  ns : h'.Ns1 d mA
theorem made {rest : List Value} {kw : List (Str × Value)} {mA : Str → Option Value} (T : ErrC K C fI) (X : K.In s.heap) (hz : rest.length ≤ sizeLine)
    (hi : ∀ (s1 : Shared) (x t0 : Addr) (R1 : Result → Shared → Prop), K.In s1.heap → (∀ b o, s.heap.get? b = some o → s1.heap.get? b = some o) → s1.heap.get? x = some (excO C t0) → K.lookup x = none →
      (∀ h' tk dx t1, InitEnd s1.heap h' x C dx t1 mA → R1 (.ok (.ret .none)) { s1 with heap := h', toks := tk }) → codeAny (model prog w) (A.under (.builtin "type.__call__" ⟨.ref C :: rest, kw⟩)) (.call (.ref fI) ⟨.ref x :: rest, kw⟩) R1 s1)
    (hq : ∀ h' tk e d, Made s.heap h' e C d mA → R (.ok (.ret (.ref e))) { s with heap := h', toks := tk }) :
    codeAny (model prog w) A (.call (.ref C) ⟨rest, kw⟩) R s := by
  obtain ⟨nm, q, N, bs, bm, sn, sub, ab, col, dd, k0, k1, k2, k3, k5, hC, hbm⟩ := T.cls
  obtain ⟨hp, g, dr, tk, os⟩ := s
  have k : ∀ b o, hp.get? b = some o → ((hp.push (kdv_tup rest)).push (excO C hp.objs.size)).get? b = some o := fun b o e => Heap.get?_push_of_some _ (Heap.get?_push_of_some _ e)
  have hget : ((hp.push (kdv_tup rest)).push (excO C hp.objs.size)).get? (hp.objs.size + 1) = some (excO C hp.objs.size) := by heap_get
  have hnx : K.lookup (hp.objs.size + 1) = none := noX X (Heap.get?_none_of_le (Nat.le_succ _))
  refine callK PySem.F.excBase_ValueError (fun X => refsVE_contains X bm hbm) (X _ _ hC) (looks_findIn X T.iC) (fun self => bind_fn X self T.tC) hz ?_
  refine hi ⟨(hp.push (kdv_tup rest)).push (excO C hp.objs.size), g, dr, tk, os⟩ _ _ _ (X.keeps k) k hget hnx fun h' tk' dx t1 ⟨k', hx, dn, dne, hns⟩ => ?_
  have old : ∀ b o, hp.get? b = some o → h'.get? b = some o := fun b o e => k' b o (Nat.ne_of_lt (Nat.lt_succ_of_lt (Heap.lt_size e))) (k b o e)
  have z : hp.objs.size + 1 + 1 ≤ dx := by
    first
      | (simpa only [Heap.size_push] using dn)
      | exact dn
  exact ⟨rfl, hq h' tk' (hp.objs.size + 1) dx ⟨old, Nat.le_succ _, ⟨t1, hx⟩, Nat.le_trans (Nat.le_trans (Nat.le_succ _) (Nat.le_succ _)) z, dne, hns⟩⟩
end
end HErr
end PySem
/-! ## K00B -/
set_option maxHeartbeats 2000000
namespace PySem
namespace HErr
open PySem.W PySem.Calls PyProof.Rows PySem.HandSPX
variable {q f g : Str} {p1 p2 p3 : Pos} {B : List Stmt} {S : Scope} {cl : List (Str × Addr)} {doc pm cdv ct : Value} {an : Option Addr} {a v u : Value}
theorem bind1 (O : FldOk f) : bindArgs (fnX "__init__" q (iA1 f p1 p2) B S cl .none .none doc pm an cdv ct) ⟨[a, v], []⟩ = pure [(("self" : Str), a), (f, v)] := by
  have h1 : (f == ("self" : Str)) = false := beqN O.s
  have h2 : (("self" : Str) == f) = false := beqN O.s.symm
  simp [bindArgs, fnX, iA1, seqItems?, List.lookup, h1, h2, Option.isNone, Option.map, notAStandIn]
  try rfl
theorem bind1k (O : FldOk f) : bindArgs (fnX "__init__" q (iA1 f p1 p2) B S cl .none .none doc pm an cdv ct) ⟨[a], [(f, v)]⟩ = pure [(("self" : Str), a), (f, v)] := by
  have h1 : (f == ("self" : Str)) = false := beqN O.s
  have h2 : (("self" : Str) == f) = false := beqN O.s.symm
  have h3 : (f == f) = true := by simp
  unfold bindArgs
  simp only [fnX, iA1, List.map_cons, List.map_nil, List.nil_append, List.length_cons, List.length_nil, List.zip_cons_cons, List.zip_nil_right, List.contains_cons, h1, h2, h3, Bool.or_true, Bool.true_or, if_true, List.lookup, List.forIn_cons, List.forIn_nil]
  simp [List.lookup, h1, h2, seqItems?, notAStandIn]
  try rfl
theorem bind2 : bindArgs (fnX "__init__" q (iA2 "one" "other" p1 p2 p3) B S cl .none .none doc pm an cdv ct) ⟨[a, v, u], []⟩ = pure [(("self" : Str), a), ("one", v), ("other", u)] := by
  rfl
theorem bind2k : bindArgs (fnX "__init__" q (iA2 "one" "other" p1 p2 p3) B S cl .none .none doc pm an cdv ct) ⟨[a], [("other", u), ("one", v)]⟩ = pure [(("self" : Str), a), ("one", v), ("other", u)] := by
  rfl
end HErr
end PySem
/-! ## K00Q -/
set_option maxHeartbeats 2000000
namespace L2
open PySem PySem.Spec PyProof.Rows PySem.HErr
/-- a part of the written part -/
def Sub (K' K : PySem.W.Frag) : Prop := ∀ a o, K'.lookup a = some o → K.lookup a = some o
theorem Sub.inn {K' K : PySem.W.Frag} {h : Heap} (x : Sub K' K) (X : K.In h) : K'.In h := fun a o e => X a o (x a o e)
/-- an error object of the class C, its dict at d, at e -/
def ErrO (C d e : Addr) : HO := .ext fun h => ∃ t1, h.get? e = some { cls := .ref C, dict := some d, data := .fields #[.ref t1, .none, .none, .none, .bool false, .none] }
theorem errO_ok {P : Program} {w : World} {H : Hp} {h : Heap} {C d e t1 : Addr} (q : h.get? e = some { cls := .ref C, dict := some d, data := .fields #[.ref t1, .none, .none, .none, .bool false, .none] }) : ObjOk P w H h e (ErrO C d e) :=
  ⟨⟨t1, q⟩, ⟨_, q⟩, fun _ _ ⟨t, r⟩ k => ⟨t, k _ r⟩⟩
/-- an error's class with one field -/
def Er1 (P : Program) (K : PySem.W.Frag) (mg : Str → Option Value) (nm f : Str) (C : Addr) : Prop :=
  mg nm = some (.ref C) ∧ ∃ fI, ErrC K C fI ∧ PySem.W.findIn K (.ref C) f = some none ∧ FldOk f ∧ ∃ (q : Str) (p1 p2 a1 q1 q2 q3 q4 q5 r1 r2 r3 r4 : Pos), (q3.endLine == q4.line) = true ∧
    InitFn P K q C fI (iA1 f p1 p2) [iSup [.Name f a1] q1 q2 q3 q4 q5, iSto f r1 r2 r3 r4] (iS1 f)
/-- with two, one and other -/
def Er2 (P : Program) (K : PySem.W.Frag) (mg : Str → Option Value) (nm : Str) (C : Addr) : Prop :=
  mg nm = some (.ref C) ∧ ∃ fI, ErrC K C fI ∧ PySem.W.findIn K (.ref C) "one" = some none ∧ PySem.W.findIn K (.ref C) "other" = some none ∧ ∃ (q : Str) (p1 p2 p3 a1 a2 q1 q2 q3 q4 q5 r1 r2 r3 r4 r5 r6 r7 r8 : Pos), (q3.endLine == q4.line) = true ∧
    InitFn P K q C fI (iA2 "one" "other" p1 p2 p3) [iSup [.Name "one" a1, .Name "other" a2] q1 q2 q3 q4 q5, iSto "one" r1 r2 r3 r4, iSto "other" r5 r6 r7 r8] (iS2 "one" "other")
/-- what the program must say besides -/
structure SupOk (P : Program) (mg : Str → Option Value) : Prop where
  sup : mg "super" = none
  top : (P.main.scope.names.lookup ("super" : Str)).isSome = false
def erK (C : Addr) (fs : List (Str × V)) : V → Hp → VK → Prop := fun _ H Q => ∀ e d, H e = none → H d = none → d ≠ e → Q (.ref e) (upd (upd H d (.xd fs)) e (ErrO C d e))
section
variable {X : Cx} {pins : List (Addr × Obj)} {σ : St} {H : Hp} {s : Shared}
theorem nms (I : Inv X pins σ H s) (U : SupOk X.prog X.mg) : Nms X.prog s.heap X.mg :=
  ⟨I.ok.mod.glob.keeps I.bk, let ⟨mb, a, b⟩ := I.ok.mod.blt; ⟨mb, a.keeps I.bk, b⟩, I.nolimit, U.sup, U.top⟩
theorem nms1 (I : Inv X pins σ H s) (U : SupOk X.prog X.mg) {h' : Heap} (k : ∀ b o, s.heap.get? b = some o → h'.get? b = some o) : Nms X.prog h' X.mg := (nms I U).keeps k
/-- the made error is tracked -/
theorem Inv.err {h' : Heap} {e C d : Addr} {mA : Str → Option Value} {fs : List (Str × V)} {tk : Nat} (I : Inv X pins σ H s) (M : Made s.heap h' e C d mA) (r : ∀ f, RelO (fs.lookup f) (mA f)) :
    Inv X pins σ (upd (upd H d (.xd fs)) e (ErrO C d e)) { s with heap := h', toks := tk } ∧ H e = none ∧ H d = none := by
  have ne := I.hok.fresh M.new
  have nd := I.hok.fresh M.dbig
  obtain ⟨t1, he⟩ := M.obj
  refine ⟨?_, ne, nd⟩
  have u1 : Un X.fs [] H (upd H d (.xd fs)) s.heap h' := Un.laid M.keep M.dbig nd
  have hk : HOk X.prog X.w (upd (upd H d (.xd fs)) e (ErrO C d e)) h' := by
    intro b o q
    by_cases hb : b = e
    · subst hb
      rw [upd_same] at q
      cases q
      exact errO_ok he
    · rw [upd_ne hb] at q
      by_cases hd : b = d
      · subst hd
        rw [upd_same] at q
        cases q
        exact ⟨mA, M.ns, r⟩
      · rw [upd_ne hd] at q
        refine (I.hok b o q).stay (fun c v _ z => M.keep c v z) (fun c z => ?_) fun c xs z => ?_
        · rw [upd_ne (ne_of_none z ne), upd_ne (ne_of_none z nd)]; exact z
        · rw [upd_ne (ne_of_none z ne), upd_ne (ne_of_none z nd)]; exact z
  refine I.un (t' := tk) ⟨fun b u q _ _ _ => M.keep b u q, fun b u q _ _ _ => ⟨u.slots, M.keep b u q⟩, fun b u q n _ => ?_, fun b u q _ => ⟨u, M.keep b u q⟩, fun b xs q => ?_, fun b u xs q => ?_, fun b ps q => ⟨#[], ?_⟩⟩ hk
  · rw [upd_ne (Nat.ne_of_lt (Nat.lt_of_lt_of_le (Heap.lt_size q) M.new)), upd_ne (Nat.ne_of_lt (Nat.lt_of_lt_of_le (Heap.lt_size q) M.dbig))]; exact n
  · rw [upd_ne (ne_of_none q ne), upd_ne (ne_of_none q nd)]; exact q
  · rw [upd_ne (ne_of_none q ne), upd_ne (ne_of_none q nd)]; exact q
  · rw [upd_ne (ne_of_none q ne), upd_ne (ne_of_none q nd), q]; simp
/-- nm(a): an error is made -/
def tE1 (C : Addr) (f : Str) (ta : TA) : TE := fun σ H Q => ta σ H fun vs H1 => ∃ v, vs = [v] ∧ ∀ e d, H1 e = none → H1 d = none → d ≠ e → Q (.ref e) (upd (upd H1 d (.xd [(f, v)])) e (ErrO C d e))
def tE2 (C : Addr) (ta : TA) : TE := fun σ H Q => ta σ H fun vs H1 => ∃ v u, vs = [v, u] ∧ ∀ e d, H1 e = none → H1 d = none → d ≠ e → Q (.ref e) (upd (upd H1 d (.xd [("one", v), ("other", u)])) e (ErrO C d e))
def tE2k (C : Addr) (ta : TA) : TE := fun σ H Q => ta σ H fun vs H1 => ∃ v u, vs = [u, v] ∧ ∀ e d, H1 e = none → H1 d = none → d ≠ e → Q (.ref e) (upd (upd H1 d (.xd [("one", v), ("other", u)])) e (ErrO C d e))
theorem rel1 {f : Str} {v : V} {v' : Value} (r : RelV v v') (y : Str) : RelO (List.lookup y [(f, v)]) (if y = f then some v' else none) := by
  by_cases hy : y = f
  · subst hy
    rw [if_pos rfl, lk_eq]
    exact r
  · rw [if_neg hy, lk_ne hy]
    trivial
theorem rel2 {f g : Str} {v u : V} {v' u' : Value} (hfg : f ≠ g) (r : RelV v v') (ru : RelV u u') (y : Str) : RelO (List.lookup y [(f, v), (g, u)]) (if y = g then some u' else if y = f then some v' else none) := by
  by_cases hy : y = f
  · subst hy
    rw [if_neg hfg, if_pos rfl, lk_eq]
    exact r
  · rw [lk_ne hy]
    by_cases hg : y = g
    · subst hg
      rw [if_pos rfl, lk_eq]
      exact ru
    · rw [if_neg hg, if_neg hy, lk_ne hg]
      trivial
variable {K' : PySem.W.Frag} {C : Addr} {nm f : Str} {k : Nat} {p pos : Pos} {a b : Expr} {ta : TA}
theorem pe_e1 (hk' : Sub K' X.K) (T : Er1 X.prog K' X.mg nm f C) (U : SupOk X.prog X.mg) (hr : Room k X.A) (hg : Gl X nm) (ha : PA X [a] ta) (hdb : (nm == ("__debug__" : Str)) = false := by decide)
    (he : starEach (a :: []) X.env = (false, eval a X.env) :: starEach [] X.env := by rfl) (hpl : (backTo pos (starEach [] X.env)).any (·.1) = false := by rfl) : PE X (.Call (.Name nm p) [a] [] pos) (tE1 C f ta) := by
  obtain ⟨gC, fI, T1, hnf, O, q, p1, p2, a1, q1, q2, q3, q4, q5, r1, r2, r3, r4, hl, F⟩ := T
  refine ⟨fun pins s σ H Q I h => ?_⟩
  refine wpAny_Call_Name_kw (ld_glob I hg gC ?_ hdb)
  refine PySem.W.callWith_K (h₀ := X.base) (hk'.inn I.ok.mod.kin) T1.kC (thn (ha.run pos pins s σ H _ I h) fun us s1 hh => ?_) he hpl
  obtain ⟨vs, H1, I1, rv, v, ev, q1⟩ := hh
  subst ev
  refine ⟨hk'.inn I1.kIn, ?_⟩
  cases rv with
  | cons ra rn =>
    rename_i v' us'
    cases rn
    show wpAny _ _ (call (.ref C) [v']) _ _ _
    refine wpAny_call (made (s := s1) T1 (hk'.inn I1.kIn) (by show 1 ≤ sizeLine; rw [sizeLine_eq]; decide) (mA := fun y => if y = f then some v' else none) (fun s2 x t0 R1 X2 k2 hx hnx h2 => ?_) fun h' tk e d M => ?_)
    · refine init1 T1 hnf O hl F X2 (nms1 I1 U k2) hx hnx ?_ (fun _ _ _ _ _ _ => .of_eq (bind1 O)) h2
      rw [make_depth]
      have := hr.dp
      omega
    · obtain ⟨I2, n1, n2⟩ := I1.err (tk := tk) (fs := [(f, v)]) M (rel1 ra)
      exact ⟨.ref e, _, I2, rfl, q1 e d n1 n2 M.dne⟩
theorem pe_e1k {kpos : Pos} (hk' : Sub K' X.K) (T : Er1 X.prog K' X.mg nm f C) (U : SupOk X.prog X.mg) (hr : Room k X.A) (hg : Gl X nm) (ha : PK X [⟨some f, a, kpos⟩] ta) (hdb : (nm == ("__debug__" : Str)) = false := by decide)
    (hall : (backToKw pos (keywordEach [⟨some f, a, kpos⟩] X.env)).all (·.1.isSome) = true := by rfl) (hks : (backToKw pos (keywordEach [⟨some f, a, kpos⟩] X.env)).filterMap (·.1) = [f] := by rfl)
    (hpl : ((backTo pos (starEach [] X.env)).any (·.1) || (backToKw pos (keywordEach [⟨some f, a, kpos⟩] X.env)).any (·.1.isNone)) = false := by rfl) : PE X (.Call (.Name nm p) [] [⟨some f, a, kpos⟩] pos) (tE1 C f ta) := by
  obtain ⟨gC, fI, T1, hnf, O, q, p1, p2, a1, q1, q2, q3, q4, q5, r1, r2, r3, r4, hl, F⟩ := T
  refine ⟨fun pins s σ H Q I h => ?_⟩
  refine wpAny_Call_Name_kw (ld_glob I hg gC ?_ hdb)
  refine PySem.W.callWith_KW0 (h₀ := X.base) (hk'.inn I.ok.mod.kin) T1.kC hall (thn (ha.run pos pins s σ H _ I h) fun us s1 hh => ?_) hpl
  obtain ⟨vs, H1, I1, rv, v, ev, q1⟩ := hh
  subst ev
  refine ⟨hk'.inn I1.kIn, ?_⟩
  rw [hks]
  cases rv with
  | cons ra rn =>
    rename_i v' us'
    cases rn
    show wpAny _ _ (call (.ref C) [] [(f, v')]) _ _ _
    refine wpAny_call (made (s := s1) T1 (hk'.inn I1.kIn) (Nat.zero_le _) (mA := fun y => if y = f then some v' else none) (fun s2 x t0 R1 X2 k2 hx hnx h2 => ?_) fun h' tk e d M => ?_)
    · refine init1 T1 hnf O hl F X2 (nms1 I1 U k2) hx hnx ?_ (fun _ _ _ _ _ _ => .of_eq (bind1k O)) h2
      rw [make_depth]
      have := hr.dp
      omega
    · obtain ⟨I2, n1, n2⟩ := I1.err (tk := tk) (fs := [(f, v)]) M (rel1 ra)
      exact ⟨.ref e, _, I2, rfl, q1 e d n1 n2 M.dne⟩
theorem fld_one : FldOk "one" := fldB_ok (by decide +kernel)
theorem fld_other : FldOk "other" := fldB_ok (by decide +kernel)
theorem one_other : ("one" : Str) ≠ "other" := by decide +kernel
theorem pe_e2 (hk' : Sub K' X.K) (T : Er2 X.prog K' X.mg nm C) (U : SupOk X.prog X.mg) (hr : Room k X.A) (hg : Gl X nm) (ha : PA X [a, b] ta) (hdb : (nm == ("__debug__" : Str)) = false := by decide)
    (he : starEach (a :: [b]) X.env = (false, eval a X.env) :: starEach [b] X.env := by rfl) (hpl : (backTo pos (starEach [b] X.env)).any (·.1) = false := by rfl) : PE X (.Call (.Name nm p) [a, b] [] pos) (tE2 C ta) := by
  obtain ⟨gC, fI, T1, hnf, hnf2, q, p1, p2, p3, a1, a2, q1, q2, q3, q4, q5, r1, r2, r3, r4, r5, r6, r7, r8, hl, F⟩ := T
  refine ⟨fun pins s σ H Q I h => ?_⟩
  refine wpAny_Call_Name_kw (ld_glob I hg gC ?_ hdb)
  refine PySem.W.callWith_K (h₀ := X.base) (hk'.inn I.ok.mod.kin) T1.kC (thn (ha.run pos pins s σ H _ I h) fun us s1 hh => ?_) he hpl
  obtain ⟨vs, H1, I1, rv, v, u, ev, q1⟩ := hh
  subst ev
  refine ⟨hk'.inn I1.kIn, ?_⟩
  cases rv with
  | cons ra rn =>
    cases rn with
    | cons rb rn =>
      rename_i v' u' us''
      cases rn
      show wpAny _ _ (call (.ref C) [v', u']) _ _ _
      refine wpAny_call (made (s := s1) T1 (hk'.inn I1.kIn) (by show 2 ≤ sizeLine; rw [sizeLine_eq]; decide) (mA := fun y => if y = "other" then some u' else if y = "one" then some v' else none) (fun s2 x t0 R1 X2 k2 hx hnx h2 => ?_) fun h' tk e d M => ?_)
      · refine init2 T1 hnf hnf2 fld_one fld_other one_other hl F X2 (nms1 I1 U k2) hx hnx ?_ (fun _ _ _ _ _ _ => .of_eq bind2) h2
        rw [make_depth]
        have := hr.dp
        omega
      · obtain ⟨I2, n1, n2⟩ := I1.err (tk := tk) (fs := [("one", v), ("other", u)]) M (rel2 one_other ra rb)
        exact ⟨.ref e, _, I2, rfl, q1 e d n1 n2 M.dne⟩
theorem pe_e2k {kp1 kp2 : Pos} (hk' : Sub K' X.K) (T : Er2 X.prog K' X.mg nm C) (U : SupOk X.prog X.mg) (hr : Room k X.A) (hg : Gl X nm) (ha : PK X [⟨some "other", b, kp1⟩, ⟨some "one", a, kp2⟩] ta) (hdb : (nm == ("__debug__" : Str)) = false := by decide)
    (hall : (backToKw pos (keywordEach [⟨some "other", b, kp1⟩, ⟨some "one", a, kp2⟩] X.env)).all (·.1.isSome) = true := by rfl) (hks : (backToKw pos (keywordEach [⟨some "other", b, kp1⟩, ⟨some "one", a, kp2⟩] X.env)).filterMap (·.1) = ([("other" : Str), "one"] : List Str) := by rfl)
    (hpl : ((backTo pos (starEach [] X.env)).any (·.1) || (backToKw pos (keywordEach [⟨some "other", b, kp1⟩, ⟨some "one", a, kp2⟩] X.env)).any (·.1.isNone)) = false := by rfl) : PE X (.Call (.Name nm p) [] [⟨some "other", b, kp1⟩, ⟨some "one", a, kp2⟩] pos) (tE2k C ta) := by
  obtain ⟨gC, fI, T1, hnf, hnf2, q, p1, p2, p3, a1, a2, q1, q2, q3, q4, q5, r1, r2, r3, r4, r5, r6, r7, r8, hl, F⟩ := T
  refine ⟨fun pins s σ H Q I h => ?_⟩
  refine wpAny_Call_Name_kw (ld_glob I hg gC ?_ hdb)
  refine PySem.W.callWith_KW0 (h₀ := X.base) (hk'.inn I.ok.mod.kin) T1.kC hall (thn (ha.run pos pins s σ H _ I h) fun us s1 hh => ?_) hpl
  obtain ⟨vs, H1, I1, rv, v, u, ev, q1⟩ := hh
  subst ev
  refine ⟨hk'.inn I1.kIn, ?_⟩
  rw [hks]
  cases rv with
  | cons rb rn =>
    cases rn with
    | cons ra rn =>
      rename_i u' v' us''
      cases rn
      show wpAny _ _ (call (.ref C) [] [(("other" : Str), u'), ("one", v')]) _ _ _
      refine wpAny_call (made (s := s1) T1 (hk'.inn I1.kIn) (Nat.zero_le _) (mA := fun y => if y = "other" then some u' else if y = "one" then some v' else none) (fun s2 x t0 R1 X2 k2 hx hnx h2 => ?_) fun h' tk e d M => ?_)
      · refine init2 T1 hnf hnf2 fld_one fld_other one_other hl F X2 (nms1 I1 U k2) hx hnx ?_ (fun _ _ _ _ _ _ => .of_eq bind2k) h2
        rw [make_depth]
        have := hr.dp
        omega
      · obtain ⟨I2, n1, n2⟩ := I1.err (tk := tk) (fs := [("one", v), ("other", u)]) M (rel2 one_other ra rb)
        exact ⟨.ref e, _, I2, rfl, q1 e d n1 n2 M.dne⟩
/-- e.f of such an error -/
def tEf (K : PySem.W.Frag) (f : Str) (te : TE) : TE := fun σ H Q => te σ H fun x H1 => ∃ (K' : PySem.W.Frag) (e C d fI : Addr) (fs : List (Str × V)) (v : V), x = .ref e ∧ H1 e = some (ErrO C d e) ∧ H1 d = some (.xd fs) ∧ Sub K' K ∧ ErrC K' C fI ∧ PySem.W.findIn K' (.ref C) f = some none ∧ fs.lookup f = some v ∧ Q v H1
theorem pe_ef {te : TE} (he : PE X a te) (hb : attributeBase a f X.env (eval a X.env) = eval a X.env) : PE X (.Attribute a f pos) (tEf X.K f te) := by
  refine ⟨fun pins s σ H Q I h => ?_⟩
  refine attr_of hb (thn (he.run pins s σ H _ I h) fun u s1 hh => ?_)
  obtain ⟨x, H1, I1, rx, K', e, C, d, fI, fs, v, ex, ee, ed, hk', T, hno, l, q⟩ := hh
  subst ex
  obtain rfl : u = Value.ref e := rx
  obtain ⟨⟨t1, ho⟩, _, _⟩ := I1.hok e _ ee
  obtain ⟨mA, hns, hr⟩ := I1.hok d _ ed
  obtain ⟨od, hod, hl⟩ := lookIn_ns hns
  obtain ⟨u, hu, ru⟩ := RelO.some_of (v := v) (o := mA f) (by rw [← l]; exact hr f)
  have J : PySem.W.InstAt s1.heap e { cls := .ref C, dict := some d, data := .fields #[.ref t1, .none, .none, .none, .bool false, .none] } C (some od) := ⟨ho, rfl, rfl, hod⟩
  exact HandSPX.exc_get (hk'.inn I1.kIn) J T.ga T.gg T.exC (PySem.W.findObj_own T.hdC hno rfl (by rw [hl, hu])) (handed_of ru) ⟨v, H1, I1.tok _, ru, q⟩
end
end L2
/-! ## K00G -/
set_option maxHeartbeats 2000000
namespace L2
open PySem PySem.Spec PyProof.Rows PySem.HErr
/-! ### an error's facts, by names, as a Bool over a small part of the heap -/
structure ERow where
  nm : Str
  q : Str
  fs : List Str
  i : Nat
  b : Nat
/-- the addresses that are asked for a class whose objects begin at b -/
def ERow.as (r : ERow) : List Addr := [3, 24, 23, 2] ++ List.range' r.b 21
def vB (a b : Option Value) : Bool := decide (a = b)
def bB (a b : Option Bool) : Bool := decide (a = b)
def clsBit (K : PySem.W.Frag) (C : Addr) : Bool := match K.lookup C with
  | some ⟨.type "type", _, .cls cd, sl⟩ => (match cd.mro, sl.toList with
    | .ref C' :: bm, [_, _, _, _, some (.builtin n), _] => C' == C && (n == "ValueError.__new__" && (!cd.hasDel && (cd.hasDict && HandSPX.refsVE bm)))
    | _, _ => false)
  | _ => false
theorem clsBit_ok {K : PySem.W.Frag} {C : Addr} (q : clsBit K C = true) : ∃ nm q N bs bm sn sub ab col dd k0 k1 k2 k3 k5, K.lookup C = some (excClassObj nm q C N bs bm true sn sub ab col dd k0 k1 k2 k3 k5 "ValueError.__new__") ∧ HandSPX.refsVE bm = true := by
  unfold clsBit at q
  split at q
  · rename_i dd cd sl ho
    split at q
    · rename_i C' bm k0 k1 k2 k3 n k5 hm hs
      simp only [Bool.and_eq_true, beq_iff_eq, Bool.not_eq_true'] at q
      obtain ⟨rfl, rfl, hdel, hdct, ht⟩ := q
      obtain ⟨nm, bs, mro, ns, qn, hd, sn, sub, ab, col, del⟩ := cd
      dsimp only at hm hdel hdct
      subst hm hdel hdct
      have hsl : sl = #[k0, k1, k2, k3, some (.builtin "ValueError.__new__"), k5] := by
        obtain ⟨l⟩ := sl
        simp only at hs
        rw [hs]
      subst hsl
      exact ⟨nm, qn, ns, bs, bm, sn, sub, ab, col, dd, k0, k1, k2, k3, k5, ho, ht⟩
    · cases q
  · cases q
def cellBit (K : PySem.W.Frag) (C cc : Addr) : Bool := match K.lookup cc with
  | some ⟨_, _, .cell (some (.ref D)), _⟩ => D == C
  | _ => false
def codeBit (K : PySem.W.Frag) (file : Str) (cd : Value) : Bool := match cd with
  | .ref a => (match K.lookup a with
    | some ⟨_, _, .fields vs, _⟩ => (match (vs[2]? : Option Value) with
      | some (Value.str f _) => file == f
      | _ => false)
    | _ => false)
  | _ => false
def fnPart (K : PySem.W.Frag) (file : Str) (C : Addr) (q : Str) (cl : List (Str × Addr)) (d k cd : Value) : Bool := match cl, d, k with
  | [(_, cc)], .none, .none => cellBit K C cc && (codeBit K file cd && PySem.W.codeIn K cd q)
  | _, _, _ => false
def fnBit (K : PySem.W.Frag) (file : Str) (C fI : Addr) (q : Str) : Bool := match K.lookup fI with
  | some ⟨_, _, .func fd, _⟩ => fnPart K file C q fd.closure fd.defaults fd.kwdefaults fd.code
  | _ => false
abbrev ErV : Type := Option (Str × Str × Arguments × FuncBody × Scope × Addr × List Str × Addr)
def erVal (q : Str) (A : Arguments) (B : List Stmt) (S : Scope) : ErV := some ("__init__", q, A, FuncBody.stmts B, S, mainGlobals, ["__class__"], builtinsNs)
def erObs (K : PySem.W.Frag) (fI : Addr) : ErV := match K.lookup fI with
  | some ⟨_, _, .func fd, _⟩ => some (fd.name, fd.qualname, fd.params, fd.body, fd.scope, fd.globals, fd.closure.map (·.1), fd.builtins)
  | _ => none
theorem initFn_ok {P : Program} {K : PySem.W.Frag} {C fI : Addr} {q : Str} {A : Arguments} {B : List Stmt} {S : Scope} (h : fnBit K P.main.file C fI q = true) (e : erObs K fI = (erVal q A B S)) : InitFn P K q C fI A B S := by
  unfold fnBit at h
  unfold erObs at e
  cases z : K.lookup fI with
  | none =>
    rw [z] at h
    cases h
  | some o =>
    obtain ⟨oc, od, dt, osl⟩ := o
    rw [z] at h e
    cases dt with
    | func fd =>
      obtain ⟨n1, n2, n3, n4, n5, n6, n7, n8, n9, n10, n11, n12, n13, n14, n15⟩ := fd
      have e2 : (some (n1, n2, n3, n4, n5, n6, n7.map (·.1), n15) : ErV) = erVal q A B S := e
      simp only [erVal, Option.some.injEq, Prod.mk.injEq] at e2
      obtain ⟨h1, h2, h3, h4, h5, h6, h7, h8⟩ := e2
      subst h1 h2 h3 h4 h5 h6 h8
      have h9 : fnPart K P.main.file C n2 n7 n8 n9 n13 = true := h
      unfold fnPart at h9
      split at h9
      · rename_i x cc
        simp only [List.map_cons, List.map_nil, List.cons.injEq, and_true] at h7
        subst h7
        simp only [Bool.and_eq_true] at h9
        obtain ⟨c1, c2, c3⟩ := h9
        unfold cellBit at c1
        split at c1
        · rename_i cl cld D csl hcc
          have : D = C := beq_iff_eq.mp c1
          subst this
          unfold codeBit at c2
          split at c2
          · rename_i cda
            split at c2
            · rename_i ccl cdd vs ccs hcd
              split at c2
              · rename_i f tf hv
                exact ⟨_, _, _, _, _, _, _, _, _, _, _, _, _, _, _, _, _, _, z, c3, hcc, hcd, hv, c2⟩
              · cases c2
            · cases c2
          · cases c2
        · cases c1
      · cases h9
    | _ => cases h
/-- what isinstance asks of an error's class -/
structure IsC (K : PySem.W.Frag) (D H : Addr) : Prop where
  ex : ExcC K D
  he : PySem.W.kitOne K (.ref D) (.ref H) = some true
  ve : PySem.W.kitOne K (.ref D) (.type "ValueError") = some true
def isBit (K : PySem.W.Frag) (D H : Addr) : Bool :=
  He.eqO (PySem.W.findIn K (.ref D) "__getattribute__") (some (some (.builtin "BaseException.__getattribute__"))) && (He.eqO (PySem.W.findIn K (.ref D) "__getattr__") (some none) && (bB (PySem.W.subIn K (.ref D) (.type "BaseException")) (some true) && (PySem.W.hasDictIn K D &&
  (He.eqO (PySem.W.findIn K (.ref D) "__class__") (some (some (.builtin "object.__class__"))) && (He.eqO (PySem.W.specialIn K (.builtin "object.__class__") "__get__") (some (some (.builtin "getset_descriptor.__get__"))) && (bB (PySem.W.takesIn K (.builtin "object.__class__")) (some true) &&
  (bB (PySem.W.mroIn K D (.type "object")) (some true) && (bB (PySem.W.kitOne K (.ref D) (.ref H)) (some true) && bB (PySem.W.kitOne K (.ref D) (.type "ValueError")) (some true)))))))))
theorem isBit_ok {K : PySem.W.Frag} {D H : Addr} (h : isBit K D H = true) : IsC K D H := by
  unfold isBit at h
  simp only [Bool.and_eq_true] at h
  obtain ⟨h1, h2, h3, h4, h5, h6, h7, h8, h9, h10⟩ := h
  exact ⟨⟨He.eqO_ok h1, He.eqO_ok h2, of_decide_eq_true h3, h4, He.eqO_ok h5, He.eqO_ok h6, of_decide_eq_true h7, of_decide_eq_true h8⟩, of_decide_eq_true h9, of_decide_eq_true h10⟩
def errBit (K : PySem.W.Frag) (C fI : Addr) : Bool :=
  clsBit K C && (He.eqO (PySem.W.findIn K (.ref C) "__setattr__") (some (some (.builtin "object.__setattr__"))) && (He.eqO (PySem.W.findIn K (.ref C) "__getattribute__") (some (some (.builtin "BaseException.__getattribute__"))) && (He.eqO (PySem.W.findIn K (.ref C) "__getattr__") (some none) &&
  (He.eqO (PySem.W.findIn K (.ref C) "__init__") (some (some (.ref fI))) && (vB (PySem.W.typeIn K (.ref fI)) (some (.type "function")) && (PySem.W.keepIn K (.ref C) && (bB (PySem.W.subIn K (.ref C) (.type "BaseException")) (some true) && (bB (PySem.W.subIn K (.ref C) (.type "ValueError")) (some true) &&
  (vB (PySem.W.typeIn K (.ref C)) (some (.type "type")) && (PySem.W.hasDictIn K C && (bB (PySem.W.mroIn K C (.ref C)) (some true) && (He.eqO (PySem.W.ks_superIn K C C "__init__") (some (some (.builtin "ValueError.__init__"))) && He.eqO (PySem.W.nsIn K cStatics "thirdparty.any") (some none)))))))))))))
theorem errBit_ok {K : PySem.W.Frag} {C fI : Addr} (h : errBit K C fI = true) : ErrC K C fI := by
  unfold errBit at h
  simp only [Bool.and_eq_true] at h
  obtain ⟨h1, h2, h3, h4, h5, h6, h7, h8, h9, h10, h11, h12, h13, h14⟩ := h
  exact ⟨clsBit_ok h1, He.eqO_ok h2, He.eqO_ok h3, He.eqO_ok h4, He.eqO_ok h5, of_decide_eq_true h6, h7, of_decide_eq_true h8, of_decide_eq_true h9, of_decide_eq_true h10, h11, of_decide_eq_true h12, He.eqO_ok h13, He.eqO_ok h14⟩
/-- a row's Bool -/
def ERow.bit (file : Str) (K : PySem.W.Frag) (r : ERow) : Bool :=
  He.eqO (PySem.W.nsIn K mainGlobals r.nm) (some (some (.ref (r.b + 18)))) && (errBit K (r.b + 18) (r.b + 15) && (isBit K (r.b + 18) 24 && (fnBit K file (r.b + 18) (r.b + 15) r.q && r.fs.all fun f => He.eqO (PySem.W.findIn K (.ref (r.b + 18)) f) (some none))))
/-- what is known of an error's class behind the head: a part K' of the heap that tells it -/
structure ErH (P : Program) (K : PySem.W.Frag) (st : Stmt) (r : ERow) : Prop where
  ex : ∃ K' : PySem.W.Frag, Sub K' K ∧ r.bit P.main.file K' = true ∧ erObs K' (r.b + 15) = erVal r.q (defArgs st) (defBody st) (defScope st)
end L2
/-! ## K00I -/
set_option maxHeartbeats 2000000
/-! ### isinstance of an error held as a value -/
namespace PySem.W
open PySem PySem.Spec PySem.Calls PyProof.Rows
section
variable {prog : Program} {w : World} {A : Around} {E : Value → Shared → Prop} {s : Shared} {K : Frag} {x D : Addr} {ox : Obj} {od : Option Obj}
theorem findObj_dataO {C : Addr} {name : Str} {a g : Value} (hc : (clsIn K C).isSome = true) (ha : findIn K (.ref C) name = some (some a)) (hg : specialIn K a "__get__" = some (some g)) (ht : takesIn K a = some true) : findObj K C od name = some (.bind g a) := by
  obtain ⟨cd, hc⟩ := Option.isSome_iff_exists.mp hc
  unfold findObj
  rw [hc, Option.bind_some, ha, Option.bind_some]
  simp [hg, ht]
theorem kin_classO {Q : Option Value → Shared → Prop} (hga : findIn K (.ref D) "__getattribute__" = some (some (.builtin "BaseException.__getattribute__"))) (hgt : findIn K (.ref D) "__getattr__" = some none) (hsub : subIn K (.ref D) (.type "BaseException") = some true)
    (hdct : hasDictIn K D = true) (ha : findIn K (.ref D) "__class__" = some (some (.builtin "object.__class__")))
    (hn : specialIn K (.builtin "object.__class__") "__get__" = some (some (.builtin "getset_descriptor.__get__"))) (htk : takesIn K (.builtin "object.__class__") = some true) (hm : mroIn K D (.type "object") = some true)
    (X : K.In s.heap) (I : InstAt s.heap x ox D od) (h : Q (some (.ref D)) { s with toks := s.toks + 1 }) : wpAny (model prog w) A (getAttr? (.ref x) "__class__") Q E s := by
  have hf : findObj K D od "__class__" = some (.bind (.builtin "getset_descriptor.__get__") (.builtin "object.__class__")) := findObj_dataO (by obtain ⟨cd, hc, _⟩ := any_some hdct; rw [hc]; rfl) ha hn htk
  obtain ⟨hp, g, d, t, os⟩ := s
  have L0 := I.type (M := model prog w)
  have L1 := looks_findIn (M := model prog w) X hga
  have L2 := looks_findIn (M := model prog w) X hgt
  have L3 := looks_find (M := model prog w) X I hf
  have sub : Looks (model prog w) hp (isInstance (.ref x) (.type "BaseException")) true := L0.andThen (looks_subIn X hsub)
  have hx0 : (false && onTheHeap (Value.builtin "BaseException.__getattribute__")) = false := rfl
  have hx2 : (Value.builtin "BaseException.__getattribute__" == Value.builtin "object.__getattribute__") = false := by decide +kernel
  have hx1 : (onTheHeap (Value.ref D) && Value.builtin "BaseException.__getattribute__" == Value.builtin "object.__getattribute__") = false := by rw [hx2]; rfl
  unfold getAttr? getAttrBy? getAttrBy
  refine wpAny_bind (wpAny_mkText (wpAny_bind (wpAny_attempt (wpAny_holding (wpAny_bind (L0.at (wpAny_bind (L1.at ?_))))))))
  show wpAny _ _ (if (onTheHeap (Value.ref D) && Value.builtin "BaseException.__getattribute__" == Value.builtin "object.__getattribute__") = true then _ else _) _ _ _
  rw [hx1, if_neg Bool.false_ne_true]
  unfold getAttrByItsOwn hookBefore
  refine wpAny_bind ?_
  rw [if_pos (show onTheHeap (Value.ref D) = true from rfl)]
  refine L2.at ?_
  refine wpAny_bind (wpAny_attempt (wpAny_holding ?_))
  unfold callGetattribute
  rw [hx0, if_neg Bool.false_ne_true]
  unfold boundAndCalled
  rw [PySem.F.excAttr_ValueError.ga.bind (.ref x)]
  refine wpAny_bind (wpAny_pure ?_)
  show wpAny _ _ (call (.builtin "BaseException.__getattribute__") [.ref x, .str "__class__" t]) _ _ _
  refine wpAny_call (codeAny_call_builtin PySem.F.excAttr_ValueError.ga.plain PySem.F.entry_bexc_ga ?_)
  refine @check_slot (model prog w) _ _ ⟨hp, g, d, t + 1, os⟩ "BaseException.__getattribute__" "BaseException" "__getattribute__" (.ref x) [.str "__class__" t] [] _ (by decide +kernel) (by decide +kernel) sub (PySem.F.args_bexc_ga (.ref x) (.str "__class__" t)) ?_
  unfold Builtin.«object.__getattribute__»
  refine wpAny_bind (wpAny_of_eq (a := ((Value.ref x : Value), [Value.str "__class__" t])) (by first | rfl | (simp only [slotArgs]; rfl)) ?_)
  refine wpAny_bind (wpAny_pure (wpAny_bind (L0.at (wpAny_bind (L3.at ?_)))))
  show wpAny _ _ (holding [Value.builtin "object.__class__"] (call (.builtin "getset_descriptor.__get__") [.builtin "object.__class__", .ref x, .ref D]) >>= ret) _ _ _
  refine wpAny_bind (wpAny_holding (wpAny_call (class_get (s := ⟨hp, g, d, t + 1, os⟩) (ox := ox) (od := od) X I hm ?_)))
  refine wpAny_pure ?_
  show wpAny _ _ (handedOut (.ref D)) _ _ _
  rw [handedOut_of (v := .ref D) rfl]
  first
    | exact wpAny_pure (wpAny_pure h)
    | exact wpAny_pure h
    | exact wpAny_pure (wpAny_bind (wpAny_pure (wpAny_pure h)))
theorem kitx_excO (hga : findIn K (.ref D) "__getattribute__" = some (some (.builtin "BaseException.__getattribute__"))) (hgt : findIn K (.ref D) "__getattr__" = some none) (hsub : subIn K (.ref D) (.type "BaseException") = some true) (hdct : hasDictIn K D = true) (ha : findIn K (.ref D) "__class__" = some (some (.builtin "object.__class__")))
    (hn : specialIn K (.builtin "object.__class__") "__get__" = some (some (.builtin "getset_descriptor.__get__"))) (htk : takesIn K (.builtin "object.__class__") = some true) (hm : mroIn K D (.type "object") = some true) :
    KitX K (.ref x) (.ref D) (fun h => InstAt h x ox D od) where
  ty := fun _ _ _ I => I.type
  it := fun _ _ X _ => by
    obtain ⟨cdD, hcD, _⟩ := any_some hdct
    unfold clsIn at hcD
    split at hcD
    · rename_i c' d' cd' sl' ho
      intro A' Q' E' s' k q
      unfold isType loadHead
      exact wpAny_bind (wpAny_loadPart (k _ _ (X _ _ ho)) (wpAny_pure q))
    · cases hcD
  ne := fun h tp dd its n sl X htp => by
    obtain ⟨cdD, hcD, _⟩ := any_some hdct
    refine Bool.eq_false_iff.mpr fun q => ?_
    have e : D = tp := Value.ref.inj (beq_iff_eq.mp q)
    subst e
    unfold clsIn at hcD
    split at hcD
    · rename_i c' d' cd' sl' ho
      have z := (X _ _ ho).symm.trans htp
      cases z
    · cases hcD
  ca := fun X I k => kin_classO hga hgt hsub hdct ha hn htk hm X I k
end
end PySem.W
namespace L2
open PySem PySem.Spec PyProof.Rows PySem.HErr
/-- isinstance(e, c), e an error held as a value -/
def rIsX (K : PySem.W.Frag) : List V → Hp → VK → Prop := fun xs H Q => ∃ (K' : PySem.W.Frag) (e C d : Addr) (fs : List (Str × V)) (c : V) (cv : Value) (b : Bool), xs = [.ref e, c] ∧ H e = some (ErrO C d e) ∧ H d = some (.xd fs) ∧ Sub K' K ∧ ExcC K' C ∧ (∀ u, RelV c u → u = cv) ∧ PySem.W.kitOne K' (.ref C) cv = some b ∧ Q (.bl b) H
theorem call_isX {X : Cx} : CallR X (.builtin "isinstance") (rIsX X.K) := by
  intro pins s σ H xs us Q I r h
  obtain ⟨K', e, C, d, fs, c, cv, b, rfl, he, hd, hk, T, hcv, ek, q⟩ := h
  cases r with
  | cons rx rr =>
    cases rr with
    | cons rt rr =>
      cases rr
      cases rx
      have ec := hcv _ rt
      subst ec
      obtain ⟨⟨t1, ho⟩, _, _⟩ := I.hok e _ he
      obtain ⟨mA, hns, hr⟩ := I.hok d _ hd
      obtain ⟨od, es, ep, hod, hl⟩ := hns
      have J : PySem.W.InstAt s.heap e { cls := .ref C, dict := some d, data := .fields #[.ref t1, .none, .none, .none, .bool false, .none] } C (some od) := ⟨ho, rfl, rfl, hod⟩
      exact PySem.W.kia_one (PySem.W.kitx_excO T.hg T.hk T.hs T.hd T.ha T.hn T.ht T.hm) (hk.inn I.kIn) J ek (fun z => nomatch z) fun tk => ⟨.bl b, H, I.kept (t' := tk) fun _ _ z => z, rfl, q⟩
end L2
/-! ## K00L -/
set_option maxHeartbeats 4000000
namespace K00
open PySem PySem.Spec PyProof.Rows L2
def top (i : Nat) : Stmt := PySem.Challenge.pw_heardsince_k00_errors_keep_what_they_are.main.body.getD i (.Pass ⟨0, 0, 0, 0⟩)
abbrev sL_stream : Stmt := top 79
abbrev sL_draw : Stmt := top 80
abbrev sL_pick : Stmt := top 81
abbrev FnP (K : PySem.W.Frag) (x : Str) (st : Stmt) (f : Addr) (fd : FuncData) : Prop := FunD K x x (defArgs st) (defBody st) (defScope st) [] [] f fd
/-! ### the stream of draws: an object of the law's -/
structure Stm (H : Hp) (a b : Addr) (cs : List Int) (c1 c2 c3 : Int) : Prop where
  h : H a = some (.lst [.ref b, .int c1, .int c2, .int c3])
  hb : H b = some (.lst (cs.map V.int))
  n1 : 0 ≤ c1
  n2 : 0 ≤ c2
  n3 : 0 ≤ c3
  m3 : c3 < 2147483629
theorem Stm.ne {H : Hp} {a b : Addr} {cs : List Int} {c1 c2 c3 : Int} (S : Stm H a b cs c1 c2 c3) : a ≠ b := by
  refine ne_of S.h S.hb fun z => ?_
  have e : ([.ref b, .int c1, .int c2, .int c3] : List V) = cs.map V.int := by
    injection z
  cases cs with
  | nil => cases e
  | cons x r =>
    have e2 : V.ref b = V.int x := (List.cons.inj e).1
    cases e2
theorem dpInts {K : PySem.W.Frag} {H : Hp} : ∀ cs : List Int, DpAll K H (cs.map V.int) (cs.map PyData.int)
  | [] => .nil
  | c :: r => .cons (.int c) (dpInts r)
theorem shInts : ∀ cs : List Int, SeqAt.shaped (.list (cs.map PyData.int)) = true := fun cs => by
  induction cs with
  | nil => rfl
  | cons c r ih => exact ih
def But (H H' : Hp) (a b : Addr) : Prop := ∀ c o, H c = some o → c ≠ a → c ≠ b → H' c = some o
def nx3 (d3 cell : Int) : Int := (d3 * 6151 + cell + 7) % 2147483629
theorem seq0 {n : Nat} (h : 0 < n) : seqIndex? 0 n = some 0 := (ixN_seq (by unfold ixN; rw [if_pos (Int.le_refl _), if_pos (by omega)]; rfl)).1
/-- a while by a word, a measure, and what holds behind it -/
theorem while_to {c : TT} {tb : TS} {D : Ends} {σ : L2.St} {H : Hp} (Pv Ex : L2.St → Hp → Prop) (μ : L2.St → Hp → Nat) (h0 : Pv σ H)
    (hs : ∀ σ H (Q : Bool → Hp → Prop), Pv σ H → (∀ H1, tb { D with nx := fun σ' H' => Pv σ' H' ∧ μ σ' H' < μ σ H, ct := fun σ' H' => Pv σ' H' ∧ μ σ' H' < μ σ H, bk := D.nx } σ H1 → Q true H1) → (∀ H1, Ex σ H1 → Q false H1) → c σ H Q)
    (hd : ∀ σ H, Ex σ H → D.nx σ H) : tWhile c tb D σ H := by
  refine ⟨fun m σ H => m = μ σ H ∧ Pv σ H, ⟨_, rfl, h0⟩, ?_⟩
  rintro m σ H ⟨rfl, p⟩
  refine hs σ H _ p (fun H1 q => ?_) (fun H1 q => ?_)
  · exact ⟨_, fun σ' H' z => ⟨_, z.2, rfl, z.1⟩, q⟩
  · exact hd _ _ q
def spDraw : Sp := fun vs H Q _ => ∃ (a b : Addr) (cs : List Int) (c1 c2 c3 m : Int), vs = [.ref a, .int m] ∧ Stm H a b cs c1 c2 c3 ∧ c2 < 1099511627776 ∧ 1 ≤ m ∧ m < 1152921504606846976 ∧
  ∀ (d : Int) (cs' : List Int) (c1' c3' : Int) (H' : Hp), 0 ≤ d → d < m → Stm H' a b cs' c1' (c2 + 1) c3' → But H H' a b → Q (.int d) H'
/-- what holds between two turns of the draw's loop -/
def DInv (H : Hp) (a b : Addr) (m c : Int) (σ : L2.St) (H2 : Hp) : Prop := ∃ (cs2 : List Int) (d1 d3 : Int) (v : Option V), σ = [some (.ref a), some (.int m), v, none, none] ∧ Stm H2 a b cs2 d1 c d3 ∧ But H H2 a b
def lenAt (b : Addr) (H : Hp) : Nat := match H b with
  | some (.lst xs) => xs.length
  | _ => 0
theorem lenAt_of {b : Addr} {H : Hp} {xs : List V} (h : H b = some (.lst xs)) : lenAt b H = xs.length := by
  unfold lenAt
  rw [h]
structure Nm (mg : Str → Option Value) : Prop where
  abs : mg "abs" = none
  int : mg "int" = none
  len : mg "len" = none
  list : mg "list" = none
  range : mg "range" = none
section
variable {P : Program} {w : World} {K : PySem.W.Frag} {mg : Str → Option Value} {base : Heap}
theorem scD : FnScope ["stream", "many", "cell", "digit", "mixed"] ["stream", "many"] (defScope sL_draw) := ⟨rfl, rfl, rfl, by decide +kernel, rfl, by decide +kernel, by decide +kernel⟩
theorem ok_draw {f : Addr} {fd : FuncData} (F : FnP K "_law_draw" sL_draw f fd) (T : Nm mg) : FnOk P w K mg base CX0 1 f fd ["stream", "many"] spDraw := by
  refine F.ok scD (fun vs H Q E h => ?_) (fun cdv A outer s H vs Q E hr h => ?_)
  · obtain ⟨a, b, cs, c1, c2, c3, m, rfl, _⟩ := h
    rfl
  · obtain ⟨a, b, cs, c1, c2, c3, m, rfl, S, hc2, hm1, hm2, k⟩ := h
    refine ⟨_, PSs.nox (pss_cons (ps_asg (pe_op op_add (pe_ix ix_list (pv 0) pe_int (fun _ _ => rfl)) pe_int) (pg_sub (pv 0) pe_int set_list))
      (pss_cons (ps_while PassesOwn.never (PW.pt (pw_and (pt_cmpR op_eq (pe_ix ix_list (pv 0) pe_int (fun _ _ => rfl)) pe_int (nomark _)) (pw_and1 (pt_cmpR (op_neD hr.units) (pe_ix ix_list (pv 0) pe_int (fun _ _ => rfl)) (pe_lst pa_nil) (nomark _)))))
        (pss_cons (ps_set (i := 2) scD.nd rfl (Or.inl rfl) (pe_callB call_abs (by rfl) T.abs (by decide +kernel) (pa_cons (pe_bm PySem.F.plainAttrs_list PySem.F.slot_list_pop PySem.F.type_list_pop mt_popAt (pe_ix ix_list (pv 0) pe_int (fun _ _ => rfl)) (pa_cons pe_int pa_nil)) pa_nil)))
        (pss_cons (ps_asg (pe_op op_mod (pe_callTy call_int1 (by rfl) T.int (by decide +kernel) (pa_cons (pe_op op_add (pe_op op_add (pe_op op_mul (pe_ix ix_list (pv 0) pe_int (fun _ _ => rfl)) pe_int) (pv 2)) pe_int) pa_nil)) pe_int) (pg_sub (pv 0) pe_int set_list))
        (pss_one (ps_asg (pe_ifExp (pt_cmpR op_ge (pv 2) (pe_op op_pow pe_int pe_int) (nomark _)) (pv 2) pe_int) (pg_sub (pv 0) pe_int set_list))))))
      (pss_cons (ps_if (pt_cmpR op_gt (pe_ix ix_list (pv 0) pe_int (fun _ _ => rfl)) pe_int (nomark _))
          (pss_cons (ps_set (i := 3) scD.nd rfl (Or.inl rfl) (pe_op op_mod (pe_callTy call_int1 (by rfl) T.int (by decide +kernel) (pa_cons (pe_ix ix_list (pv 0) pe_int (fun _ _ => rfl)) pa_nil)) (pv 1)))
          (pss_cons (ps_asg (pe_op op_fdivW (pe_ix ix_list (pv 0) pe_int (fun _ _ => rfl)) (pv 1)) (pg_sub (pv 0) pe_int set_list))
          (pss_one (ps_ret (pv 3))))) pss_nil)
      (pss_cons (ps_set (i := 4) scD.nd rfl (Or.inl rfl) (pe_op op_mod (pe_callTy call_int1 (by rfl) T.int (by decide +kernel) (pa_cons (pe_op op_pow (pe_op op_add (pe_op op_add (pe_ix ix_list (pv 0) pe_int (fun _ _ => rfl)) (pe_op op_mul pe_int (pe_ix ix_list (pv 0) pe_int (fun _ _ => rfl)))) pe_int) pe_int) pa_nil)) pe_int))
      (pss_one (ps_ret (pe_op op_mod (pe_op op_mod (pe_callTy call_int1 (by rfl) T.int (by decide +kernel) (pa_cons (pe_op op_pow (pe_op op_add (pe_op op_add (pe_op op_mul (pv 4) pe_int) (pe_op op_mul pe_int (pe_ix ix_list (pv 0) pe_int (fun _ _ => rfl)))) pe_int) pe_int) pa_nil)) pe_int) (pv 1)))))))), ?_⟩
    -- stream[2] = stream[2] + 1
    refine ⟨_, rfl, a, _, 2, _, rfl, rfl, SqL.of S.h, rfl, _, _, rfl, rfl, _, rfl, a, _, 2, 2, rfl, rfl, S.h, rfl, ?_⟩
    have hne := S.ne
    have S1 : Stm (upd H a (.lst [.ref b, .int c1, .int (c2 + 1), .int c3])) a b cs c1 (c2 + 1) c3 := ⟨upd_same, by rw [upd_ne hne.symm]; exact S.hb, S.n1, by have := S.n2; omega, S.n3, S.m3⟩
    have B1 : But H (upd H a (.lst [.ref b, .int c1, .int (c2 + 1), .int c3])) a b := fun c o e hc _ => by rw [upd_ne hc]; exact e
    show tWhile _ _ _ _ _
    refine while_to (DInv H a b m (c2 + 1)) (DInv H a b m (c2 + 1)) (fun _ H2 => lenAt b H2) ⟨cs, c1, c3, none, rfl, S1, B1⟩ ?_ ?_
    · rintro σ H2 Qb ⟨cs2, d1, d3, v, rfl, S2, B2⟩ hT hF
      have hne2 := S2.ne
      refine ⟨_, rfl, a, _, 1, _, rfl, rfl, SqL.of S2.h, rfl, rfl, _, rfl, ?_⟩
      refine ite2 (fun hd => ?_) (fun _ => ?_)
      · refine ⟨_, rfl, a, _, 0, _, rfl, rfl, SqL.of S2.h, rfl, by decide, fun p np => ?_⟩
        have npa : a ≠ p := ne_of_none S2.h np
        have npb : b ≠ p := ne_of_none S2.hb np
        have S3 : Stm (upd H2 p (.lst [])) a b cs2 d1 (c2 + 1) d3 := ⟨by rw [upd_ne npa]; exact S2.h, by rw [upd_ne npb]; exact S2.hb, S2.n1, S2.n2, S2.n3, S2.m3⟩
        have B3 : But H (upd H2 p (.lst [])) a b := fun c o e hc hb => by
          have z := B2 c o e hc hb
          rw [upd_ne (ne_of_none z np)]
          exact z
        refine ⟨_, _, .lst (SqL.of S3.hb) (dpInts cs2), .lst (SqL.of upd_same) .nil, shInts cs2, rfl, _, rfl, ?_⟩
        cases cs2 with
        | nil => exact hF _ ⟨[], d1, d3, v, rfl, S3, B3⟩
        | cons x r =>
          refine hT _ ?_
          -- cell = abs(stream[0].pop(0))
          refine ⟨_, rfl, a, _, 0, _, rfl, rfl, SqL.of S3.h, rfl, .inl ⟨rfl, _, SqL.of S3.hb⟩, b, _, 0, 0, _, rfl, rfl, S3.hb, by decide, by decide, seq0 (by rw [List.length_map]; exact Nat.succ_pos _), rfl, _, rfl, ?_⟩
          have S4 : Stm (upd (upd H2 p (.lst [])) b (.lst (r.map V.int))) a b r d1 (c2 + 1) d3 := ⟨by rw [upd_ne hne2]; exact S3.h, upd_same, S2.n1, S2.n2, S2.n3, S2.m3⟩
          have B4 : But H (upd (upd H2 p (.lst [])) b (.lst (r.map V.int))) a b := fun c o e hc hb => by rw [upd_ne hb]; exact B3 c o e hc hb
          have m1 : ((upd (upd H2 p (.lst [])) b (.lst (r.map V.int))) b) = some (.lst (r.map V.int)) := upd_same
          have m0 : H2 b = some (.lst ((x :: r).map V.int)) := S2.hb
          rw [show (List.map V.int (x :: r)).eraseIdx 0 = r.map V.int from rfl]
          generalize (upd (upd H2 p (.lst [])) b (.lst (r.map V.int))) = H4 at S4 B4 m1 ⊢
          have hcell : (0 : Int) ≤ (if x < 0 then -x else x) := by split <;> omega
          generalize (if x < 0 then -x else x) = cell at hcell ⊢
          have n3 := S2.n3
          have m3 := S2.m3
          refine ⟨_, rfl, a, _, 3, _, rfl, rfl, SqL.of S4.h, rfl, _, _, rfl, rfl, .inl ⟨by omega, by omega⟩, _, rfl, _, _, rfl, rfl, _, _, rfl, rfl, .inl ⟨_, rfl, _, _, rfl, rfl, (by show (0 : Int) < 2147483629; decide), _, rfl, a, _, 3, 3, rfl, rfl, S4.h, rfl, ?_⟩⟩
          have q1 : (0 : Int) ≤ nx3 d3 cell := Int.emod_nonneg _ (by decide)
          have q2 : nx3 d3 cell < 2147483629 := Int.emod_lt_of_pos _ (by decide)
          have S5 : Stm (upd H4 a (.lst [.ref b, .int d1, .int (c2 + 1), .int (nx3 d3 cell)])) a b r d1 (c2 + 1) (nx3 d3 cell) := ⟨upd_same, by rw [upd_ne hne2.symm]; exact S4.hb, S2.n1, S2.n2, q1, q2⟩
          have B5 : But H (upd H4 a (.lst [.ref b, .int d1, .int (c2 + 1), .int (nx3 d3 cell)])) a b := fun c o e hc hb => by rw [upd_ne hc]; exact B4 c o e hc hb
          -- stream[1] = cell if cell >= 10 ** 18 else 0
          refine ⟨_, rfl, _, _, rfl, rfl, ⟨by decide, by decide, by decide⟩, _, _, rfl, rfl, _, rfl, ?_⟩
          have fin : ∀ (z : Int) (Hz : Hp), 0 ≤ z → Hz = upd (upd H4 a (.lst [.ref b, .int d1, .int (c2 + 1), .int (nx3 d3 cell)])) a (.lst [.ref b, .int z, .int (c2 + 1), .int (nx3 d3 cell)]) → DInv H a b m (c2 + 1) [some (.ref a), some (.int m), some (.int cell), none, none] Hz ∧ lenAt b Hz < lenAt b H2 := fun z Hz hz eq => by
            have S6 : Stm Hz a b r z (c2 + 1) (nx3 d3 cell) := by
              rw [eq]
              exact ⟨upd_same, by rw [upd_ne hne2.symm]; exact S5.hb, hz, S2.n2, q1, q2⟩
            refine ⟨⟨r, z, nx3 d3 cell, some (.int cell), rfl, S6, fun c o e hc hb => by rw [eq, upd_ne hc]; exact B5 c o e hc hb⟩, ?_⟩
            rw [lenAt_of S6.hb, lenAt_of m0]
            simp
          refine ite2 (fun _ => ?_) (fun _ => ?_)
          · exact ⟨_, rfl, _, rfl, a, _, 1, 1, rfl, rfl, S5.h, rfl, fin _ _ hcell rfl⟩
          · exact ⟨_, rfl, a, _, 1, 1, rfl, rfl, S5.h, rfl, fin _ _ (Int.le_refl _) rfl⟩
      · exact hF _ ⟨cs2, d1, d3, v, rfl, S2, B2⟩
    · rintro σ H2 ⟨cs2, d1, d3, v, rfl, S2, B2⟩
      have hne2 := S2.ne
      have n1 := S2.n1
      have n2 := S2.n2
      have n3 := S2.n3
      have m3 := S2.m3
      refine ⟨_, rfl, a, _, 1, _, rfl, rfl, SqL.of S2.h, rfl, _, _, rfl, rfl, _, rfl, ?_⟩
      refine ite2 (fun _ => ?_) (fun _ => ?_)
      · -- digit = int(stream[1]) % many; stream[1] = stream[1] // many; return digit
        refine ⟨_, rfl, a, _, 1, _, rfl, rfl, SqL.of S2.h, rfl, .inl ⟨_, rfl, _, rfl, _, _, rfl, rfl, (by show (0 : Int) < m; omega), _, rfl, a, _, 1, _, rfl, rfl, SqL.of S2.h, rfl, _, rfl, _, _, rfl, rfl, wide_div (by omega) (b := 60) (by omega) (by decide) (by decide), _, rfl, a, _, 1, 1, rfl, rfl, S2.h, rfl, _, rfl, ?_⟩⟩
        have q1 : (0 : Int) ≤ d1 % m := Int.emod_nonneg _ (by omega)
        have q2 : d1 % m < m := Int.emod_lt_of_pos _ (by omega)
        have q3 : (0 : Int) ≤ d1 / m := Int.ediv_nonneg n1 (by omega)
        exact k _ cs2 _ d3 _ q1 q2 ⟨upd_same, by rw [upd_ne hne2.symm]; exact S2.hb, q3, n2, n3, m3⟩ fun c o e hc hb => by rw [upd_ne hc]; exact B2 c o e hc hb
      · -- mixed ..
        refine ⟨_, rfl, a, _, 3, _, rfl, rfl, SqL.of S2.h, rfl, _, rfl, a, _, 2, _, rfl, rfl, SqL.of S2.h, rfl, _, _, rfl, rfl, .inl ⟨by decide, by decide⟩, _, _, rfl, rfl, _, _, rfl, rfl, _, _, rfl, rfl, ⟨by decide, by decide, by omega⟩, .inl ⟨_, rfl, _, _, rfl, rfl, (by show (0 : Int) < 2147483587; decide), ?_⟩⟩
        have q1 : (0 : Int) ≤ ((d3 + 8191 * (c2 + 1) + 50021) ^ (5 : Int).toNat) % 2147483587 := Int.emod_nonneg _ (by decide)
        have q2 : ((d3 + 8191 * (c2 + 1) + 50021) ^ (5 : Int).toNat) % 2147483587 < 2147483587 := Int.emod_lt_of_pos _ (by decide)
        generalize ((d3 + 8191 * (c2 + 1) + 50021) ^ (5 : Int).toNat) % 2147483587 = mx at q1 q2 ⊢
        refine ⟨_, rfl, _, _, rfl, rfl, .inl ⟨by omega, by omega⟩, _, rfl, a, _, 2, _, rfl, rfl, SqL.of S2.h, rfl, _, _, rfl, rfl, .inl ⟨by decide, by decide⟩, _, _, rfl, rfl, _, _, rfl, rfl, _, _, rfl, rfl, ⟨by decide, by decide, by omega⟩, .inl ⟨_, rfl, _, _, rfl, rfl, (by show (0 : Int) < 1000000009; decide), _, rfl, _, _, rfl, rfl, (by show (0 : Int) < m; omega), ?_⟩⟩
        exact k _ cs2 d1 d3 _ (Int.emod_nonneg _ (by omega)) (Int.emod_lt_of_pos _ (by omega)) S2 B2
end
end K00
/-! ## K00Y -/
set_option maxHeartbeats 4000000
namespace K00
open PySem PySem.Spec PyProof.Rows L2 PySem.HErr
/-- an error's class that is known -/
def KnI (K : PySem.W.Frag) (C : Addr) : Prop := ∃ K' fI, L2.Sub K' K ∧ ErrC K' C fI ∧ IsC K' C 24
/-- an item of what an errors' def tells: the error, what it keeps. B: what stood ahead -/
def Item (K : PySem.W.Frag) (B H : Hp) (one other x : V) : Prop := ∃ (t e kl C d : Addr) (fs : List (Str × V)) (vals : List V), x = .ref t ∧ H t = some (.tup [.ref e, .ref kl]) ∧ H e = some (ErrO C d e) ∧ H d = some (.xd fs) ∧ KnI K C ∧ H kl = some (.lst vals) ∧ B kl = none ∧ (vals = [one] ∨ vals = [one, other])
theorem Item.mono {K : PySem.W.Frag} {B H H' : Hp} {one other x : V} {m : Addr} {o : HO} (h : Item K B H one other x) (k : ∀ b o, H b = some o → b ≠ m → H' b = some o) (hB : B m = some o) (hm : ∀ o, H m = some o → (∀ xs, o ≠ .tup xs) ∧ (∀ φ, o ≠ .ext φ) ∧ ∀ fs, o ≠ .xd fs) : Item K B H' one other x := by
  obtain ⟨t, e, kl, C, d, fs, vals, rfl, ht, he, hd, kn, hl, hb, hv⟩ := h
  refine ⟨t, e, kl, C, d, fs, vals, rfl, k _ _ ht fun z => ?_, k _ _ he fun z => ?_, k _ _ hd fun z => ?_, kn, k _ _ hl fun z => ?_, hb, hv⟩
  · subst z; exact (hm _ ht).1 _ rfl
  · subst z; exact (hm _ he).2.1 _ rfl
  · subst z; exact (hm _ hd).2.2 _ rfl
  · subst z; rw [hB] at hb; cases hb
/-- between two of the pairs -/
structure BI (K : PySem.W.Frag) (B : Hp) (one other : V) (m : Addr) (n : Nat) (σ : L2.St) (H : Hp) : Prop where
  ex : ∃ (xs : List V) (v3 v4 : Option V), σ = [some one, some other, some (.ref m), v3, v4] ∧ H m = some (.lst xs) ∧ xs.length = n ∧ ∀ x ∈ xs, Item K B H one other x
  keep : ∀ b o, B b = some o → b ≠ m → H b = some o
  bm : B m = some (.lst [])
theorem lstNo {xs : List V} : ∀ o, some (HO.lst xs) = some o → (∀ ys, o ≠ .tup ys) ∧ (∀ φ, o ≠ .ext φ) ∧ ∀ fs, o ≠ .xd fs := fun o e => by
  cases e
  exact ⟨fun _ z => (nomatch z), fun _ z => (nomatch z), fun _ z => (nomatch z)⟩
theorem up {H : Hp} {p b : Addr} {x o : HO} (n : H p = none) (h : H b = some o) : upd H p x b = some o := by
  rw [upd_ne (ne_of_none h n)]
  exact h
theorem le1 (v : V) : [v].length ≤ sizeLine := by
  show 1 ≤ sizeLine
  decide
theorem le2 (v u : V) : [v, u].length ≤ sizeLine := by
  show 2 ≤ sizeLine
  decide
/-- the tail of a block: both pairs are laid, and behind the list -/
theorem blkEnd {K : PySem.W.Frag} {B H : Hp} {one other : V} {m n : Nat} {xs vals : List V} {e d e2 d2 C : Addr} {fs fs2 : List (Str × V)} {σ : L2.St} {rest : Hp → Prop} {v3 v4 : Option V} (hσ : σ = [some one, some other, some (.ref m), v3, v4]) (hn : n ≤ 1000) (hm : H m = some (.lst xs)) (hl : xs.length = n) (hx : ∀ x ∈ xs, Item K B H one other x) (keep : ∀ b o, B b = some o → b ≠ m → H b = some o) (bm : B m = some (.lst []))
    (ge : H e = some (ErrO C d e)) (gd : H d = some (.xd fs)) (ge2 : H e2 = some (ErrO C d2 e2)) (gd2 : H d2 = some (.xd fs2)) (kn : KnI K C) (hv : vals = [one] ∨ vals = [one, other]) (hr : ∀ H', BI K B one other m (n + 2) σ H' → rest H') :
    ∀ kl, H kl = none → ∀ t, upd H kl (.lst vals) t = none → ∀ kl2, upd (upd H kl (.lst vals)) t (.tup [.ref e, .ref kl]) kl2 = none → ∀ t2, upd (upd (upd H kl (.lst vals)) t (.tup [.ref e, .ref kl])) kl2 (.lst vals) t2 = none →
      ∀ L, upd (upd (upd (upd H kl (.lst vals)) t (.tup [.ref e, .ref kl])) kl2 (.lst vals)) t2 (.tup [.ref e2, .ref kl2]) L = none →
        rExtend (.ref m) [.ref L] (upd (upd (upd (upd (upd H kl (.lst vals)) t (.tup [.ref e, .ref kl])) kl2 (.lst vals)) t2 (.tup [.ref e2, .ref kl2])) L (.lst [.ref t, .ref t2])) fun _ H' => rest H' := by
  intro kl nkl t nt kl2 nkl2 t2 nt2 L nL
  refine ⟨m, L, xs, [.ref t, .ref t2], rfl, rfl, up nL (up nt2 (up nkl2 (up nt (up nkl hm)))), upd_same, ?_, hr _ ⟨⟨xs ++ [.ref t, .ref t2], v3, v4, hσ, upd_same, by rw [List.length_append, hl]; rfl, ?_⟩, fun b o z hb => ?_, bm⟩⟩
  · show xs.length + 2 ≤ sizeLine
    rw [hl]
    exact Nat.le_trans (Nat.add_le_add_right hn 2) (by decide)
  · have toB : ∀ q, H q = none → B q = none := fun q z => by
      cases y : B q with
      | none => rfl
      | some o =>
        by_cases hq : q = m
        · subst hq; rw [hm] at z; cases z
        · rw [keep q o y hq] at z; cases z
    have dn : ∀ {H1 : Hp} {p q : Addr} {x : HO}, upd H1 p x q = none → H1 q = none := fun {H1 p q x} z => by
      by_cases h : q = p
      · subst h; rw [upd_same] at z; cases z
      · rw [upd_ne h] at z; exact z
    have all : ∀ b o, H b = some o → b ≠ m → (upd (upd (upd (upd (upd (upd H kl (.lst vals)) t (.tup [.ref e, .ref kl])) kl2 (.lst vals)) t2 (.tup [.ref e2, .ref kl2])) L (.lst [.ref t, .ref t2])) m (.lst (xs ++ [.ref t, .ref t2]))) b = some o := fun b o z hb => by
      rw [upd_ne hb]
      exact up nL (up nt2 (up nkl2 (up nt (up nkl z))))
    have hme : ∀ {q : Addr} {C d e : Addr}, H q = some (ErrO C d e) → q ≠ m := fun z y => by
      subst y
      rw [hm] at z
      cases z
    have hmd : ∀ {q : Addr} {fs : List (Str × V)}, H q = some (.xd fs) → q ≠ m := fun z y => by
      subst y
      rw [hm] at z
      cases z
    intro x hx'
    rcases List.mem_append.mp hx' with h1 | h1
    · exact (hx x h1).mono (m := m) all bm (fun o z => lstNo o (hm ▸ z))
    · have mkl : kl ≠ m := fun y => by subst y; rw [hm] at nkl; cases nkl
      have mt : t ≠ m := fun y => by subst y; rw [up nkl hm] at nt; cases nt
      have mkl2 : kl2 ≠ m := fun y => by subst y; rw [up nt (up nkl hm)] at nkl2; cases nkl2
      have mt2 : t2 ≠ m := fun y => by subst y; rw [up nkl2 (up nt (up nkl hm))] at nt2; cases nt2
      simp only [List.mem_cons, List.mem_nil_iff, or_false] at h1
      rcases h1 with rfl | rfl
      · exact ⟨t, e, kl, C, d, fs, vals, rfl, by rw [upd_ne mt]; exact up nL (up nt2 (up nkl2 upd_same)), all _ _ ge (hme ge), all _ _ gd (hmd gd), kn, by rw [upd_ne mkl]; exact up nL (up nt2 (up nkl2 (up nt upd_same))), toB _ nkl, hv⟩
      · exact ⟨t2, e2, kl2, C, d2, fs2, vals, rfl, by rw [upd_ne mt2]; exact up nL upd_same, all _ _ ge2 (hme ge2), all _ _ gd2 (hmd gd2), kn, by rw [upd_ne mkl2]; exact up nL (up nt2 upd_same), toB _ (dn (dn nkl2)), hv⟩
  · rw [upd_ne hb]
    exact up nL (up nt2 (up nkl2 (up nt (up nkl (keep b o z hb)))))
/-- first, second = ..; made.extend(..): one field -/
def tBk1 (K : PySem.W.Frag) (C : Addr) (f : Str) : TS := tPar 3 4 (tCons (tE1 C f (tCons (tVar 0) tNil)) (tCons (tE1 C f (tCons (tVar 0) tNil)) tNil))
def tBx1 (K : PySem.W.Frag) (f : Str) : TS := tDrop (tBM K "list" rExtend (tVar 2) (tCons (tLst (tCons (tTup (tCons (tVar 3) (tCons (tLst (tCons (tEf K f (tVar 3)) tNil)) tNil))) (tCons (tTup (tCons (tVar 4) (tCons (tLst (tCons (tEf K f (tVar 4)) tNil)) tNil))) tNil))) tNil))
theorem blk1 {P : Program} {K K' : PySem.W.Frag} {mg : Str → Option Value} {B : Hp} {one other : V} {m : Addr} {n : Nat} {σ : L2.St} {H : Hp} {C : Addr} {nm f : Str} {rest : TS} {D : Ends} (hn : n ≤ 1000) (hk : L2.Sub K' K) (T : Er1 P K' mg nm f C) (hi : IsC K' C 24) (h : BI K B one other m n σ H)
    (hr : ∀ σ' H', BI K B one other m (n + 2) σ' H' → rest D σ' H') : tSeq (tBk1 K C f) (tSeq (tBx1 K f) rest) D σ H := by
  obtain ⟨⟨xs, v3, v4, rfl, hm, hl, hx⟩, keep, bm⟩ := h
  obtain ⟨_, fI, T1, hnf, _⟩ := T
  refine ⟨one, rfl, one, rfl, fun e d ne nd nde => ?_⟩
  refine ⟨one, rfl, one, rfl, fun e2 d2 ne2 nd2 nde2 => ?_⟩
  refine ⟨.ref e, .ref e2, rfl, ?_⟩
  have hme : m ≠ e := ne_of_none hm ne
  have hmd : m ≠ d := ne_of_none hm nd
  -- the heap with both errors
  have ge : (upd (upd H d (.xd [(f, one)])) e (ErrO C d e)) e = some (ErrO C d e) := upd_same
  have gd : (upd (upd H d (.xd [(f, one)])) e (ErrO C d e)) d = some (.xd [(f, one)]) := by rw [upd_ne nde, upd_same]
  have gm : (upd (upd H d (.xd [(f, one)])) e (ErrO C d e)) m = some (.lst xs) := by rw [upd_ne hme, upd_ne hmd]; exact hm
  have gk : ∀ b o, H b = some o → (upd (upd H d (.xd [(f, one)])) e (ErrO C d e)) b = some o := fun b o z => by rw [upd_ne (ne_of_none z ne), upd_ne (ne_of_none z nd)]; exact z
  generalize (upd (upd H d (.xd [(f, one)])) e (ErrO C d e)) = H1 at ne2 nd2 ge gd gm gk ⊢
  have he : ∀ b o, H1 b = some o → (upd (upd H1 d2 (.xd [(f, one)])) e2 (ErrO C d2 e2)) b = some o := fun b o z => by rw [upd_ne (ne_of_none z ne2), upd_ne (ne_of_none z nd2)]; exact z
  have ge2 : (upd (upd H1 d2 (.xd [(f, one)])) e2 (ErrO C d2 e2)) e2 = some (ErrO C d2 e2) := upd_same
  have gd2 : (upd (upd H1 d2 (.xd [(f, one)])) e2 (ErrO C d2 e2)) d2 = some (.xd [(f, one)]) := by rw [upd_ne nde2, upd_same]
  replace ge := he _ _ ge
  replace gd := he _ _ gd
  replace gm := he _ _ gm
  replace gk : ∀ b o, H b = some o → (upd (upd H1 d2 (.xd [(f, one)])) e2 (ErrO C d2 e2)) b = some o := fun b o z => he _ _ (gk b o z)
  clear he
  generalize (upd (upd H1 d2 (.xd [(f, one)])) e2 (ErrO C d2 e2)) = H2 at ge gd gm gk ge2 gd2 ⊢
  have lf : List.lookup f [(f, one)] = some one := lk_eq
  refine ⟨_, rfl, .inl ⟨rfl, _, SqL.of gm⟩, _, rfl, _, rfl, K', e, C, d, fI, _, one, rfl, ge, gd, hk, T1, hnf, lf, le1 _, fun kl nkl => ⟨le2 _ _, fun t nt => ?_⟩⟩
  refine ⟨_, rfl, _, rfl, K', e2, C, d2, fI, _, one, rfl, up nt (up nkl ge2), up nt (up nkl gd2), hk, T1, hnf, lf, le1 _, fun kl2 nkl2 => ⟨le2 _ _, fun t2 nt2 => ⟨le2 _ _, fun L nL => ?_⟩⟩⟩
  exact blkEnd (K := K) (B := B) (one := one) (other := other) (n := n) (xs := xs) rfl hn gm hl (fun x h1 => (hx x h1).mono (m := m) (fun b o z _ => gk b o z) bm (fun o z => lstNo o (hm ▸ z))) (fun b o z hb => gk b o (keep b o z hb)) bm ge gd ge2 gd2 ⟨K', fI, hk, T1, hi⟩ (.inl rfl) (fun H' hB => hr _ H' hB) kl nkl t nt kl2 nkl2 t2 nt2 L nL
end K00
/-! ## K00Z -/
set_option maxHeartbeats 4000000
namespace K00
open PySem PySem.Spec PyProof.Rows L2 PySem.HErr
def tKl2 (K : PySem.W.Frag) (i : Nat) : TE := tLst (tCons (tEf K "one" (tVar i)) (tCons (tEf K "other" (tVar i)) tNil))
def tBk2 (C : Addr) : TS := tPar 3 4 (tCons (tE2 C (tCons (tVar 0) (tCons (tVar 1) tNil))) (tCons (tE2k C (tCons (tVar 1) (tCons (tVar 0) tNil))) tNil))
def tBx2 (K : PySem.W.Frag) : TS := tDrop (tBM K "list" rExtend (tVar 2) (tCons (tLst (tCons (tTup (tCons (tVar 3) (tCons (tKl2 K 3) tNil))) (tCons (tTup (tCons (tVar 4) (tCons (tKl2 K 4) tNil))) tNil))) tNil))
theorem blk2 {P : Program} {K K' : PySem.W.Frag} {mg : Str → Option Value} {B : Hp} {one other : V} {m : Addr} {n : Nat} {σ : L2.St} {H : Hp} {C : Addr} {nm : Str} {rest : TS} {D : Ends} (hn : n ≤ 1000) (hk : L2.Sub K' K) (T : Er2 P K' mg nm C) (hi : IsC K' C 24) (h : BI K B one other m n σ H)
    (hr : ∀ σ' H', BI K B one other m (n + 2) σ' H' → rest D σ' H') : tSeq (tBk2 C) (tSeq (tBx2 K) rest) D σ H := by
  obtain ⟨⟨xs, v3, v4, rfl, hm, hl, hx⟩, keep, bm⟩ := h
  obtain ⟨_, fI, T1, hnf, hnf2, _⟩ := T
  refine ⟨one, rfl, other, rfl, one, other, rfl, fun e d ne nd nde => ?_⟩
  refine ⟨other, rfl, one, rfl, one, other, rfl, fun e2 d2 ne2 nd2 nde2 => ?_⟩
  refine ⟨.ref e, .ref e2, rfl, ?_⟩
  have hme : m ≠ e := ne_of_none hm ne
  have hmd : m ≠ d := ne_of_none hm nd
  have ge : (upd (upd H d (.xd [("one", one), ("other", other)])) e (ErrO C d e)) e = some (ErrO C d e) := upd_same
  have gd : (upd (upd H d (.xd [("one", one), ("other", other)])) e (ErrO C d e)) d = some (.xd [("one", one), ("other", other)]) := by rw [upd_ne nde, upd_same]
  have gm : (upd (upd H d (.xd [("one", one), ("other", other)])) e (ErrO C d e)) m = some (.lst xs) := by rw [upd_ne hme, upd_ne hmd]; exact hm
  have gk : ∀ b o, H b = some o → (upd (upd H d (.xd [("one", one), ("other", other)])) e (ErrO C d e)) b = some o := fun b o z => by rw [upd_ne (ne_of_none z ne), upd_ne (ne_of_none z nd)]; exact z
  generalize (upd (upd H d (.xd [("one", one), ("other", other)])) e (ErrO C d e)) = H1 at ne2 nd2 ge gd gm gk ⊢
  have he : ∀ b o, H1 b = some o → (upd (upd H1 d2 (.xd [("one", one), ("other", other)])) e2 (ErrO C d2 e2)) b = some o := fun b o z => by rw [upd_ne (ne_of_none z ne2), upd_ne (ne_of_none z nd2)]; exact z
  have ge2 : (upd (upd H1 d2 (.xd [("one", one), ("other", other)])) e2 (ErrO C d2 e2)) e2 = some (ErrO C d2 e2) := upd_same
  have gd2 : (upd (upd H1 d2 (.xd [("one", one), ("other", other)])) e2 (ErrO C d2 e2)) d2 = some (.xd [("one", one), ("other", other)]) := by rw [upd_ne nde2, upd_same]
  replace ge := he _ _ ge
  replace gd := he _ _ gd
  replace gm := he _ _ gm
  replace gk : ∀ b o, H b = some o → (upd (upd H1 d2 (.xd [("one", one), ("other", other)])) e2 (ErrO C d2 e2)) b = some o := fun b o z => he _ _ (gk b o z)
  clear he
  generalize (upd (upd H1 d2 (.xd [("one", one), ("other", other)])) e2 (ErrO C d2 e2)) = H2 at ge gd gm gk ge2 gd2 ⊢
  have lf : List.lookup ("one" : Str) [(("one" : Str), one), (("other" : Str), other)] = some one := lk_eq
  have lg : List.lookup ("other" : Str) [(("one" : Str), one), (("other" : Str), other)] = some other := by
    rw [lk_ne (fun z => one_other z.symm)]
    exact lk_eq
  refine ⟨_, rfl, .inl ⟨rfl, _, SqL.of gm⟩, _, rfl, _, rfl, K', e, C, d, fI, _, one, rfl, ge, gd, hk, T1, hnf, lf, _, rfl, K', e, C, d, fI, _, other, rfl, ge, gd, hk, T1, hnf2, lg, le2 _ _, fun kl nkl => ⟨le2 _ _, fun t nt => ?_⟩⟩
  refine ⟨_, rfl, _, rfl, K', e2, C, d2, fI, _, one, rfl, up nt (up nkl ge2), up nt (up nkl gd2), hk, T1, hnf, lf, _, rfl, K', e2, C, d2, fI, _, other, rfl, up nt (up nkl ge2), up nt (up nkl gd2), hk, T1, hnf2, lg, le2 _ _, fun kl2 nkl2 => ⟨le2 _ _, fun t2 nt2 => ⟨le2 _ _, fun L nL => ?_⟩⟩⟩
  exact blkEnd (K := K) (B := B) (one := one) (other := other) (n := n) (xs := xs) rfl hn gm hl (fun x h1 => (hx x h1).mono (m := m) (fun b o z _ => gk b o z) bm (fun o z => lstNo o (hm ▸ z))) (fun b o z hb => gk b o (keep b o z hb)) bm ge gd ge2 gd2 ⟨K', fI, hk, T1, hi⟩ (.inr rfl) (fun H' hB => hr _ H' hB) kl nkl t nt kl2 nkl2 t2 nt2 L nL
end K00
/-! ## K00W -/
set_option maxHeartbeats 4000000
namespace K00
open PySem PySem.Spec PyProof.Rows L2 PySem.HErr
/-- an error's class, known -/
def Kn1 (P : Program) (K : PySem.W.Frag) (mg : Str → Option Value) (nm f : Str) : Prop := ∃ (K' : PySem.W.Frag) (C : Addr), L2.Sub K' K ∧ Er1 P K' mg nm f C ∧ IsC K' C 24
def Kn2 (P : Program) (K : PySem.W.Frag) (mg : Str → Option Value) (nm : Str) : Prop := ∃ (K' : PySem.W.Frag) (C : Addr), L2.Sub K' K ∧ Er2 P K' mg nm C ∧ IsC K' C 24
def spErr (K : PySem.W.Frag) (n : Nat) : Sp := fun vs H Q _ => ∃ one other : V, vs = [one, other] ∧ ∀ (m : Addr) (xs : List V) (H' : Hp), (∀ b o, H b = some o → H' b = some o) → H m = none → H' m = some (.lst xs) → xs.length = n → (∀ x ∈ xs, Item K H H' one other x) → Q (.ref m) H'
theorem Item.less {K : PySem.W.Frag} {B B' H : Hp} {one other x : V} (h : Item K B H one other x) (k : ∀ b o, B' b = some o → B b = some o) : Item K B' H one other x := by
  obtain ⟨t, e, kl, C, d, fs, vals, rfl, ht, he, hd, kn, hl, hb, hv⟩ := h
  refine ⟨t, e, kl, C, d, fs, vals, rfl, ht, he, hd, kn, hl, ?_, hv⟩
  cases z : B' kl with
  | none => rfl
  | some o => rw [k _ _ z] at hb; cases hb
theorem le0 : ([] : List V).length ≤ sizeLine := Nat.zero_le _
section
variable {P : Program} {w : World} {K : PySem.W.Frag} {mg : Str → Option Value} {base : Heap}
abbrev sL_ea : Stmt := top 82
theorem sc_ea : FnScope ["one", "other", "made", "first", "second"] ["one", "other"] (defScope sL_ea) := ⟨rfl, rfl, rfl, by decide +kernel, rfl, by decide +kernel, by decide +kernel⟩
theorem ok_ea {f : Addr} {fd : FuncData} (F : FnP K "_law_errors_a" sL_ea f fd) (U : SupOk P mg) (h0 : Kn1 P K mg "BadPeople" "index") (h1 : Kn1 P K mg "BadTies" "index") (h2 : Kn1 P K mg "BadNews" "index") (h3 : Kn1 P K mg "BadVillage" "thing") (h4 : Kn1 P K mg "NoPerson" "person") (h5 : Kn2 P K mg "NotFriends") (h6 : Kn1 P K mg "BadCalendar" "calendar") (h7 : Kn1 P K mg "BadSlates" "slates") (h8 : Kn1 P K mg "BadMany" "many") (h9 : Kn1 P K mg "BadTable" "table") (h10 : Kn1 P K mg "BadNumber" "number") (h11 : Kn1 P K mg "BadSome" "index") (h12 : Kn1 P K mg "BadLedger" "ledger") (h13 : Kn1 P K mg "BadFame" "fame") (h14 : Kn1 P K mg "BadBegun" "begun") (h15 : Kn1 P K mg "BadLedgers" "index") (h16 : Kn1 P K mg "BadGifts" "gifts") (h17 : Kn1 P K mg "BadTalks" "index") (h18 : Kn1 P K mg "BadPart" "part") (h19 : Kn1 P K mg "BadBox" "box") (h20 : Kn1 P K mg "BadPrices" "prices") (h21 : Kn1 P K mg "BadMeeting" "meeting") (h22 : Kn1 P K mg "SameMeeting" "meeting") (h23 : Kn1 P K mg "BadStart" "index") : FnOk P w K mg base CX0 1 f fd ["one", "other"] (spErr K 48) := by
  obtain ⟨K0, C0, hk0, T0, i0⟩ := h0
  obtain ⟨K1, C1, hk1, T1, i1⟩ := h1
  obtain ⟨K2, C2, hk2, T2, i2⟩ := h2
  obtain ⟨K3, C3, hk3, T3, i3⟩ := h3
  obtain ⟨K4, C4, hk4, T4, i4⟩ := h4
  obtain ⟨K5, C5, hk5, T5, i5⟩ := h5
  obtain ⟨K6, C6, hk6, T6, i6⟩ := h6
  obtain ⟨K7, C7, hk7, T7, i7⟩ := h7
  obtain ⟨K8, C8, hk8, T8, i8⟩ := h8
  obtain ⟨K9, C9, hk9, T9, i9⟩ := h9
  obtain ⟨K10, C10, hk10, T10, i10⟩ := h10
  obtain ⟨K11, C11, hk11, T11, i11⟩ := h11
  obtain ⟨K12, C12, hk12, T12, i12⟩ := h12
  obtain ⟨K13, C13, hk13, T13, i13⟩ := h13
  obtain ⟨K14, C14, hk14, T14, i14⟩ := h14
  obtain ⟨K15, C15, hk15, T15, i15⟩ := h15
  obtain ⟨K16, C16, hk16, T16, i16⟩ := h16
  obtain ⟨K17, C17, hk17, T17, i17⟩ := h17
  obtain ⟨K18, C18, hk18, T18, i18⟩ := h18
  obtain ⟨K19, C19, hk19, T19, i19⟩ := h19
  obtain ⟨K20, C20, hk20, T20, i20⟩ := h20
  obtain ⟨K21, C21, hk21, T21, i21⟩ := h21
  obtain ⟨K22, C22, hk22, T22, i22⟩ := h22
  obtain ⟨K23, C23, hk23, T23, i23⟩ := h23
  refine F.ok sc_ea (fun vs H Q E h => ?_) (fun cdv A outer s H vs Q E hr h => ?_)
  · obtain ⟨one, other, rfl, _⟩ := h
    rfl
  · obtain ⟨one, other, rfl, k⟩ := h
    refine ⟨_, PSs.nox (pss_cons (ps_set (i := 2) sc_ea.nd rfl (Or.inl rfl) (pe_lst pa_nil)) 
      (pss_cons (ps_par (i := 3) (j := 4) (by rfl) sc_ea.nd rfl rfl (by decide) rfl rfl (pa_cons (pe_e1 hk0 T0 U hr rfl (pa_cons (pv 0) pa_nil)) (pa_cons (pe_e1k hk0 T0 U hr rfl (pk_cons (pv 0) pk_nil)) pa_nil)) (by rfl))
      (pss_cons (ps_expr (pe_bm PySem.F.plainAttrs_list PySem.F.slot_list_extend PySem.F.type_list_extend mt_extend (pv 2) (pa_cons (pe_lst (pa_cons (pe_tup (pa_cons (pv 3) (pa_cons (pe_lst (pa_cons (pe_ef (pv 3) rfl) pa_nil)) pa_nil))) (pa_cons (pe_tup (pa_cons (pv 4) (pa_cons (pe_lst (pa_cons (pe_ef (pv 4) rfl) pa_nil)) pa_nil))) pa_nil))) pa_nil)))
      (pss_cons (ps_par (i := 3) (j := 4) (by rfl) sc_ea.nd rfl rfl (by decide) rfl rfl (pa_cons (pe_e1 hk1 T1 U hr rfl (pa_cons (pv 0) pa_nil)) (pa_cons (pe_e1k hk1 T1 U hr rfl (pk_cons (pv 0) pk_nil)) pa_nil)) (by rfl))
      (pss_cons (ps_expr (pe_bm PySem.F.plainAttrs_list PySem.F.slot_list_extend PySem.F.type_list_extend mt_extend (pv 2) (pa_cons (pe_lst (pa_cons (pe_tup (pa_cons (pv 3) (pa_cons (pe_lst (pa_cons (pe_ef (pv 3) rfl) pa_nil)) pa_nil))) (pa_cons (pe_tup (pa_cons (pv 4) (pa_cons (pe_lst (pa_cons (pe_ef (pv 4) rfl) pa_nil)) pa_nil))) pa_nil))) pa_nil)))
      (pss_cons (ps_par (i := 3) (j := 4) (by rfl) sc_ea.nd rfl rfl (by decide) rfl rfl (pa_cons (pe_e1 hk2 T2 U hr rfl (pa_cons (pv 0) pa_nil)) (pa_cons (pe_e1k hk2 T2 U hr rfl (pk_cons (pv 0) pk_nil)) pa_nil)) (by rfl))
      (pss_cons (ps_expr (pe_bm PySem.F.plainAttrs_list PySem.F.slot_list_extend PySem.F.type_list_extend mt_extend (pv 2) (pa_cons (pe_lst (pa_cons (pe_tup (pa_cons (pv 3) (pa_cons (pe_lst (pa_cons (pe_ef (pv 3) rfl) pa_nil)) pa_nil))) (pa_cons (pe_tup (pa_cons (pv 4) (pa_cons (pe_lst (pa_cons (pe_ef (pv 4) rfl) pa_nil)) pa_nil))) pa_nil))) pa_nil)))
      (pss_cons (ps_par (i := 3) (j := 4) (by rfl) sc_ea.nd rfl rfl (by decide) rfl rfl (pa_cons (pe_e1 hk3 T3 U hr rfl (pa_cons (pv 0) pa_nil)) (pa_cons (pe_e1k hk3 T3 U hr rfl (pk_cons (pv 0) pk_nil)) pa_nil)) (by rfl))
      (pss_cons (ps_expr (pe_bm PySem.F.plainAttrs_list PySem.F.slot_list_extend PySem.F.type_list_extend mt_extend (pv 2) (pa_cons (pe_lst (pa_cons (pe_tup (pa_cons (pv 3) (pa_cons (pe_lst (pa_cons (pe_ef (pv 3) rfl) pa_nil)) pa_nil))) (pa_cons (pe_tup (pa_cons (pv 4) (pa_cons (pe_lst (pa_cons (pe_ef (pv 4) rfl) pa_nil)) pa_nil))) pa_nil))) pa_nil)))
      (pss_cons (ps_par (i := 3) (j := 4) (by rfl) sc_ea.nd rfl rfl (by decide) rfl rfl (pa_cons (pe_e1 hk4 T4 U hr rfl (pa_cons (pv 0) pa_nil)) (pa_cons (pe_e1k hk4 T4 U hr rfl (pk_cons (pv 0) pk_nil)) pa_nil)) (by rfl))
      (pss_cons (ps_expr (pe_bm PySem.F.plainAttrs_list PySem.F.slot_list_extend PySem.F.type_list_extend mt_extend (pv 2) (pa_cons (pe_lst (pa_cons (pe_tup (pa_cons (pv 3) (pa_cons (pe_lst (pa_cons (pe_ef (pv 3) rfl) pa_nil)) pa_nil))) (pa_cons (pe_tup (pa_cons (pv 4) (pa_cons (pe_lst (pa_cons (pe_ef (pv 4) rfl) pa_nil)) pa_nil))) pa_nil))) pa_nil)))
      (pss_cons (ps_par (i := 3) (j := 4) (by rfl) sc_ea.nd rfl rfl (by decide) rfl rfl (pa_cons (pe_e2 hk5 T5 U hr rfl (pa_cons (pv 0) (pa_cons (pv 1) pa_nil))) (pa_cons (pe_e2k hk5 T5 U hr rfl (pk_cons (pv 1) (pk_cons (pv 0) pk_nil))) pa_nil)) (by rfl))
      (pss_cons (ps_expr (pe_bm PySem.F.plainAttrs_list PySem.F.slot_list_extend PySem.F.type_list_extend mt_extend (pv 2) (pa_cons (pe_lst (pa_cons (pe_tup (pa_cons (pv 3) (pa_cons (pe_lst (pa_cons (pe_ef (pv 3) rfl) (pa_cons (pe_ef (pv 3) rfl) pa_nil))) pa_nil))) (pa_cons (pe_tup (pa_cons (pv 4) (pa_cons (pe_lst (pa_cons (pe_ef (pv 4) rfl) (pa_cons (pe_ef (pv 4) rfl) pa_nil))) pa_nil))) pa_nil))) pa_nil)))
      (pss_cons (ps_par (i := 3) (j := 4) (by rfl) sc_ea.nd rfl rfl (by decide) rfl rfl (pa_cons (pe_e1 hk6 T6 U hr rfl (pa_cons (pv 0) pa_nil)) (pa_cons (pe_e1k hk6 T6 U hr rfl (pk_cons (pv 0) pk_nil)) pa_nil)) (by rfl))
      (pss_cons (ps_expr (pe_bm PySem.F.plainAttrs_list PySem.F.slot_list_extend PySem.F.type_list_extend mt_extend (pv 2) (pa_cons (pe_lst (pa_cons (pe_tup (pa_cons (pv 3) (pa_cons (pe_lst (pa_cons (pe_ef (pv 3) rfl) pa_nil)) pa_nil))) (pa_cons (pe_tup (pa_cons (pv 4) (pa_cons (pe_lst (pa_cons (pe_ef (pv 4) rfl) pa_nil)) pa_nil))) pa_nil))) pa_nil)))
      (pss_cons (ps_par (i := 3) (j := 4) (by rfl) sc_ea.nd rfl rfl (by decide) rfl rfl (pa_cons (pe_e1 hk7 T7 U hr rfl (pa_cons (pv 0) pa_nil)) (pa_cons (pe_e1k hk7 T7 U hr rfl (pk_cons (pv 0) pk_nil)) pa_nil)) (by rfl))
      (pss_cons (ps_expr (pe_bm PySem.F.plainAttrs_list PySem.F.slot_list_extend PySem.F.type_list_extend mt_extend (pv 2) (pa_cons (pe_lst (pa_cons (pe_tup (pa_cons (pv 3) (pa_cons (pe_lst (pa_cons (pe_ef (pv 3) rfl) pa_nil)) pa_nil))) (pa_cons (pe_tup (pa_cons (pv 4) (pa_cons (pe_lst (pa_cons (pe_ef (pv 4) rfl) pa_nil)) pa_nil))) pa_nil))) pa_nil)))
      (pss_cons (ps_par (i := 3) (j := 4) (by rfl) sc_ea.nd rfl rfl (by decide) rfl rfl (pa_cons (pe_e1 hk8 T8 U hr rfl (pa_cons (pv 0) pa_nil)) (pa_cons (pe_e1k hk8 T8 U hr rfl (pk_cons (pv 0) pk_nil)) pa_nil)) (by rfl))
      (pss_cons (ps_expr (pe_bm PySem.F.plainAttrs_list PySem.F.slot_list_extend PySem.F.type_list_extend mt_extend (pv 2) (pa_cons (pe_lst (pa_cons (pe_tup (pa_cons (pv 3) (pa_cons (pe_lst (pa_cons (pe_ef (pv 3) rfl) pa_nil)) pa_nil))) (pa_cons (pe_tup (pa_cons (pv 4) (pa_cons (pe_lst (pa_cons (pe_ef (pv 4) rfl) pa_nil)) pa_nil))) pa_nil))) pa_nil)))
      (pss_cons (ps_par (i := 3) (j := 4) (by rfl) sc_ea.nd rfl rfl (by decide) rfl rfl (pa_cons (pe_e1 hk9 T9 U hr rfl (pa_cons (pv 0) pa_nil)) (pa_cons (pe_e1k hk9 T9 U hr rfl (pk_cons (pv 0) pk_nil)) pa_nil)) (by rfl))
      (pss_cons (ps_expr (pe_bm PySem.F.plainAttrs_list PySem.F.slot_list_extend PySem.F.type_list_extend mt_extend (pv 2) (pa_cons (pe_lst (pa_cons (pe_tup (pa_cons (pv 3) (pa_cons (pe_lst (pa_cons (pe_ef (pv 3) rfl) pa_nil)) pa_nil))) (pa_cons (pe_tup (pa_cons (pv 4) (pa_cons (pe_lst (pa_cons (pe_ef (pv 4) rfl) pa_nil)) pa_nil))) pa_nil))) pa_nil)))
      (pss_cons (ps_par (i := 3) (j := 4) (by rfl) sc_ea.nd rfl rfl (by decide) rfl rfl (pa_cons (pe_e1 hk10 T10 U hr rfl (pa_cons (pv 0) pa_nil)) (pa_cons (pe_e1k hk10 T10 U hr rfl (pk_cons (pv 0) pk_nil)) pa_nil)) (by rfl))
      (pss_cons (ps_expr (pe_bm PySem.F.plainAttrs_list PySem.F.slot_list_extend PySem.F.type_list_extend mt_extend (pv 2) (pa_cons (pe_lst (pa_cons (pe_tup (pa_cons (pv 3) (pa_cons (pe_lst (pa_cons (pe_ef (pv 3) rfl) pa_nil)) pa_nil))) (pa_cons (pe_tup (pa_cons (pv 4) (pa_cons (pe_lst (pa_cons (pe_ef (pv 4) rfl) pa_nil)) pa_nil))) pa_nil))) pa_nil)))
      (pss_cons (ps_par (i := 3) (j := 4) (by rfl) sc_ea.nd rfl rfl (by decide) rfl rfl (pa_cons (pe_e1 hk11 T11 U hr rfl (pa_cons (pv 0) pa_nil)) (pa_cons (pe_e1k hk11 T11 U hr rfl (pk_cons (pv 0) pk_nil)) pa_nil)) (by rfl))
      (pss_cons (ps_expr (pe_bm PySem.F.plainAttrs_list PySem.F.slot_list_extend PySem.F.type_list_extend mt_extend (pv 2) (pa_cons (pe_lst (pa_cons (pe_tup (pa_cons (pv 3) (pa_cons (pe_lst (pa_cons (pe_ef (pv 3) rfl) pa_nil)) pa_nil))) (pa_cons (pe_tup (pa_cons (pv 4) (pa_cons (pe_lst (pa_cons (pe_ef (pv 4) rfl) pa_nil)) pa_nil))) pa_nil))) pa_nil)))
      (pss_cons (ps_par (i := 3) (j := 4) (by rfl) sc_ea.nd rfl rfl (by decide) rfl rfl (pa_cons (pe_e1 hk12 T12 U hr rfl (pa_cons (pv 0) pa_nil)) (pa_cons (pe_e1k hk12 T12 U hr rfl (pk_cons (pv 0) pk_nil)) pa_nil)) (by rfl))
      (pss_cons (ps_expr (pe_bm PySem.F.plainAttrs_list PySem.F.slot_list_extend PySem.F.type_list_extend mt_extend (pv 2) (pa_cons (pe_lst (pa_cons (pe_tup (pa_cons (pv 3) (pa_cons (pe_lst (pa_cons (pe_ef (pv 3) rfl) pa_nil)) pa_nil))) (pa_cons (pe_tup (pa_cons (pv 4) (pa_cons (pe_lst (pa_cons (pe_ef (pv 4) rfl) pa_nil)) pa_nil))) pa_nil))) pa_nil)))
      (pss_cons (ps_par (i := 3) (j := 4) (by rfl) sc_ea.nd rfl rfl (by decide) rfl rfl (pa_cons (pe_e1 hk13 T13 U hr rfl (pa_cons (pv 0) pa_nil)) (pa_cons (pe_e1k hk13 T13 U hr rfl (pk_cons (pv 0) pk_nil)) pa_nil)) (by rfl))
      (pss_cons (ps_expr (pe_bm PySem.F.plainAttrs_list PySem.F.slot_list_extend PySem.F.type_list_extend mt_extend (pv 2) (pa_cons (pe_lst (pa_cons (pe_tup (pa_cons (pv 3) (pa_cons (pe_lst (pa_cons (pe_ef (pv 3) rfl) pa_nil)) pa_nil))) (pa_cons (pe_tup (pa_cons (pv 4) (pa_cons (pe_lst (pa_cons (pe_ef (pv 4) rfl) pa_nil)) pa_nil))) pa_nil))) pa_nil)))
      (pss_cons (ps_par (i := 3) (j := 4) (by rfl) sc_ea.nd rfl rfl (by decide) rfl rfl (pa_cons (pe_e1 hk14 T14 U hr rfl (pa_cons (pv 0) pa_nil)) (pa_cons (pe_e1k hk14 T14 U hr rfl (pk_cons (pv 0) pk_nil)) pa_nil)) (by rfl))
      (pss_cons (ps_expr (pe_bm PySem.F.plainAttrs_list PySem.F.slot_list_extend PySem.F.type_list_extend mt_extend (pv 2) (pa_cons (pe_lst (pa_cons (pe_tup (pa_cons (pv 3) (pa_cons (pe_lst (pa_cons (pe_ef (pv 3) rfl) pa_nil)) pa_nil))) (pa_cons (pe_tup (pa_cons (pv 4) (pa_cons (pe_lst (pa_cons (pe_ef (pv 4) rfl) pa_nil)) pa_nil))) pa_nil))) pa_nil)))
      (pss_cons (ps_par (i := 3) (j := 4) (by rfl) sc_ea.nd rfl rfl (by decide) rfl rfl (pa_cons (pe_e1 hk15 T15 U hr rfl (pa_cons (pv 0) pa_nil)) (pa_cons (pe_e1k hk15 T15 U hr rfl (pk_cons (pv 0) pk_nil)) pa_nil)) (by rfl))
      (pss_cons (ps_expr (pe_bm PySem.F.plainAttrs_list PySem.F.slot_list_extend PySem.F.type_list_extend mt_extend (pv 2) (pa_cons (pe_lst (pa_cons (pe_tup (pa_cons (pv 3) (pa_cons (pe_lst (pa_cons (pe_ef (pv 3) rfl) pa_nil)) pa_nil))) (pa_cons (pe_tup (pa_cons (pv 4) (pa_cons (pe_lst (pa_cons (pe_ef (pv 4) rfl) pa_nil)) pa_nil))) pa_nil))) pa_nil)))
      (pss_cons (ps_par (i := 3) (j := 4) (by rfl) sc_ea.nd rfl rfl (by decide) rfl rfl (pa_cons (pe_e1 hk16 T16 U hr rfl (pa_cons (pv 0) pa_nil)) (pa_cons (pe_e1k hk16 T16 U hr rfl (pk_cons (pv 0) pk_nil)) pa_nil)) (by rfl))
      (pss_cons (ps_expr (pe_bm PySem.F.plainAttrs_list PySem.F.slot_list_extend PySem.F.type_list_extend mt_extend (pv 2) (pa_cons (pe_lst (pa_cons (pe_tup (pa_cons (pv 3) (pa_cons (pe_lst (pa_cons (pe_ef (pv 3) rfl) pa_nil)) pa_nil))) (pa_cons (pe_tup (pa_cons (pv 4) (pa_cons (pe_lst (pa_cons (pe_ef (pv 4) rfl) pa_nil)) pa_nil))) pa_nil))) pa_nil)))
      (pss_cons (ps_par (i := 3) (j := 4) (by rfl) sc_ea.nd rfl rfl (by decide) rfl rfl (pa_cons (pe_e1 hk17 T17 U hr rfl (pa_cons (pv 0) pa_nil)) (pa_cons (pe_e1k hk17 T17 U hr rfl (pk_cons (pv 0) pk_nil)) pa_nil)) (by rfl))
      (pss_cons (ps_expr (pe_bm PySem.F.plainAttrs_list PySem.F.slot_list_extend PySem.F.type_list_extend mt_extend (pv 2) (pa_cons (pe_lst (pa_cons (pe_tup (pa_cons (pv 3) (pa_cons (pe_lst (pa_cons (pe_ef (pv 3) rfl) pa_nil)) pa_nil))) (pa_cons (pe_tup (pa_cons (pv 4) (pa_cons (pe_lst (pa_cons (pe_ef (pv 4) rfl) pa_nil)) pa_nil))) pa_nil))) pa_nil)))
      (pss_cons (ps_par (i := 3) (j := 4) (by rfl) sc_ea.nd rfl rfl (by decide) rfl rfl (pa_cons (pe_e1 hk18 T18 U hr rfl (pa_cons (pv 0) pa_nil)) (pa_cons (pe_e1k hk18 T18 U hr rfl (pk_cons (pv 0) pk_nil)) pa_nil)) (by rfl))
      (pss_cons (ps_expr (pe_bm PySem.F.plainAttrs_list PySem.F.slot_list_extend PySem.F.type_list_extend mt_extend (pv 2) (pa_cons (pe_lst (pa_cons (pe_tup (pa_cons (pv 3) (pa_cons (pe_lst (pa_cons (pe_ef (pv 3) rfl) pa_nil)) pa_nil))) (pa_cons (pe_tup (pa_cons (pv 4) (pa_cons (pe_lst (pa_cons (pe_ef (pv 4) rfl) pa_nil)) pa_nil))) pa_nil))) pa_nil)))
      (pss_cons (ps_par (i := 3) (j := 4) (by rfl) sc_ea.nd rfl rfl (by decide) rfl rfl (pa_cons (pe_e1 hk19 T19 U hr rfl (pa_cons (pv 0) pa_nil)) (pa_cons (pe_e1k hk19 T19 U hr rfl (pk_cons (pv 0) pk_nil)) pa_nil)) (by rfl))
      (pss_cons (ps_expr (pe_bm PySem.F.plainAttrs_list PySem.F.slot_list_extend PySem.F.type_list_extend mt_extend (pv 2) (pa_cons (pe_lst (pa_cons (pe_tup (pa_cons (pv 3) (pa_cons (pe_lst (pa_cons (pe_ef (pv 3) rfl) pa_nil)) pa_nil))) (pa_cons (pe_tup (pa_cons (pv 4) (pa_cons (pe_lst (pa_cons (pe_ef (pv 4) rfl) pa_nil)) pa_nil))) pa_nil))) pa_nil)))
      (pss_cons (ps_par (i := 3) (j := 4) (by rfl) sc_ea.nd rfl rfl (by decide) rfl rfl (pa_cons (pe_e1 hk20 T20 U hr rfl (pa_cons (pv 0) pa_nil)) (pa_cons (pe_e1k hk20 T20 U hr rfl (pk_cons (pv 0) pk_nil)) pa_nil)) (by rfl))
      (pss_cons (ps_expr (pe_bm PySem.F.plainAttrs_list PySem.F.slot_list_extend PySem.F.type_list_extend mt_extend (pv 2) (pa_cons (pe_lst (pa_cons (pe_tup (pa_cons (pv 3) (pa_cons (pe_lst (pa_cons (pe_ef (pv 3) rfl) pa_nil)) pa_nil))) (pa_cons (pe_tup (pa_cons (pv 4) (pa_cons (pe_lst (pa_cons (pe_ef (pv 4) rfl) pa_nil)) pa_nil))) pa_nil))) pa_nil)))
      (pss_cons (ps_par (i := 3) (j := 4) (by rfl) sc_ea.nd rfl rfl (by decide) rfl rfl (pa_cons (pe_e1 hk21 T21 U hr rfl (pa_cons (pv 0) pa_nil)) (pa_cons (pe_e1k hk21 T21 U hr rfl (pk_cons (pv 0) pk_nil)) pa_nil)) (by rfl))
      (pss_cons (ps_expr (pe_bm PySem.F.plainAttrs_list PySem.F.slot_list_extend PySem.F.type_list_extend mt_extend (pv 2) (pa_cons (pe_lst (pa_cons (pe_tup (pa_cons (pv 3) (pa_cons (pe_lst (pa_cons (pe_ef (pv 3) rfl) pa_nil)) pa_nil))) (pa_cons (pe_tup (pa_cons (pv 4) (pa_cons (pe_lst (pa_cons (pe_ef (pv 4) rfl) pa_nil)) pa_nil))) pa_nil))) pa_nil)))
      (pss_cons (ps_par (i := 3) (j := 4) (by rfl) sc_ea.nd rfl rfl (by decide) rfl rfl (pa_cons (pe_e1 hk22 T22 U hr rfl (pa_cons (pv 0) pa_nil)) (pa_cons (pe_e1k hk22 T22 U hr rfl (pk_cons (pv 0) pk_nil)) pa_nil)) (by rfl))
      (pss_cons (ps_expr (pe_bm PySem.F.plainAttrs_list PySem.F.slot_list_extend PySem.F.type_list_extend mt_extend (pv 2) (pa_cons (pe_lst (pa_cons (pe_tup (pa_cons (pv 3) (pa_cons (pe_lst (pa_cons (pe_ef (pv 3) rfl) pa_nil)) pa_nil))) (pa_cons (pe_tup (pa_cons (pv 4) (pa_cons (pe_lst (pa_cons (pe_ef (pv 4) rfl) pa_nil)) pa_nil))) pa_nil))) pa_nil)))
      (pss_cons (ps_par (i := 3) (j := 4) (by rfl) sc_ea.nd rfl rfl (by decide) rfl rfl (pa_cons (pe_e1 hk23 T23 U hr rfl (pa_cons (pv 0) pa_nil)) (pa_cons (pe_e1k hk23 T23 U hr rfl (pk_cons (pv 0) pk_nil)) pa_nil)) (by rfl))
      (pss_cons (ps_expr (pe_bm PySem.F.plainAttrs_list PySem.F.slot_list_extend PySem.F.type_list_extend mt_extend (pv 2) (pa_cons (pe_lst (pa_cons (pe_tup (pa_cons (pv 3) (pa_cons (pe_lst (pa_cons (pe_ef (pv 3) rfl) pa_nil)) pa_nil))) (pa_cons (pe_tup (pa_cons (pv 4) (pa_cons (pe_lst (pa_cons (pe_ef (pv 4) rfl) pa_nil)) pa_nil))) pa_nil))) pa_nil)))
      (pss_one (ps_ret (pv 2)))))))))))))))))))))))))))))))))))))))))))))))))))), ?_⟩
    refine ⟨le0, fun m nm => ?_⟩
    have z : BI K (upd H m (.lst [])) one other m 0 [some one, some other, some (.ref m), none, none] (upd H m (.lst [])) := ⟨⟨[], none, none, rfl, upd_same, rfl, fun x hx => (nomatch hx)⟩, fun b o q _ => q, upd_same⟩
    refine blk1 (by omega) hk0 T0 i0 z (fun σ0 H0 z0 => ?_)
    refine blk1 (by omega) hk1 T1 i1 z0 (fun σ1 H1 z1 => ?_)
    refine blk1 (by omega) hk2 T2 i2 z1 (fun σ2 H2 z2 => ?_)
    refine blk1 (by omega) hk3 T3 i3 z2 (fun σ3 H3 z3 => ?_)
    refine blk1 (by omega) hk4 T4 i4 z3 (fun σ4 H4 z4 => ?_)
    refine blk2 (by omega) hk5 T5 i5 z4 (fun σ5 H5 z5 => ?_)
    refine blk1 (by omega) hk6 T6 i6 z5 (fun σ6 H6 z6 => ?_)
    refine blk1 (by omega) hk7 T7 i7 z6 (fun σ7 H7 z7 => ?_)
    refine blk1 (by omega) hk8 T8 i8 z7 (fun σ8 H8 z8 => ?_)
    refine blk1 (by omega) hk9 T9 i9 z8 (fun σ9 H9 z9 => ?_)
    refine blk1 (by omega) hk10 T10 i10 z9 (fun σ10 H10 z10 => ?_)
    refine blk1 (by omega) hk11 T11 i11 z10 (fun σ11 H11 z11 => ?_)
    refine blk1 (by omega) hk12 T12 i12 z11 (fun σ12 H12 z12 => ?_)
    refine blk1 (by omega) hk13 T13 i13 z12 (fun σ13 H13 z13 => ?_)
    refine blk1 (by omega) hk14 T14 i14 z13 (fun σ14 H14 z14 => ?_)
    refine blk1 (by omega) hk15 T15 i15 z14 (fun σ15 H15 z15 => ?_)
    refine blk1 (by omega) hk16 T16 i16 z15 (fun σ16 H16 z16 => ?_)
    refine blk1 (by omega) hk17 T17 i17 z16 (fun σ17 H17 z17 => ?_)
    refine blk1 (by omega) hk18 T18 i18 z17 (fun σ18 H18 z18 => ?_)
    refine blk1 (by omega) hk19 T19 i19 z18 (fun σ19 H19 z19 => ?_)
    refine blk1 (by omega) hk20 T20 i20 z19 (fun σ20 H20 z20 => ?_)
    refine blk1 (by omega) hk21 T21 i21 z20 (fun σ21 H21 z21 => ?_)
    refine blk1 (by omega) hk22 T22 i22 z21 (fun σ22 H22 z22 => ?_)
    refine blk1 (by omega) hk23 T23 i23 z22 (fun σ23 H23 z23 => ?_)
    obtain ⟨⟨xs, v3, v4, rfl, hm, hl, hx⟩, keep, bm⟩ := z23
    refine ⟨_, rfl, k m xs _ (fun b o q => keep b o (up nm q) (ne_of_none q nm)) nm hm hl fun x h => (hx x h).less fun b o q => up nm q⟩
abbrev sL_eb : Stmt := top 83
theorem sc_eb : FnScope ["one", "other", "made", "first", "second"] ["one", "other"] (defScope sL_eb) := ⟨rfl, rfl, rfl, by decide +kernel, rfl, by decide +kernel, by decide +kernel⟩
theorem ok_eb {f : Addr} {fd : FuncData} (F : FnP K "_law_errors_b" sL_eb f fd) (U : SupOk P mg) (h0 : Kn1 P K mg "BadChooser" "thing") (h1 : Kn1 P K mg "BadPlace" "place") (h2 : Kn1 P K mg "BadCosts" "index") (h3 : Kn1 P K mg "BadPlan" "plan") (h4 : Kn1 P K mg "BadDays" "days") (h5 : Kn1 P K mg "BadMost" "most") (h6 : Kn1 P K mg "BadAway" "away") (h7 : Kn1 P K mg "BadSpans" "spans") (h8 : Kn1 P K mg "BadDates" "dates") (h9 : Kn1 P K mg "BadTruth" "heard") (h10 : Kn1 P K mg "BadRounds" "rounds") (h11 : Kn1 P K mg "BadLot" "index") : FnOk P w K mg base CX0 1 f fd ["one", "other"] (spErr K 24) := by
  obtain ⟨K0, C0, hk0, T0, i0⟩ := h0
  obtain ⟨K1, C1, hk1, T1, i1⟩ := h1
  obtain ⟨K2, C2, hk2, T2, i2⟩ := h2
  obtain ⟨K3, C3, hk3, T3, i3⟩ := h3
  obtain ⟨K4, C4, hk4, T4, i4⟩ := h4
  obtain ⟨K5, C5, hk5, T5, i5⟩ := h5
  obtain ⟨K6, C6, hk6, T6, i6⟩ := h6
  obtain ⟨K7, C7, hk7, T7, i7⟩ := h7
  obtain ⟨K8, C8, hk8, T8, i8⟩ := h8
  obtain ⟨K9, C9, hk9, T9, i9⟩ := h9
  obtain ⟨K10, C10, hk10, T10, i10⟩ := h10
  obtain ⟨K11, C11, hk11, T11, i11⟩ := h11
  refine F.ok sc_eb (fun vs H Q E h => ?_) (fun cdv A outer s H vs Q E hr h => ?_)
  · obtain ⟨one, other, rfl, _⟩ := h
    rfl
  · obtain ⟨one, other, rfl, k⟩ := h
    refine ⟨_, PSs.nox (pss_cons (ps_set (i := 2) sc_eb.nd rfl (Or.inl rfl) (pe_lst pa_nil)) 
      (pss_cons (ps_par (i := 3) (j := 4) (by rfl) sc_eb.nd rfl rfl (by decide) rfl rfl (pa_cons (pe_e1 hk0 T0 U hr rfl (pa_cons (pv 0) pa_nil)) (pa_cons (pe_e1k hk0 T0 U hr rfl (pk_cons (pv 0) pk_nil)) pa_nil)) (by rfl))
      (pss_cons (ps_expr (pe_bm PySem.F.plainAttrs_list PySem.F.slot_list_extend PySem.F.type_list_extend mt_extend (pv 2) (pa_cons (pe_lst (pa_cons (pe_tup (pa_cons (pv 3) (pa_cons (pe_lst (pa_cons (pe_ef (pv 3) rfl) pa_nil)) pa_nil))) (pa_cons (pe_tup (pa_cons (pv 4) (pa_cons (pe_lst (pa_cons (pe_ef (pv 4) rfl) pa_nil)) pa_nil))) pa_nil))) pa_nil)))
      (pss_cons (ps_par (i := 3) (j := 4) (by rfl) sc_eb.nd rfl rfl (by decide) rfl rfl (pa_cons (pe_e1 hk1 T1 U hr rfl (pa_cons (pv 0) pa_nil)) (pa_cons (pe_e1k hk1 T1 U hr rfl (pk_cons (pv 0) pk_nil)) pa_nil)) (by rfl))
      (pss_cons (ps_expr (pe_bm PySem.F.plainAttrs_list PySem.F.slot_list_extend PySem.F.type_list_extend mt_extend (pv 2) (pa_cons (pe_lst (pa_cons (pe_tup (pa_cons (pv 3) (pa_cons (pe_lst (pa_cons (pe_ef (pv 3) rfl) pa_nil)) pa_nil))) (pa_cons (pe_tup (pa_cons (pv 4) (pa_cons (pe_lst (pa_cons (pe_ef (pv 4) rfl) pa_nil)) pa_nil))) pa_nil))) pa_nil)))
      (pss_cons (ps_par (i := 3) (j := 4) (by rfl) sc_eb.nd rfl rfl (by decide) rfl rfl (pa_cons (pe_e1 hk2 T2 U hr rfl (pa_cons (pv 0) pa_nil)) (pa_cons (pe_e1k hk2 T2 U hr rfl (pk_cons (pv 0) pk_nil)) pa_nil)) (by rfl))
      (pss_cons (ps_expr (pe_bm PySem.F.plainAttrs_list PySem.F.slot_list_extend PySem.F.type_list_extend mt_extend (pv 2) (pa_cons (pe_lst (pa_cons (pe_tup (pa_cons (pv 3) (pa_cons (pe_lst (pa_cons (pe_ef (pv 3) rfl) pa_nil)) pa_nil))) (pa_cons (pe_tup (pa_cons (pv 4) (pa_cons (pe_lst (pa_cons (pe_ef (pv 4) rfl) pa_nil)) pa_nil))) pa_nil))) pa_nil)))
      (pss_cons (ps_par (i := 3) (j := 4) (by rfl) sc_eb.nd rfl rfl (by decide) rfl rfl (pa_cons (pe_e1 hk3 T3 U hr rfl (pa_cons (pv 0) pa_nil)) (pa_cons (pe_e1k hk3 T3 U hr rfl (pk_cons (pv 0) pk_nil)) pa_nil)) (by rfl))
      (pss_cons (ps_expr (pe_bm PySem.F.plainAttrs_list PySem.F.slot_list_extend PySem.F.type_list_extend mt_extend (pv 2) (pa_cons (pe_lst (pa_cons (pe_tup (pa_cons (pv 3) (pa_cons (pe_lst (pa_cons (pe_ef (pv 3) rfl) pa_nil)) pa_nil))) (pa_cons (pe_tup (pa_cons (pv 4) (pa_cons (pe_lst (pa_cons (pe_ef (pv 4) rfl) pa_nil)) pa_nil))) pa_nil))) pa_nil)))
      (pss_cons (ps_par (i := 3) (j := 4) (by rfl) sc_eb.nd rfl rfl (by decide) rfl rfl (pa_cons (pe_e1 hk4 T4 U hr rfl (pa_cons (pv 0) pa_nil)) (pa_cons (pe_e1k hk4 T4 U hr rfl (pk_cons (pv 0) pk_nil)) pa_nil)) (by rfl))
      (pss_cons (ps_expr (pe_bm PySem.F.plainAttrs_list PySem.F.slot_list_extend PySem.F.type_list_extend mt_extend (pv 2) (pa_cons (pe_lst (pa_cons (pe_tup (pa_cons (pv 3) (pa_cons (pe_lst (pa_cons (pe_ef (pv 3) rfl) pa_nil)) pa_nil))) (pa_cons (pe_tup (pa_cons (pv 4) (pa_cons (pe_lst (pa_cons (pe_ef (pv 4) rfl) pa_nil)) pa_nil))) pa_nil))) pa_nil)))
      (pss_cons (ps_par (i := 3) (j := 4) (by rfl) sc_eb.nd rfl rfl (by decide) rfl rfl (pa_cons (pe_e1 hk5 T5 U hr rfl (pa_cons (pv 0) pa_nil)) (pa_cons (pe_e1k hk5 T5 U hr rfl (pk_cons (pv 0) pk_nil)) pa_nil)) (by rfl))
      (pss_cons (ps_expr (pe_bm PySem.F.plainAttrs_list PySem.F.slot_list_extend PySem.F.type_list_extend mt_extend (pv 2) (pa_cons (pe_lst (pa_cons (pe_tup (pa_cons (pv 3) (pa_cons (pe_lst (pa_cons (pe_ef (pv 3) rfl) pa_nil)) pa_nil))) (pa_cons (pe_tup (pa_cons (pv 4) (pa_cons (pe_lst (pa_cons (pe_ef (pv 4) rfl) pa_nil)) pa_nil))) pa_nil))) pa_nil)))
      (pss_cons (ps_par (i := 3) (j := 4) (by rfl) sc_eb.nd rfl rfl (by decide) rfl rfl (pa_cons (pe_e1 hk6 T6 U hr rfl (pa_cons (pv 0) pa_nil)) (pa_cons (pe_e1k hk6 T6 U hr rfl (pk_cons (pv 0) pk_nil)) pa_nil)) (by rfl))
      (pss_cons (ps_expr (pe_bm PySem.F.plainAttrs_list PySem.F.slot_list_extend PySem.F.type_list_extend mt_extend (pv 2) (pa_cons (pe_lst (pa_cons (pe_tup (pa_cons (pv 3) (pa_cons (pe_lst (pa_cons (pe_ef (pv 3) rfl) pa_nil)) pa_nil))) (pa_cons (pe_tup (pa_cons (pv 4) (pa_cons (pe_lst (pa_cons (pe_ef (pv 4) rfl) pa_nil)) pa_nil))) pa_nil))) pa_nil)))
      (pss_cons (ps_par (i := 3) (j := 4) (by rfl) sc_eb.nd rfl rfl (by decide) rfl rfl (pa_cons (pe_e1 hk7 T7 U hr rfl (pa_cons (pv 0) pa_nil)) (pa_cons (pe_e1k hk7 T7 U hr rfl (pk_cons (pv 0) pk_nil)) pa_nil)) (by rfl))
      (pss_cons (ps_expr (pe_bm PySem.F.plainAttrs_list PySem.F.slot_list_extend PySem.F.type_list_extend mt_extend (pv 2) (pa_cons (pe_lst (pa_cons (pe_tup (pa_cons (pv 3) (pa_cons (pe_lst (pa_cons (pe_ef (pv 3) rfl) pa_nil)) pa_nil))) (pa_cons (pe_tup (pa_cons (pv 4) (pa_cons (pe_lst (pa_cons (pe_ef (pv 4) rfl) pa_nil)) pa_nil))) pa_nil))) pa_nil)))
      (pss_cons (ps_par (i := 3) (j := 4) (by rfl) sc_eb.nd rfl rfl (by decide) rfl rfl (pa_cons (pe_e1 hk8 T8 U hr rfl (pa_cons (pv 0) pa_nil)) (pa_cons (pe_e1k hk8 T8 U hr rfl (pk_cons (pv 0) pk_nil)) pa_nil)) (by rfl))
      (pss_cons (ps_expr (pe_bm PySem.F.plainAttrs_list PySem.F.slot_list_extend PySem.F.type_list_extend mt_extend (pv 2) (pa_cons (pe_lst (pa_cons (pe_tup (pa_cons (pv 3) (pa_cons (pe_lst (pa_cons (pe_ef (pv 3) rfl) pa_nil)) pa_nil))) (pa_cons (pe_tup (pa_cons (pv 4) (pa_cons (pe_lst (pa_cons (pe_ef (pv 4) rfl) pa_nil)) pa_nil))) pa_nil))) pa_nil)))
      (pss_cons (ps_par (i := 3) (j := 4) (by rfl) sc_eb.nd rfl rfl (by decide) rfl rfl (pa_cons (pe_e1 hk9 T9 U hr rfl (pa_cons (pv 0) pa_nil)) (pa_cons (pe_e1k hk9 T9 U hr rfl (pk_cons (pv 0) pk_nil)) pa_nil)) (by rfl))
      (pss_cons (ps_expr (pe_bm PySem.F.plainAttrs_list PySem.F.slot_list_extend PySem.F.type_list_extend mt_extend (pv 2) (pa_cons (pe_lst (pa_cons (pe_tup (pa_cons (pv 3) (pa_cons (pe_lst (pa_cons (pe_ef (pv 3) rfl) pa_nil)) pa_nil))) (pa_cons (pe_tup (pa_cons (pv 4) (pa_cons (pe_lst (pa_cons (pe_ef (pv 4) rfl) pa_nil)) pa_nil))) pa_nil))) pa_nil)))
      (pss_cons (ps_par (i := 3) (j := 4) (by rfl) sc_eb.nd rfl rfl (by decide) rfl rfl (pa_cons (pe_e1 hk10 T10 U hr rfl (pa_cons (pv 0) pa_nil)) (pa_cons (pe_e1k hk10 T10 U hr rfl (pk_cons (pv 0) pk_nil)) pa_nil)) (by rfl))
      (pss_cons (ps_expr (pe_bm PySem.F.plainAttrs_list PySem.F.slot_list_extend PySem.F.type_list_extend mt_extend (pv 2) (pa_cons (pe_lst (pa_cons (pe_tup (pa_cons (pv 3) (pa_cons (pe_lst (pa_cons (pe_ef (pv 3) rfl) pa_nil)) pa_nil))) (pa_cons (pe_tup (pa_cons (pv 4) (pa_cons (pe_lst (pa_cons (pe_ef (pv 4) rfl) pa_nil)) pa_nil))) pa_nil))) pa_nil)))
      (pss_cons (ps_par (i := 3) (j := 4) (by rfl) sc_eb.nd rfl rfl (by decide) rfl rfl (pa_cons (pe_e1 hk11 T11 U hr rfl (pa_cons (pv 0) pa_nil)) (pa_cons (pe_e1k hk11 T11 U hr rfl (pk_cons (pv 0) pk_nil)) pa_nil)) (by rfl))
      (pss_cons (ps_expr (pe_bm PySem.F.plainAttrs_list PySem.F.slot_list_extend PySem.F.type_list_extend mt_extend (pv 2) (pa_cons (pe_lst (pa_cons (pe_tup (pa_cons (pv 3) (pa_cons (pe_lst (pa_cons (pe_ef (pv 3) rfl) pa_nil)) pa_nil))) (pa_cons (pe_tup (pa_cons (pv 4) (pa_cons (pe_lst (pa_cons (pe_ef (pv 4) rfl) pa_nil)) pa_nil))) pa_nil))) pa_nil)))
      (pss_one (ps_ret (pv 2)))))))))))))))))))))))))))), ?_⟩
    refine ⟨le0, fun m nm => ?_⟩
    have z : BI K (upd H m (.lst [])) one other m 0 [some one, some other, some (.ref m), none, none] (upd H m (.lst [])) := ⟨⟨[], none, none, rfl, upd_same, rfl, fun x hx => (nomatch hx)⟩, fun b o q _ => q, upd_same⟩
    refine blk1 (by omega) hk0 T0 i0 z (fun σ0 H0 z0 => ?_)
    refine blk1 (by omega) hk1 T1 i1 z0 (fun σ1 H1 z1 => ?_)
    refine blk1 (by omega) hk2 T2 i2 z1 (fun σ2 H2 z2 => ?_)
    refine blk1 (by omega) hk3 T3 i3 z2 (fun σ3 H3 z3 => ?_)
    refine blk1 (by omega) hk4 T4 i4 z3 (fun σ4 H4 z4 => ?_)
    refine blk1 (by omega) hk5 T5 i5 z4 (fun σ5 H5 z5 => ?_)
    refine blk1 (by omega) hk6 T6 i6 z5 (fun σ6 H6 z6 => ?_)
    refine blk1 (by omega) hk7 T7 i7 z6 (fun σ7 H7 z7 => ?_)
    refine blk1 (by omega) hk8 T8 i8 z7 (fun σ8 H8 z8 => ?_)
    refine blk1 (by omega) hk9 T9 i9 z8 (fun σ9 H9 z9 => ?_)
    refine blk1 (by omega) hk10 T10 i10 z9 (fun σ10 H10 z10 => ?_)
    refine blk1 (by omega) hk11 T11 i11 z10 (fun σ11 H11 z11 => ?_)
    obtain ⟨⟨xs, v3, v4, rfl, hm, hl, hx⟩, keep, bm⟩ := z11
    refine ⟨_, rfl, k m xs _ (fun b o q => keep b o (up nm q) (ne_of_none q nm)) nm hm hl fun x h => (hx x h).less fun b o q => up nm q⟩
abbrev sL_ra : Stmt := top 84
theorem sc_ra : FnScope ["one", "other", "made", "first", "second"] ["one", "other"] (defScope sL_ra) := ⟨rfl, rfl, rfl, by decide +kernel, rfl, by decide +kernel, by decide +kernel⟩
theorem ok_ra {f : Addr} {fd : FuncData} (F : FnP K "_law_refusals_a" sL_ra f fd) (U : SupOk P mg) (h0 : Kn1 P K mg "BadWeek" "week") (h1 : Kn1 P K mg "BadTimetable" "timetable") (h2 : Kn1 P K mg "BadDay" "day") (h3 : Kn1 P K mg "BadMissed" "index") (h4 : Kn1 P K mg "BadGaps" "gaps") (h5 : Kn1 P K mg "BadSayings" "index") (h6 : Kn1 P K mg "NotOneListener" "index") (h7 : Kn1 P K mg "BadView" "view") (h8 : Kn1 P K mg "BadSeam" "seam") (h9 : Kn1 P K mg "BadMeetings" "index") (h10 : Kn1 P K mg "BadKept" "index") (h11 : Kn1 P K mg "BadBy" "by") (h12 : Kn1 P K mg "BadKnown" "index") (h13 : Kn1 P K mg "BadMemory" "memory") (h14 : Kn1 P K mg "BadWishes" "index") (h15 : Kn1 P K mg "BadPorch" "porch") (h16 : Kn1 P K mg "CommonPerson" "name") (h17 : Kn1 P K mg "BadName" "name") (h18 : Kn1 P K mg "BadNumbers" "numbers") (h19 : Kn1 P K mg "BadSeating" "index") (h20 : Kn1 P K mg "NotHeard" "index") (h21 : Kn1 P K mg "BadCaller" "thing") (h22 : Kn1 P K mg "BadTelling" "thing") (h23 : Kn1 P K mg "BadWish" "thing") : FnOk P w K mg base CX0 1 f fd ["one", "other"] (spErr K 48) := by
  obtain ⟨K0, C0, hk0, T0, i0⟩ := h0
  obtain ⟨K1, C1, hk1, T1, i1⟩ := h1
  obtain ⟨K2, C2, hk2, T2, i2⟩ := h2
  obtain ⟨K3, C3, hk3, T3, i3⟩ := h3
  obtain ⟨K4, C4, hk4, T4, i4⟩ := h4
  obtain ⟨K5, C5, hk5, T5, i5⟩ := h5
  obtain ⟨K6, C6, hk6, T6, i6⟩ := h6
  obtain ⟨K7, C7, hk7, T7, i7⟩ := h7
  obtain ⟨K8, C8, hk8, T8, i8⟩ := h8
  obtain ⟨K9, C9, hk9, T9, i9⟩ := h9
  obtain ⟨K10, C10, hk10, T10, i10⟩ := h10
  obtain ⟨K11, C11, hk11, T11, i11⟩ := h11
  obtain ⟨K12, C12, hk12, T12, i12⟩ := h12
  obtain ⟨K13, C13, hk13, T13, i13⟩ := h13
  obtain ⟨K14, C14, hk14, T14, i14⟩ := h14
  obtain ⟨K15, C15, hk15, T15, i15⟩ := h15
  obtain ⟨K16, C16, hk16, T16, i16⟩ := h16
  obtain ⟨K17, C17, hk17, T17, i17⟩ := h17
  obtain ⟨K18, C18, hk18, T18, i18⟩ := h18
  obtain ⟨K19, C19, hk19, T19, i19⟩ := h19
  obtain ⟨K20, C20, hk20, T20, i20⟩ := h20
  obtain ⟨K21, C21, hk21, T21, i21⟩ := h21
  obtain ⟨K22, C22, hk22, T22, i22⟩ := h22
  obtain ⟨K23, C23, hk23, T23, i23⟩ := h23
  refine F.ok sc_ra (fun vs H Q E h => ?_) (fun cdv A outer s H vs Q E hr h => ?_)
  · obtain ⟨one, other, rfl, _⟩ := h
    rfl
  · obtain ⟨one, other, rfl, k⟩ := h
    refine ⟨_, PSs.nox (pss_cons (ps_set (i := 2) sc_ra.nd rfl (Or.inl rfl) (pe_lst pa_nil)) 
      (pss_cons (ps_par (i := 3) (j := 4) (by rfl) sc_ra.nd rfl rfl (by decide) rfl rfl (pa_cons (pe_e1 hk0 T0 U hr rfl (pa_cons (pv 0) pa_nil)) (pa_cons (pe_e1k hk0 T0 U hr rfl (pk_cons (pv 0) pk_nil)) pa_nil)) (by rfl))
      (pss_cons (ps_expr (pe_bm PySem.F.plainAttrs_list PySem.F.slot_list_extend PySem.F.type_list_extend mt_extend (pv 2) (pa_cons (pe_lst (pa_cons (pe_tup (pa_cons (pv 3) (pa_cons (pe_lst (pa_cons (pe_ef (pv 3) rfl) pa_nil)) pa_nil))) (pa_cons (pe_tup (pa_cons (pv 4) (pa_cons (pe_lst (pa_cons (pe_ef (pv 4) rfl) pa_nil)) pa_nil))) pa_nil))) pa_nil)))
      (pss_cons (ps_par (i := 3) (j := 4) (by rfl) sc_ra.nd rfl rfl (by decide) rfl rfl (pa_cons (pe_e1 hk1 T1 U hr rfl (pa_cons (pv 0) pa_nil)) (pa_cons (pe_e1k hk1 T1 U hr rfl (pk_cons (pv 0) pk_nil)) pa_nil)) (by rfl))
      (pss_cons (ps_expr (pe_bm PySem.F.plainAttrs_list PySem.F.slot_list_extend PySem.F.type_list_extend mt_extend (pv 2) (pa_cons (pe_lst (pa_cons (pe_tup (pa_cons (pv 3) (pa_cons (pe_lst (pa_cons (pe_ef (pv 3) rfl) pa_nil)) pa_nil))) (pa_cons (pe_tup (pa_cons (pv 4) (pa_cons (pe_lst (pa_cons (pe_ef (pv 4) rfl) pa_nil)) pa_nil))) pa_nil))) pa_nil)))
      (pss_cons (ps_par (i := 3) (j := 4) (by rfl) sc_ra.nd rfl rfl (by decide) rfl rfl (pa_cons (pe_e1 hk2 T2 U hr rfl (pa_cons (pv 0) pa_nil)) (pa_cons (pe_e1k hk2 T2 U hr rfl (pk_cons (pv 0) pk_nil)) pa_nil)) (by rfl))
      (pss_cons (ps_expr (pe_bm PySem.F.plainAttrs_list PySem.F.slot_list_extend PySem.F.type_list_extend mt_extend (pv 2) (pa_cons (pe_lst (pa_cons (pe_tup (pa_cons (pv 3) (pa_cons (pe_lst (pa_cons (pe_ef (pv 3) rfl) pa_nil)) pa_nil))) (pa_cons (pe_tup (pa_cons (pv 4) (pa_cons (pe_lst (pa_cons (pe_ef (pv 4) rfl) pa_nil)) pa_nil))) pa_nil))) pa_nil)))
      (pss_cons (ps_par (i := 3) (j := 4) (by rfl) sc_ra.nd rfl rfl (by decide) rfl rfl (pa_cons (pe_e1 hk3 T3 U hr rfl (pa_cons (pv 0) pa_nil)) (pa_cons (pe_e1k hk3 T3 U hr rfl (pk_cons (pv 0) pk_nil)) pa_nil)) (by rfl))
      (pss_cons (ps_expr (pe_bm PySem.F.plainAttrs_list PySem.F.slot_list_extend PySem.F.type_list_extend mt_extend (pv 2) (pa_cons (pe_lst (pa_cons (pe_tup (pa_cons (pv 3) (pa_cons (pe_lst (pa_cons (pe_ef (pv 3) rfl) pa_nil)) pa_nil))) (pa_cons (pe_tup (pa_cons (pv 4) (pa_cons (pe_lst (pa_cons (pe_ef (pv 4) rfl) pa_nil)) pa_nil))) pa_nil))) pa_nil)))
      (pss_cons (ps_par (i := 3) (j := 4) (by rfl) sc_ra.nd rfl rfl (by decide) rfl rfl (pa_cons (pe_e1 hk4 T4 U hr rfl (pa_cons (pv 0) pa_nil)) (pa_cons (pe_e1k hk4 T4 U hr rfl (pk_cons (pv 0) pk_nil)) pa_nil)) (by rfl))
      (pss_cons (ps_expr (pe_bm PySem.F.plainAttrs_list PySem.F.slot_list_extend PySem.F.type_list_extend mt_extend (pv 2) (pa_cons (pe_lst (pa_cons (pe_tup (pa_cons (pv 3) (pa_cons (pe_lst (pa_cons (pe_ef (pv 3) rfl) pa_nil)) pa_nil))) (pa_cons (pe_tup (pa_cons (pv 4) (pa_cons (pe_lst (pa_cons (pe_ef (pv 4) rfl) pa_nil)) pa_nil))) pa_nil))) pa_nil)))
      (pss_cons (ps_par (i := 3) (j := 4) (by rfl) sc_ra.nd rfl rfl (by decide) rfl rfl (pa_cons (pe_e1 hk5 T5 U hr rfl (pa_cons (pv 0) pa_nil)) (pa_cons (pe_e1k hk5 T5 U hr rfl (pk_cons (pv 0) pk_nil)) pa_nil)) (by rfl))
      (pss_cons (ps_expr (pe_bm PySem.F.plainAttrs_list PySem.F.slot_list_extend PySem.F.type_list_extend mt_extend (pv 2) (pa_cons (pe_lst (pa_cons (pe_tup (pa_cons (pv 3) (pa_cons (pe_lst (pa_cons (pe_ef (pv 3) rfl) pa_nil)) pa_nil))) (pa_cons (pe_tup (pa_cons (pv 4) (pa_cons (pe_lst (pa_cons (pe_ef (pv 4) rfl) pa_nil)) pa_nil))) pa_nil))) pa_nil)))
      (pss_cons (ps_par (i := 3) (j := 4) (by rfl) sc_ra.nd rfl rfl (by decide) rfl rfl (pa_cons (pe_e1 hk6 T6 U hr rfl (pa_cons (pv 0) pa_nil)) (pa_cons (pe_e1k hk6 T6 U hr rfl (pk_cons (pv 0) pk_nil)) pa_nil)) (by rfl))
      (pss_cons (ps_expr (pe_bm PySem.F.plainAttrs_list PySem.F.slot_list_extend PySem.F.type_list_extend mt_extend (pv 2) (pa_cons (pe_lst (pa_cons (pe_tup (pa_cons (pv 3) (pa_cons (pe_lst (pa_cons (pe_ef (pv 3) rfl) pa_nil)) pa_nil))) (pa_cons (pe_tup (pa_cons (pv 4) (pa_cons (pe_lst (pa_cons (pe_ef (pv 4) rfl) pa_nil)) pa_nil))) pa_nil))) pa_nil)))
      (pss_cons (ps_par (i := 3) (j := 4) (by rfl) sc_ra.nd rfl rfl (by decide) rfl rfl (pa_cons (pe_e1 hk7 T7 U hr rfl (pa_cons (pv 0) pa_nil)) (pa_cons (pe_e1k hk7 T7 U hr rfl (pk_cons (pv 0) pk_nil)) pa_nil)) (by rfl))
      (pss_cons (ps_expr (pe_bm PySem.F.plainAttrs_list PySem.F.slot_list_extend PySem.F.type_list_extend mt_extend (pv 2) (pa_cons (pe_lst (pa_cons (pe_tup (pa_cons (pv 3) (pa_cons (pe_lst (pa_cons (pe_ef (pv 3) rfl) pa_nil)) pa_nil))) (pa_cons (pe_tup (pa_cons (pv 4) (pa_cons (pe_lst (pa_cons (pe_ef (pv 4) rfl) pa_nil)) pa_nil))) pa_nil))) pa_nil)))
      (pss_cons (ps_par (i := 3) (j := 4) (by rfl) sc_ra.nd rfl rfl (by decide) rfl rfl (pa_cons (pe_e1 hk8 T8 U hr rfl (pa_cons (pv 0) pa_nil)) (pa_cons (pe_e1k hk8 T8 U hr rfl (pk_cons (pv 0) pk_nil)) pa_nil)) (by rfl))
      (pss_cons (ps_expr (pe_bm PySem.F.plainAttrs_list PySem.F.slot_list_extend PySem.F.type_list_extend mt_extend (pv 2) (pa_cons (pe_lst (pa_cons (pe_tup (pa_cons (pv 3) (pa_cons (pe_lst (pa_cons (pe_ef (pv 3) rfl) pa_nil)) pa_nil))) (pa_cons (pe_tup (pa_cons (pv 4) (pa_cons (pe_lst (pa_cons (pe_ef (pv 4) rfl) pa_nil)) pa_nil))) pa_nil))) pa_nil)))
      (pss_cons (ps_par (i := 3) (j := 4) (by rfl) sc_ra.nd rfl rfl (by decide) rfl rfl (pa_cons (pe_e1 hk9 T9 U hr rfl (pa_cons (pv 0) pa_nil)) (pa_cons (pe_e1k hk9 T9 U hr rfl (pk_cons (pv 0) pk_nil)) pa_nil)) (by rfl))
      (pss_cons (ps_expr (pe_bm PySem.F.plainAttrs_list PySem.F.slot_list_extend PySem.F.type_list_extend mt_extend (pv 2) (pa_cons (pe_lst (pa_cons (pe_tup (pa_cons (pv 3) (pa_cons (pe_lst (pa_cons (pe_ef (pv 3) rfl) pa_nil)) pa_nil))) (pa_cons (pe_tup (pa_cons (pv 4) (pa_cons (pe_lst (pa_cons (pe_ef (pv 4) rfl) pa_nil)) pa_nil))) pa_nil))) pa_nil)))
      (pss_cons (ps_par (i := 3) (j := 4) (by rfl) sc_ra.nd rfl rfl (by decide) rfl rfl (pa_cons (pe_e1 hk10 T10 U hr rfl (pa_cons (pv 0) pa_nil)) (pa_cons (pe_e1k hk10 T10 U hr rfl (pk_cons (pv 0) pk_nil)) pa_nil)) (by rfl))
      (pss_cons (ps_expr (pe_bm PySem.F.plainAttrs_list PySem.F.slot_list_extend PySem.F.type_list_extend mt_extend (pv 2) (pa_cons (pe_lst (pa_cons (pe_tup (pa_cons (pv 3) (pa_cons (pe_lst (pa_cons (pe_ef (pv 3) rfl) pa_nil)) pa_nil))) (pa_cons (pe_tup (pa_cons (pv 4) (pa_cons (pe_lst (pa_cons (pe_ef (pv 4) rfl) pa_nil)) pa_nil))) pa_nil))) pa_nil)))
      (pss_cons (ps_par (i := 3) (j := 4) (by rfl) sc_ra.nd rfl rfl (by decide) rfl rfl (pa_cons (pe_e1 hk11 T11 U hr rfl (pa_cons (pv 0) pa_nil)) (pa_cons (pe_e1k hk11 T11 U hr rfl (pk_cons (pv 0) pk_nil)) pa_nil)) (by rfl))
      (pss_cons (ps_expr (pe_bm PySem.F.plainAttrs_list PySem.F.slot_list_extend PySem.F.type_list_extend mt_extend (pv 2) (pa_cons (pe_lst (pa_cons (pe_tup (pa_cons (pv 3) (pa_cons (pe_lst (pa_cons (pe_ef (pv 3) rfl) pa_nil)) pa_nil))) (pa_cons (pe_tup (pa_cons (pv 4) (pa_cons (pe_lst (pa_cons (pe_ef (pv 4) rfl) pa_nil)) pa_nil))) pa_nil))) pa_nil)))
      (pss_cons (ps_par (i := 3) (j := 4) (by rfl) sc_ra.nd rfl rfl (by decide) rfl rfl (pa_cons (pe_e1 hk12 T12 U hr rfl (pa_cons (pv 0) pa_nil)) (pa_cons (pe_e1k hk12 T12 U hr rfl (pk_cons (pv 0) pk_nil)) pa_nil)) (by rfl))
      (pss_cons (ps_expr (pe_bm PySem.F.plainAttrs_list PySem.F.slot_list_extend PySem.F.type_list_extend mt_extend (pv 2) (pa_cons (pe_lst (pa_cons (pe_tup (pa_cons (pv 3) (pa_cons (pe_lst (pa_cons (pe_ef (pv 3) rfl) pa_nil)) pa_nil))) (pa_cons (pe_tup (pa_cons (pv 4) (pa_cons (pe_lst (pa_cons (pe_ef (pv 4) rfl) pa_nil)) pa_nil))) pa_nil))) pa_nil)))
      (pss_cons (ps_par (i := 3) (j := 4) (by rfl) sc_ra.nd rfl rfl (by decide) rfl rfl (pa_cons (pe_e1 hk13 T13 U hr rfl (pa_cons (pv 0) pa_nil)) (pa_cons (pe_e1k hk13 T13 U hr rfl (pk_cons (pv 0) pk_nil)) pa_nil)) (by rfl))
      (pss_cons (ps_expr (pe_bm PySem.F.plainAttrs_list PySem.F.slot_list_extend PySem.F.type_list_extend mt_extend (pv 2) (pa_cons (pe_lst (pa_cons (pe_tup (pa_cons (pv 3) (pa_cons (pe_lst (pa_cons (pe_ef (pv 3) rfl) pa_nil)) pa_nil))) (pa_cons (pe_tup (pa_cons (pv 4) (pa_cons (pe_lst (pa_cons (pe_ef (pv 4) rfl) pa_nil)) pa_nil))) pa_nil))) pa_nil)))
      (pss_cons (ps_par (i := 3) (j := 4) (by rfl) sc_ra.nd rfl rfl (by decide) rfl rfl (pa_cons (pe_e1 hk14 T14 U hr rfl (pa_cons (pv 0) pa_nil)) (pa_cons (pe_e1k hk14 T14 U hr rfl (pk_cons (pv 0) pk_nil)) pa_nil)) (by rfl))
      (pss_cons (ps_expr (pe_bm PySem.F.plainAttrs_list PySem.F.slot_list_extend PySem.F.type_list_extend mt_extend (pv 2) (pa_cons (pe_lst (pa_cons (pe_tup (pa_cons (pv 3) (pa_cons (pe_lst (pa_cons (pe_ef (pv 3) rfl) pa_nil)) pa_nil))) (pa_cons (pe_tup (pa_cons (pv 4) (pa_cons (pe_lst (pa_cons (pe_ef (pv 4) rfl) pa_nil)) pa_nil))) pa_nil))) pa_nil)))
      (pss_cons (ps_par (i := 3) (j := 4) (by rfl) sc_ra.nd rfl rfl (by decide) rfl rfl (pa_cons (pe_e1 hk15 T15 U hr rfl (pa_cons (pv 0) pa_nil)) (pa_cons (pe_e1k hk15 T15 U hr rfl (pk_cons (pv 0) pk_nil)) pa_nil)) (by rfl))
      (pss_cons (ps_expr (pe_bm PySem.F.plainAttrs_list PySem.F.slot_list_extend PySem.F.type_list_extend mt_extend (pv 2) (pa_cons (pe_lst (pa_cons (pe_tup (pa_cons (pv 3) (pa_cons (pe_lst (pa_cons (pe_ef (pv 3) rfl) pa_nil)) pa_nil))) (pa_cons (pe_tup (pa_cons (pv 4) (pa_cons (pe_lst (pa_cons (pe_ef (pv 4) rfl) pa_nil)) pa_nil))) pa_nil))) pa_nil)))
      (pss_cons (ps_par (i := 3) (j := 4) (by rfl) sc_ra.nd rfl rfl (by decide) rfl rfl (pa_cons (pe_e1 hk16 T16 U hr rfl (pa_cons (pv 0) pa_nil)) (pa_cons (pe_e1k hk16 T16 U hr rfl (pk_cons (pv 0) pk_nil)) pa_nil)) (by rfl))
      (pss_cons (ps_expr (pe_bm PySem.F.plainAttrs_list PySem.F.slot_list_extend PySem.F.type_list_extend mt_extend (pv 2) (pa_cons (pe_lst (pa_cons (pe_tup (pa_cons (pv 3) (pa_cons (pe_lst (pa_cons (pe_ef (pv 3) rfl) pa_nil)) pa_nil))) (pa_cons (pe_tup (pa_cons (pv 4) (pa_cons (pe_lst (pa_cons (pe_ef (pv 4) rfl) pa_nil)) pa_nil))) pa_nil))) pa_nil)))
      (pss_cons (ps_par (i := 3) (j := 4) (by rfl) sc_ra.nd rfl rfl (by decide) rfl rfl (pa_cons (pe_e1 hk17 T17 U hr rfl (pa_cons (pv 0) pa_nil)) (pa_cons (pe_e1k hk17 T17 U hr rfl (pk_cons (pv 0) pk_nil)) pa_nil)) (by rfl))
      (pss_cons (ps_expr (pe_bm PySem.F.plainAttrs_list PySem.F.slot_list_extend PySem.F.type_list_extend mt_extend (pv 2) (pa_cons (pe_lst (pa_cons (pe_tup (pa_cons (pv 3) (pa_cons (pe_lst (pa_cons (pe_ef (pv 3) rfl) pa_nil)) pa_nil))) (pa_cons (pe_tup (pa_cons (pv 4) (pa_cons (pe_lst (pa_cons (pe_ef (pv 4) rfl) pa_nil)) pa_nil))) pa_nil))) pa_nil)))
      (pss_cons (ps_par (i := 3) (j := 4) (by rfl) sc_ra.nd rfl rfl (by decide) rfl rfl (pa_cons (pe_e1 hk18 T18 U hr rfl (pa_cons (pv 0) pa_nil)) (pa_cons (pe_e1k hk18 T18 U hr rfl (pk_cons (pv 0) pk_nil)) pa_nil)) (by rfl))
      (pss_cons (ps_expr (pe_bm PySem.F.plainAttrs_list PySem.F.slot_list_extend PySem.F.type_list_extend mt_extend (pv 2) (pa_cons (pe_lst (pa_cons (pe_tup (pa_cons (pv 3) (pa_cons (pe_lst (pa_cons (pe_ef (pv 3) rfl) pa_nil)) pa_nil))) (pa_cons (pe_tup (pa_cons (pv 4) (pa_cons (pe_lst (pa_cons (pe_ef (pv 4) rfl) pa_nil)) pa_nil))) pa_nil))) pa_nil)))
      (pss_cons (ps_par (i := 3) (j := 4) (by rfl) sc_ra.nd rfl rfl (by decide) rfl rfl (pa_cons (pe_e1 hk19 T19 U hr rfl (pa_cons (pv 0) pa_nil)) (pa_cons (pe_e1k hk19 T19 U hr rfl (pk_cons (pv 0) pk_nil)) pa_nil)) (by rfl))
      (pss_cons (ps_expr (pe_bm PySem.F.plainAttrs_list PySem.F.slot_list_extend PySem.F.type_list_extend mt_extend (pv 2) (pa_cons (pe_lst (pa_cons (pe_tup (pa_cons (pv 3) (pa_cons (pe_lst (pa_cons (pe_ef (pv 3) rfl) pa_nil)) pa_nil))) (pa_cons (pe_tup (pa_cons (pv 4) (pa_cons (pe_lst (pa_cons (pe_ef (pv 4) rfl) pa_nil)) pa_nil))) pa_nil))) pa_nil)))
      (pss_cons (ps_par (i := 3) (j := 4) (by rfl) sc_ra.nd rfl rfl (by decide) rfl rfl (pa_cons (pe_e1 hk20 T20 U hr rfl (pa_cons (pv 0) pa_nil)) (pa_cons (pe_e1k hk20 T20 U hr rfl (pk_cons (pv 0) pk_nil)) pa_nil)) (by rfl))
      (pss_cons (ps_expr (pe_bm PySem.F.plainAttrs_list PySem.F.slot_list_extend PySem.F.type_list_extend mt_extend (pv 2) (pa_cons (pe_lst (pa_cons (pe_tup (pa_cons (pv 3) (pa_cons (pe_lst (pa_cons (pe_ef (pv 3) rfl) pa_nil)) pa_nil))) (pa_cons (pe_tup (pa_cons (pv 4) (pa_cons (pe_lst (pa_cons (pe_ef (pv 4) rfl) pa_nil)) pa_nil))) pa_nil))) pa_nil)))
      (pss_cons (ps_par (i := 3) (j := 4) (by rfl) sc_ra.nd rfl rfl (by decide) rfl rfl (pa_cons (pe_e1 hk21 T21 U hr rfl (pa_cons (pv 0) pa_nil)) (pa_cons (pe_e1k hk21 T21 U hr rfl (pk_cons (pv 0) pk_nil)) pa_nil)) (by rfl))
      (pss_cons (ps_expr (pe_bm PySem.F.plainAttrs_list PySem.F.slot_list_extend PySem.F.type_list_extend mt_extend (pv 2) (pa_cons (pe_lst (pa_cons (pe_tup (pa_cons (pv 3) (pa_cons (pe_lst (pa_cons (pe_ef (pv 3) rfl) pa_nil)) pa_nil))) (pa_cons (pe_tup (pa_cons (pv 4) (pa_cons (pe_lst (pa_cons (pe_ef (pv 4) rfl) pa_nil)) pa_nil))) pa_nil))) pa_nil)))
      (pss_cons (ps_par (i := 3) (j := 4) (by rfl) sc_ra.nd rfl rfl (by decide) rfl rfl (pa_cons (pe_e1 hk22 T22 U hr rfl (pa_cons (pv 0) pa_nil)) (pa_cons (pe_e1k hk22 T22 U hr rfl (pk_cons (pv 0) pk_nil)) pa_nil)) (by rfl))
      (pss_cons (ps_expr (pe_bm PySem.F.plainAttrs_list PySem.F.slot_list_extend PySem.F.type_list_extend mt_extend (pv 2) (pa_cons (pe_lst (pa_cons (pe_tup (pa_cons (pv 3) (pa_cons (pe_lst (pa_cons (pe_ef (pv 3) rfl) pa_nil)) pa_nil))) (pa_cons (pe_tup (pa_cons (pv 4) (pa_cons (pe_lst (pa_cons (pe_ef (pv 4) rfl) pa_nil)) pa_nil))) pa_nil))) pa_nil)))
      (pss_cons (ps_par (i := 3) (j := 4) (by rfl) sc_ra.nd rfl rfl (by decide) rfl rfl (pa_cons (pe_e1 hk23 T23 U hr rfl (pa_cons (pv 0) pa_nil)) (pa_cons (pe_e1k hk23 T23 U hr rfl (pk_cons (pv 0) pk_nil)) pa_nil)) (by rfl))
      (pss_cons (ps_expr (pe_bm PySem.F.plainAttrs_list PySem.F.slot_list_extend PySem.F.type_list_extend mt_extend (pv 2) (pa_cons (pe_lst (pa_cons (pe_tup (pa_cons (pv 3) (pa_cons (pe_lst (pa_cons (pe_ef (pv 3) rfl) pa_nil)) pa_nil))) (pa_cons (pe_tup (pa_cons (pv 4) (pa_cons (pe_lst (pa_cons (pe_ef (pv 4) rfl) pa_nil)) pa_nil))) pa_nil))) pa_nil)))
      (pss_one (ps_ret (pv 2)))))))))))))))))))))))))))))))))))))))))))))))))))), ?_⟩
    refine ⟨le0, fun m nm => ?_⟩
    have z : BI K (upd H m (.lst [])) one other m 0 [some one, some other, some (.ref m), none, none] (upd H m (.lst [])) := ⟨⟨[], none, none, rfl, upd_same, rfl, fun x hx => (nomatch hx)⟩, fun b o q _ => q, upd_same⟩
    refine blk1 (by omega) hk0 T0 i0 z (fun σ0 H0 z0 => ?_)
    refine blk1 (by omega) hk1 T1 i1 z0 (fun σ1 H1 z1 => ?_)
    refine blk1 (by omega) hk2 T2 i2 z1 (fun σ2 H2 z2 => ?_)
    refine blk1 (by omega) hk3 T3 i3 z2 (fun σ3 H3 z3 => ?_)
    refine blk1 (by omega) hk4 T4 i4 z3 (fun σ4 H4 z4 => ?_)
    refine blk1 (by omega) hk5 T5 i5 z4 (fun σ5 H5 z5 => ?_)
    refine blk1 (by omega) hk6 T6 i6 z5 (fun σ6 H6 z6 => ?_)
    refine blk1 (by omega) hk7 T7 i7 z6 (fun σ7 H7 z7 => ?_)
    refine blk1 (by omega) hk8 T8 i8 z7 (fun σ8 H8 z8 => ?_)
    refine blk1 (by omega) hk9 T9 i9 z8 (fun σ9 H9 z9 => ?_)
    refine blk1 (by omega) hk10 T10 i10 z9 (fun σ10 H10 z10 => ?_)
    refine blk1 (by omega) hk11 T11 i11 z10 (fun σ11 H11 z11 => ?_)
    refine blk1 (by omega) hk12 T12 i12 z11 (fun σ12 H12 z12 => ?_)
    refine blk1 (by omega) hk13 T13 i13 z12 (fun σ13 H13 z13 => ?_)
    refine blk1 (by omega) hk14 T14 i14 z13 (fun σ14 H14 z14 => ?_)
    refine blk1 (by omega) hk15 T15 i15 z14 (fun σ15 H15 z15 => ?_)
    refine blk1 (by omega) hk16 T16 i16 z15 (fun σ16 H16 z16 => ?_)
    refine blk1 (by omega) hk17 T17 i17 z16 (fun σ17 H17 z17 => ?_)
    refine blk1 (by omega) hk18 T18 i18 z17 (fun σ18 H18 z18 => ?_)
    refine blk1 (by omega) hk19 T19 i19 z18 (fun σ19 H19 z19 => ?_)
    refine blk1 (by omega) hk20 T20 i20 z19 (fun σ20 H20 z20 => ?_)
    refine blk1 (by omega) hk21 T21 i21 z20 (fun σ21 H21 z21 => ?_)
    refine blk1 (by omega) hk22 T22 i22 z21 (fun σ22 H22 z22 => ?_)
    refine blk1 (by omega) hk23 T23 i23 z22 (fun σ23 H23 z23 => ?_)
    obtain ⟨⟨xs, v3, v4, rfl, hm, hl, hx⟩, keep, bm⟩ := z23
    refine ⟨_, rfl, k m xs _ (fun b o q => keep b o (up nm q) (ne_of_none q nm)) nm hm hl fun x h => (hx x h).less fun b o q => up nm q⟩
abbrev sL_rb : Stmt := top 85
theorem sc_rb : FnScope ["one", "other", "made", "first", "second"] ["one", "other"] (defScope sL_rb) := ⟨rfl, rfl, rfl, by decide +kernel, rfl, by decide +kernel, by decide +kernel⟩
theorem ok_rb {f : Addr} {fd : FuncData} (F : FnP K "_law_refusals_b" sL_rb f fd) (U : SupOk P mg) (h0 : Kn1 P K mg "BadAnswer" "thing") (h1 : Kn2 P K mg "NoGoBetween") (h2 : Kn1 P K mg "BadDeed" "thing") (h3 : Kn1 P K mg "TakenName" "name") (h4 : Kn1 P K mg "HasMet" "person") (h5 : Kn1 P K mg "NotOutmost" "person") (h6 : Kn2 P K mg "HaveMet") (h7 : Kn1 P K mg "BadQuestion" "thing") (h8 : Kn1 P K mg "IsWatched" "question") (h9 : Kn1 P K mg "NotWatched" "question") (h10 : Kn1 P K mg "InUse" "question") (h11 : Kn1 P K mg "WouldChange" "question") (h12 : Kn1 P K mg "NoCount" "number") (h13 : Kn1 P K mg "BadDesk" "thing") (h14 : Kn1 P K mg "BadText" "line") : FnOk P w K mg base CX0 1 f fd ["one", "other"] (spErr K 30) := by
  obtain ⟨K0, C0, hk0, T0, i0⟩ := h0
  obtain ⟨K1, C1, hk1, T1, i1⟩ := h1
  obtain ⟨K2, C2, hk2, T2, i2⟩ := h2
  obtain ⟨K3, C3, hk3, T3, i3⟩ := h3
  obtain ⟨K4, C4, hk4, T4, i4⟩ := h4
  obtain ⟨K5, C5, hk5, T5, i5⟩ := h5
  obtain ⟨K6, C6, hk6, T6, i6⟩ := h6
  obtain ⟨K7, C7, hk7, T7, i7⟩ := h7
  obtain ⟨K8, C8, hk8, T8, i8⟩ := h8
  obtain ⟨K9, C9, hk9, T9, i9⟩ := h9
  obtain ⟨K10, C10, hk10, T10, i10⟩ := h10
  obtain ⟨K11, C11, hk11, T11, i11⟩ := h11
  obtain ⟨K12, C12, hk12, T12, i12⟩ := h12
  obtain ⟨K13, C13, hk13, T13, i13⟩ := h13
  obtain ⟨K14, C14, hk14, T14, i14⟩ := h14
  refine F.ok sc_rb (fun vs H Q E h => ?_) (fun cdv A outer s H vs Q E hr h => ?_)
  · obtain ⟨one, other, rfl, _⟩ := h
    rfl
  · obtain ⟨one, other, rfl, k⟩ := h
    refine ⟨_, PSs.nox (pss_cons (ps_set (i := 2) sc_rb.nd rfl (Or.inl rfl) (pe_lst pa_nil)) 
      (pss_cons (ps_par (i := 3) (j := 4) (by rfl) sc_rb.nd rfl rfl (by decide) rfl rfl (pa_cons (pe_e1 hk0 T0 U hr rfl (pa_cons (pv 0) pa_nil)) (pa_cons (pe_e1k hk0 T0 U hr rfl (pk_cons (pv 0) pk_nil)) pa_nil)) (by rfl))
      (pss_cons (ps_expr (pe_bm PySem.F.plainAttrs_list PySem.F.slot_list_extend PySem.F.type_list_extend mt_extend (pv 2) (pa_cons (pe_lst (pa_cons (pe_tup (pa_cons (pv 3) (pa_cons (pe_lst (pa_cons (pe_ef (pv 3) rfl) pa_nil)) pa_nil))) (pa_cons (pe_tup (pa_cons (pv 4) (pa_cons (pe_lst (pa_cons (pe_ef (pv 4) rfl) pa_nil)) pa_nil))) pa_nil))) pa_nil)))
      (pss_cons (ps_par (i := 3) (j := 4) (by rfl) sc_rb.nd rfl rfl (by decide) rfl rfl (pa_cons (pe_e2 hk1 T1 U hr rfl (pa_cons (pv 0) (pa_cons (pv 1) pa_nil))) (pa_cons (pe_e2k hk1 T1 U hr rfl (pk_cons (pv 1) (pk_cons (pv 0) pk_nil))) pa_nil)) (by rfl))
      (pss_cons (ps_expr (pe_bm PySem.F.plainAttrs_list PySem.F.slot_list_extend PySem.F.type_list_extend mt_extend (pv 2) (pa_cons (pe_lst (pa_cons (pe_tup (pa_cons (pv 3) (pa_cons (pe_lst (pa_cons (pe_ef (pv 3) rfl) (pa_cons (pe_ef (pv 3) rfl) pa_nil))) pa_nil))) (pa_cons (pe_tup (pa_cons (pv 4) (pa_cons (pe_lst (pa_cons (pe_ef (pv 4) rfl) (pa_cons (pe_ef (pv 4) rfl) pa_nil))) pa_nil))) pa_nil))) pa_nil)))
      (pss_cons (ps_par (i := 3) (j := 4) (by rfl) sc_rb.nd rfl rfl (by decide) rfl rfl (pa_cons (pe_e1 hk2 T2 U hr rfl (pa_cons (pv 0) pa_nil)) (pa_cons (pe_e1k hk2 T2 U hr rfl (pk_cons (pv 0) pk_nil)) pa_nil)) (by rfl))
      (pss_cons (ps_expr (pe_bm PySem.F.plainAttrs_list PySem.F.slot_list_extend PySem.F.type_list_extend mt_extend (pv 2) (pa_cons (pe_lst (pa_cons (pe_tup (pa_cons (pv 3) (pa_cons (pe_lst (pa_cons (pe_ef (pv 3) rfl) pa_nil)) pa_nil))) (pa_cons (pe_tup (pa_cons (pv 4) (pa_cons (pe_lst (pa_cons (pe_ef (pv 4) rfl) pa_nil)) pa_nil))) pa_nil))) pa_nil)))
      (pss_cons (ps_par (i := 3) (j := 4) (by rfl) sc_rb.nd rfl rfl (by decide) rfl rfl (pa_cons (pe_e1 hk3 T3 U hr rfl (pa_cons (pv 0) pa_nil)) (pa_cons (pe_e1k hk3 T3 U hr rfl (pk_cons (pv 0) pk_nil)) pa_nil)) (by rfl))
      (pss_cons (ps_expr (pe_bm PySem.F.plainAttrs_list PySem.F.slot_list_extend PySem.F.type_list_extend mt_extend (pv 2) (pa_cons (pe_lst (pa_cons (pe_tup (pa_cons (pv 3) (pa_cons (pe_lst (pa_cons (pe_ef (pv 3) rfl) pa_nil)) pa_nil))) (pa_cons (pe_tup (pa_cons (pv 4) (pa_cons (pe_lst (pa_cons (pe_ef (pv 4) rfl) pa_nil)) pa_nil))) pa_nil))) pa_nil)))
      (pss_cons (ps_par (i := 3) (j := 4) (by rfl) sc_rb.nd rfl rfl (by decide) rfl rfl (pa_cons (pe_e1 hk4 T4 U hr rfl (pa_cons (pv 0) pa_nil)) (pa_cons (pe_e1k hk4 T4 U hr rfl (pk_cons (pv 0) pk_nil)) pa_nil)) (by rfl))
      (pss_cons (ps_expr (pe_bm PySem.F.plainAttrs_list PySem.F.slot_list_extend PySem.F.type_list_extend mt_extend (pv 2) (pa_cons (pe_lst (pa_cons (pe_tup (pa_cons (pv 3) (pa_cons (pe_lst (pa_cons (pe_ef (pv 3) rfl) pa_nil)) pa_nil))) (pa_cons (pe_tup (pa_cons (pv 4) (pa_cons (pe_lst (pa_cons (pe_ef (pv 4) rfl) pa_nil)) pa_nil))) pa_nil))) pa_nil)))
      (pss_cons (ps_par (i := 3) (j := 4) (by rfl) sc_rb.nd rfl rfl (by decide) rfl rfl (pa_cons (pe_e1 hk5 T5 U hr rfl (pa_cons (pv 0) pa_nil)) (pa_cons (pe_e1k hk5 T5 U hr rfl (pk_cons (pv 0) pk_nil)) pa_nil)) (by rfl))
      (pss_cons (ps_expr (pe_bm PySem.F.plainAttrs_list PySem.F.slot_list_extend PySem.F.type_list_extend mt_extend (pv 2) (pa_cons (pe_lst (pa_cons (pe_tup (pa_cons (pv 3) (pa_cons (pe_lst (pa_cons (pe_ef (pv 3) rfl) pa_nil)) pa_nil))) (pa_cons (pe_tup (pa_cons (pv 4) (pa_cons (pe_lst (pa_cons (pe_ef (pv 4) rfl) pa_nil)) pa_nil))) pa_nil))) pa_nil)))
      (pss_cons (ps_par (i := 3) (j := 4) (by rfl) sc_rb.nd rfl rfl (by decide) rfl rfl (pa_cons (pe_e2 hk6 T6 U hr rfl (pa_cons (pv 0) (pa_cons (pv 1) pa_nil))) (pa_cons (pe_e2k hk6 T6 U hr rfl (pk_cons (pv 1) (pk_cons (pv 0) pk_nil))) pa_nil)) (by rfl))
      (pss_cons (ps_expr (pe_bm PySem.F.plainAttrs_list PySem.F.slot_list_extend PySem.F.type_list_extend mt_extend (pv 2) (pa_cons (pe_lst (pa_cons (pe_tup (pa_cons (pv 3) (pa_cons (pe_lst (pa_cons (pe_ef (pv 3) rfl) (pa_cons (pe_ef (pv 3) rfl) pa_nil))) pa_nil))) (pa_cons (pe_tup (pa_cons (pv 4) (pa_cons (pe_lst (pa_cons (pe_ef (pv 4) rfl) (pa_cons (pe_ef (pv 4) rfl) pa_nil))) pa_nil))) pa_nil))) pa_nil)))
      (pss_cons (ps_par (i := 3) (j := 4) (by rfl) sc_rb.nd rfl rfl (by decide) rfl rfl (pa_cons (pe_e1 hk7 T7 U hr rfl (pa_cons (pv 0) pa_nil)) (pa_cons (pe_e1k hk7 T7 U hr rfl (pk_cons (pv 0) pk_nil)) pa_nil)) (by rfl))
      (pss_cons (ps_expr (pe_bm PySem.F.plainAttrs_list PySem.F.slot_list_extend PySem.F.type_list_extend mt_extend (pv 2) (pa_cons (pe_lst (pa_cons (pe_tup (pa_cons (pv 3) (pa_cons (pe_lst (pa_cons (pe_ef (pv 3) rfl) pa_nil)) pa_nil))) (pa_cons (pe_tup (pa_cons (pv 4) (pa_cons (pe_lst (pa_cons (pe_ef (pv 4) rfl) pa_nil)) pa_nil))) pa_nil))) pa_nil)))
      (pss_cons (ps_par (i := 3) (j := 4) (by rfl) sc_rb.nd rfl rfl (by decide) rfl rfl (pa_cons (pe_e1 hk8 T8 U hr rfl (pa_cons (pv 0) pa_nil)) (pa_cons (pe_e1k hk8 T8 U hr rfl (pk_cons (pv 0) pk_nil)) pa_nil)) (by rfl))
      (pss_cons (ps_expr (pe_bm PySem.F.plainAttrs_list PySem.F.slot_list_extend PySem.F.type_list_extend mt_extend (pv 2) (pa_cons (pe_lst (pa_cons (pe_tup (pa_cons (pv 3) (pa_cons (pe_lst (pa_cons (pe_ef (pv 3) rfl) pa_nil)) pa_nil))) (pa_cons (pe_tup (pa_cons (pv 4) (pa_cons (pe_lst (pa_cons (pe_ef (pv 4) rfl) pa_nil)) pa_nil))) pa_nil))) pa_nil)))
      (pss_cons (ps_par (i := 3) (j := 4) (by rfl) sc_rb.nd rfl rfl (by decide) rfl rfl (pa_cons (pe_e1 hk9 T9 U hr rfl (pa_cons (pv 0) pa_nil)) (pa_cons (pe_e1k hk9 T9 U hr rfl (pk_cons (pv 0) pk_nil)) pa_nil)) (by rfl))
      (pss_cons (ps_expr (pe_bm PySem.F.plainAttrs_list PySem.F.slot_list_extend PySem.F.type_list_extend mt_extend (pv 2) (pa_cons (pe_lst (pa_cons (pe_tup (pa_cons (pv 3) (pa_cons (pe_lst (pa_cons (pe_ef (pv 3) rfl) pa_nil)) pa_nil))) (pa_cons (pe_tup (pa_cons (pv 4) (pa_cons (pe_lst (pa_cons (pe_ef (pv 4) rfl) pa_nil)) pa_nil))) pa_nil))) pa_nil)))
      (pss_cons (ps_par (i := 3) (j := 4) (by rfl) sc_rb.nd rfl rfl (by decide) rfl rfl (pa_cons (pe_e1 hk10 T10 U hr rfl (pa_cons (pv 0) pa_nil)) (pa_cons (pe_e1k hk10 T10 U hr rfl (pk_cons (pv 0) pk_nil)) pa_nil)) (by rfl))
      (pss_cons (ps_expr (pe_bm PySem.F.plainAttrs_list PySem.F.slot_list_extend PySem.F.type_list_extend mt_extend (pv 2) (pa_cons (pe_lst (pa_cons (pe_tup (pa_cons (pv 3) (pa_cons (pe_lst (pa_cons (pe_ef (pv 3) rfl) pa_nil)) pa_nil))) (pa_cons (pe_tup (pa_cons (pv 4) (pa_cons (pe_lst (pa_cons (pe_ef (pv 4) rfl) pa_nil)) pa_nil))) pa_nil))) pa_nil)))
      (pss_cons (ps_par (i := 3) (j := 4) (by rfl) sc_rb.nd rfl rfl (by decide) rfl rfl (pa_cons (pe_e1 hk11 T11 U hr rfl (pa_cons (pv 0) pa_nil)) (pa_cons (pe_e1k hk11 T11 U hr rfl (pk_cons (pv 0) pk_nil)) pa_nil)) (by rfl))
      (pss_cons (ps_expr (pe_bm PySem.F.plainAttrs_list PySem.F.slot_list_extend PySem.F.type_list_extend mt_extend (pv 2) (pa_cons (pe_lst (pa_cons (pe_tup (pa_cons (pv 3) (pa_cons (pe_lst (pa_cons (pe_ef (pv 3) rfl) pa_nil)) pa_nil))) (pa_cons (pe_tup (pa_cons (pv 4) (pa_cons (pe_lst (pa_cons (pe_ef (pv 4) rfl) pa_nil)) pa_nil))) pa_nil))) pa_nil)))
      (pss_cons (ps_par (i := 3) (j := 4) (by rfl) sc_rb.nd rfl rfl (by decide) rfl rfl (pa_cons (pe_e1 hk12 T12 U hr rfl (pa_cons (pv 0) pa_nil)) (pa_cons (pe_e1k hk12 T12 U hr rfl (pk_cons (pv 0) pk_nil)) pa_nil)) (by rfl))
      (pss_cons (ps_expr (pe_bm PySem.F.plainAttrs_list PySem.F.slot_list_extend PySem.F.type_list_extend mt_extend (pv 2) (pa_cons (pe_lst (pa_cons (pe_tup (pa_cons (pv 3) (pa_cons (pe_lst (pa_cons (pe_ef (pv 3) rfl) pa_nil)) pa_nil))) (pa_cons (pe_tup (pa_cons (pv 4) (pa_cons (pe_lst (pa_cons (pe_ef (pv 4) rfl) pa_nil)) pa_nil))) pa_nil))) pa_nil)))
      (pss_cons (ps_par (i := 3) (j := 4) (by rfl) sc_rb.nd rfl rfl (by decide) rfl rfl (pa_cons (pe_e1 hk13 T13 U hr rfl (pa_cons (pv 0) pa_nil)) (pa_cons (pe_e1k hk13 T13 U hr rfl (pk_cons (pv 0) pk_nil)) pa_nil)) (by rfl))
      (pss_cons (ps_expr (pe_bm PySem.F.plainAttrs_list PySem.F.slot_list_extend PySem.F.type_list_extend mt_extend (pv 2) (pa_cons (pe_lst (pa_cons (pe_tup (pa_cons (pv 3) (pa_cons (pe_lst (pa_cons (pe_ef (pv 3) rfl) pa_nil)) pa_nil))) (pa_cons (pe_tup (pa_cons (pv 4) (pa_cons (pe_lst (pa_cons (pe_ef (pv 4) rfl) pa_nil)) pa_nil))) pa_nil))) pa_nil)))
      (pss_cons (ps_par (i := 3) (j := 4) (by rfl) sc_rb.nd rfl rfl (by decide) rfl rfl (pa_cons (pe_e1 hk14 T14 U hr rfl (pa_cons (pv 0) pa_nil)) (pa_cons (pe_e1k hk14 T14 U hr rfl (pk_cons (pv 0) pk_nil)) pa_nil)) (by rfl))
      (pss_cons (ps_expr (pe_bm PySem.F.plainAttrs_list PySem.F.slot_list_extend PySem.F.type_list_extend mt_extend (pv 2) (pa_cons (pe_lst (pa_cons (pe_tup (pa_cons (pv 3) (pa_cons (pe_lst (pa_cons (pe_ef (pv 3) rfl) pa_nil)) pa_nil))) (pa_cons (pe_tup (pa_cons (pv 4) (pa_cons (pe_lst (pa_cons (pe_ef (pv 4) rfl) pa_nil)) pa_nil))) pa_nil))) pa_nil)))
      (pss_one (ps_ret (pv 2)))))))))))))))))))))))))))))))))), ?_⟩
    refine ⟨le0, fun m nm => ?_⟩
    have z : BI K (upd H m (.lst [])) one other m 0 [some one, some other, some (.ref m), none, none] (upd H m (.lst [])) := ⟨⟨[], none, none, rfl, upd_same, rfl, fun x hx => (nomatch hx)⟩, fun b o q _ => q, upd_same⟩
    refine blk1 (by omega) hk0 T0 i0 z (fun σ0 H0 z0 => ?_)
    refine blk2 (by omega) hk1 T1 i1 z0 (fun σ1 H1 z1 => ?_)
    refine blk1 (by omega) hk2 T2 i2 z1 (fun σ2 H2 z2 => ?_)
    refine blk1 (by omega) hk3 T3 i3 z2 (fun σ3 H3 z3 => ?_)
    refine blk1 (by omega) hk4 T4 i4 z3 (fun σ4 H4 z4 => ?_)
    refine blk1 (by omega) hk5 T5 i5 z4 (fun σ5 H5 z5 => ?_)
    refine blk2 (by omega) hk6 T6 i6 z5 (fun σ6 H6 z6 => ?_)
    refine blk1 (by omega) hk7 T7 i7 z6 (fun σ7 H7 z7 => ?_)
    refine blk1 (by omega) hk8 T8 i8 z7 (fun σ8 H8 z8 => ?_)
    refine blk1 (by omega) hk9 T9 i9 z8 (fun σ9 H9 z9 => ?_)
    refine blk1 (by omega) hk10 T10 i10 z9 (fun σ10 H10 z10 => ?_)
    refine blk1 (by omega) hk11 T11 i11 z10 (fun σ11 H11 z11 => ?_)
    refine blk1 (by omega) hk12 T12 i12 z11 (fun σ12 H12 z12 => ?_)
    refine blk1 (by omega) hk13 T13 i13 z12 (fun σ13 H13 z13 => ?_)
    refine blk1 (by omega) hk14 T14 i14 z13 (fun σ14 H14 z14 => ?_)
    obtain ⟨⟨xs, v3, v4, rfl, hm, hl, hx⟩, keep, bm⟩ := z14
    refine ⟨_, rfl, k m xs _ (fun b o q => keep b o (up nm q) (ne_of_none q nm)) nm hm hl fun x h => (hx x h).less fun b o q => up nm q⟩
end
end K00
/-! ## K00T1 -/
set_option maxHeartbeats 2000000
namespace L2
open PySem PySem.Spec PyProof.Rows
section
variable {P : Program} {w : World} {A : Around} {E : Value → Shared → Prop} {s : Shared}
/-- an int is not found among the one tuple -/
theorem find_int {d b : Addr} {o : Obj} {ep : Nat} {ks : List Key} {v : Value} {i : Int} {t : Tok} {hk hh : Int} {Q : Option Nat → Shared → Prop} (hu : A.units < cLine)
    (ho : s.heap.get? d = some o) (hd : o.data = .dict #[⟨hk, .ref b, v⟩] ep) (hb : (tupleKind (mixKind P w)).is s.heap ks b) (h : Q none s) : wpAny (model P w) A (dictFind d (.int i t) hh) Q E s := by
  obtain ⟨ot, its, nt, ht, hc, hdt, _⟩ := (show IsTupleKey (mixKind P w) s.heap ks b from hb)
  have hl : s.heap.IsTuple b its := ⟨ot, ht, hc, nt, hdt⟩
  unfold dictFind
  refine wpAny_holding ?_
  refine wpAny_bind (wpAny_dictEntries ho hd ?_)
  by_cases e : hk = hh
  · subst e
    have pl : placesWithHash (#[(⟨hk, .ref b, v⟩ : DictEntry)]).size (fun i => (#[(⟨hk, .ref b, v⟩ : DictEntry)])[i]?.map (·.hash)) hk = [0] := by
      simp [placesWithHash]
    dsimp only
    rw [pl]
    have st : List.filterMap (fun i => Option.map (fun x => x.key) (#[(⟨hk, .ref b, v⟩ : DictEntry)])[i]?) [0] = [Value.ref b] := rfl
    rw [st, if_neg (by simp [carriedByValue]), if_neg (by simp)]
    refine wpAny_bind ?_
    have tm : ∀ {Q : Bool → Shared → Prop}, Q false s → wpAny (model P w) A (tableMayTell (.int i t) [.ref b]) Q E s := fun {Q} q => by
      unfold tableMayTell
      rw [if_neg (by simp), eqIsQuiet_byValue 8 rfl]
      refine wpAny_bind (wpAny_pure ?_)
      simp only [Bool.not_true, Bool.false_eq_true, if_false]
      refine wpAny_bind ?_
      rw [List.forIn_cons]
      refine wpAny_bind (wpAny_bind ((tupleKind (mixKind P w)).quiet hb ?_))
      simp only [Bool.not_true, Bool.false_eq_true, if_false]
      refine wpAny_pure ?_
      show wpAny _ _ (forIn [] _ _) _ _ _
      rw [List.forIn_nil]
      exact wpAny_pure (wpAny_pure q)
    refine tm ?_
    rw [if_neg (by simp)]
    rw [List.forIn_cons]
    refine wpAny_bind (wpAny_bind ?_)
    show wpAny _ _ (if (hk == hk) = true then _ else _) _ _ _
    rw [if_pos (by simp)]
    refine wpAny_bind (wpAny_dictEpoch ho hd (wpAny_bind ((SeqAt.EqAt.tuple_int (A := A) i t hl hu) P w _ _ (wpAny_bind (wpAny_dictEpoch ho hd ?_)))))
    rw [if_neg (by simp)]
    simp only [Bool.false_eq_true, if_false, Bool.false_and]
    refine wpAny_bind (wpAny_rule ?_)
    refine wpAny_pure ?_
    show wpAny _ _ (forIn [] _ _) _ _ _
    rw [List.forIn_nil]
    exact wpAny_pure (wpAny_pure h)
  · have pl : placesWithHash (#[(⟨hk, .ref b, v⟩ : DictEntry)]).size (fun i => (#[(⟨hk, .ref b, v⟩ : DictEntry)])[i]?.map (·.hash)) hh = [] := by
      simp [placesWithHash, e]
    dsimp only
    rw [pl]
    have st : List.filterMap (fun i : Nat => Option.map (fun x : DictEntry => x.key) (#[(⟨hk, .ref b, v⟩ : DictEntry)])[i]?) [] = ([] : List Value) := rfl
    rw [st, if_pos (show (Value.int i t :: ([] : List Value)).all carriedByValue = true from rfl)]
    unfold dictWalkPlain
    refine wpAny_bind ?_
    rw [List.forIn_nil]
    exact wpAny_pure (wpAny_pure h)
/-- d[i] = v, d a dict with one tuple as key -/
theorem set_int {d : Addr} {k : List Key} {b : Addr} {u v : Value} {i : Int} {t : Tok} {Q : Unit → Shared → Prop} (hu : A.units + 1 < cLine) (hd : s.heap.DictOfH (tupleKind (mixKind P w)) d [(k, b, u)]) 
    (h : ∀ h', (∃ o, h'.get? d = some o) → Heap.SameBut d s.heap h' → Q () { s with heap := h', toks := s.toks + 1 }) : wpAny (model P w) A (setItem (.ref d) (.int i t) v) Q E s := by
  obtain ⟨o, es, ep, ho, hc, hdt, he, his, hn⟩ := id hd
  have hb := his _ List.mem_cons_self
  have hes : es = #[⟨tupleKeyHash (mixKind P w) k, .ref b, u⟩] := by
    obtain ⟨l⟩ := es
    have e : l = [_] := he
    rw [e]
    rfl
  subst hes
  unfold setItem
  refine wpAny_holding ?_
  refine wpAny_bind (wpAny_sequenceKey hd.typeIs (by decide) ?_)
  refine wpAny_bind (wpAny_callSpecial?_slot (name := Str.ofString "__setitem__") hd.typeIs F.slot_dict_setitem
    (wpAny_call_entry F.slot_dict_setitem hd.typeIs F.entry_dict_setitem ?_ (args_dict_setitem _ _ _)))
  show wpAny _ _ (Builtin.Dict.notOrdered "__setitem__" ⟨[.ref d, .int i t, v], []⟩ >>= _) _ _ s
  refine wpAny_bind (wpAny_notOrdered_dict hd.typeIs ?_)
  show wpAny _ _ (dictSet d (.int i t) v >>= _) _ _ s
  refine wpAny_bind ?_
  unfold dictSet
  refine wpAny_holding ?_
  refine wpAny_bind (wpAny_pyHash_int ?_)
  unfold dictSetHashed
  refine wpAny_holding ?_
  refine wpAny_bind (find_int (by show A.units + 1 < cLine; exact hu) ho hdt hb ?_)
  refine wpAny_bind (wpAny_rule (wpAny_updateDictKeys ho hdt ?_ (by rw [sizeLine_eq]; show 1 ≤ 16777216; decide)))
  refine wpAny_pure ⟨.none, rfl, wpAny_pure (h _ ?_ (Heap.SameBut.update ..))⟩
  exact ⟨_, Heap.get?_update_self _ ho (Obj.isFreed_of_dict (Obj.data_mapDictKeys hdt _))⟩
end
section
variable {X : Cx} {pos : Pos}
/-- {(a, ..): v}: one pair, a tuple of ints and texts as its key -/
def tDispT (tk tv : TE) : TE := fun σ H Q => ∀ p, H p = none → tk σ (upd H p (.dT [])) fun x H1 => tv σ H1 fun y H2 => ∃ b ks, x = .ref b ∧ H2 b = some (.tup (ks.map kV)) ∧ H2 p = some (.dT []) ∧ Q (.ref p) (upd H2 p (.dT [(ks, y)]))
theorem pe_dispT {k v : Expr} {tk tv : TE} (hu : X.A.units < cLine) (hk : PE X k tk) (hv : PE X v tv) : PE X (.Dict [some k] [v] pos) (tDispT tk tv) := by
  refine ⟨fun pins s σ H Q I q => ?_⟩
  have hn := I.hok.fresh (Nat.le_refl s.heap.objs.size)
  have I1 := I.laid (a := s.heap.objs.size) (o := .dT []) (h' := s.heap.push { cls := .type "dict", data := .dict #[] }) (t' := s.toks) (fun _ _ q => Heap.get?_push_of_some _ q) (Nat.le_refl _) (dt_empty s.heap I.big)
  have hs := zip_pairTrees [some k] [v] X.env pos rfl rfl
  rw [arm_eval_Dict, hs, dictDisplay_pairs (pairTrees [some k] [v] X.env pos) (by intro z; cases z) (by show 1 < 17; decide)]
  refine wpAny_bind (wpAny_standAt (wpAny_bind (wpAny_subDictH (knd := tupleKind (mixKind X.prog X.w)) hu (by show 1 ≤ 15; decide) (pairTrees_cons_walk (thn (hk.run pins _ σ _ _ I1 (q _ hn)) fun u s1 ⟨x, H1, I2, rx, q1⟩ => thn (hv.run pins s1 σ H1 _ I2 q1) fun w2 s2 ⟨y, H2, I3, ry, q2⟩ => pairTrees_nil_walk ?_)))))
  obtain ⟨b, ks, ex, eb, ep, q⟩ := q2
  subst ex
  cases (show u = Value.ref b from rx)
  obtain ⟨z, hd, xs, r0, dd⟩ := dt_of I3.hok ep
  cases r0
  refine ⟨[(ks, b, w2)], ⟨rfl, rfl, key_of I3.hok eb, trivial⟩, dd, fun h' tk dd' hs' => wpAny_pure ⟨.ref s.heap.objs.size, _, ?_, rfl, q⟩⟩
  obtain ⟨o, es, ep', hq, h2, h3, h4, _, h5⟩ := dd'
  refine d_write I3 (by rw [ep]; exact True.intro) hs' ⟨o, hq⟩ ⟨by show 1 ≤ sizeLine; rw [sizeLine_eq]; decide, hd, _, .cons ⟨rfl, ?_, ry⟩ .nil, o, es, ep', hq, h2, h3, h4, h5⟩
  show upd H2 s.heap.objs.size _ b = _
  rw [upd_ne (ne_of eb ep (fun z => nomatch z))]
  exact eb
/-- an object of which no more is told -/
def spent (a : Addr) : HO := .ext fun h => ∃ o, h.get? a = some o
/-- a[i] = v: a dict of ints and texts, or one with one tuple as its key -/
def rSetT : TSet := fun o i v H Q => (∃ a kvs n, o = .ref a ∧ i = .int n ∧ H a = some (.dK kvs) ∧ kvs.length < sizeLine ∧ Q (upd H a (.dK (putK kvs (.inl n) v)))) ∨
  ∃ a k u n, o = .ref a ∧ i = .int n ∧ H a = some (.dT [(k, u)]) ∧ Q (upd H a (spent a))
theorem set_dT (hu : X.A.units + 1 < cLine) : PSet X rSetT := by
  intro pins s σ H o i v ov iv u Q I ro ri rv h
  rcases h with ⟨a, kvs, n, rfl, rfl, e, hl, q⟩ | ⟨a, k, y, n, rfl, rfl, e, q⟩
  · cases (show ov = Value.ref a from ro)
    exact d_setItem hu I (DPut.k (k := .inl n) e hl) ri rv fun s' I' => ⟨_, I', q⟩
  · cases (show ov = Value.ref a from ro)
    obtain ⟨t, rfl⟩ := ri
    obtain ⟨z, hd, xs, rel, dd⟩ := dt_of I.hok e
    cases rel with
    | cons r1 r2 =>
      rename_i x1 xs1
      cases r2
      obtain ⟨k1, b1, v1⟩ := x1
      refine set_int hu dd fun h' he hs => ⟨_, ?_, q⟩
      exact d_write I (by rw [e]; exact True.intro) hs he ⟨he, he, fun h1 h2 ⟨o, g⟩ k => ⟨o, k o g⟩⟩
end
end L2
/-! ## K00U -/
set_option maxHeartbeats 2000000
namespace L2
open PySem PySem.Spec PyProof.Rows PySem.HErr
section
variable {X : Cx}
/-! ### a != b, two lists of the same items -/
def rNeSame (K : PySem.W.Frag) : R2 := fun x y H Q => ∃ a b xs, x = .ref a ∧ y = .ref b ∧ SqL K H a xs ∧ SqL K H b xs ∧ (∀ v ∈ xs, flatB v = true ∨ ∃ c, v = .ref c) ∧ Q (.bl false) H
theorem same_items {A : Around} {s : Shared} : ∀ {xs : List V} {us ws : List Value}, Vals xs us → Vals xs ws → (∀ v ∈ xs, flatB v = true ∨ ∃ c, v = .ref c) → ∀ j (h1 : j < us.length) (h2 : j < ws.length), SeqAt.EqAt A s us[j] ws[j] true
  | _, _, _, .nil, .nil, _, j, h1, _ => absurd h1 (Nat.not_lt_zero j)
  | x :: xs, u :: us, w :: ws, .cons a1 b1, .cons a2 b2, hv, j, h1, h2 => by
    cases j with
    | zero =>
      rcases hv x List.mem_cons_self with f | ⟨c, rfl⟩
      · exact eqAt_same a1 a2 f
      · cases (show u = Value.ref c from a1)
        cases (show w = Value.ref c from a2)
        exact SeqAt.EqAt.same _
    | succ j => exact same_items b1 b2 (fun v hm => hv v (List.mem_cons_of_mem _ hm)) j (Nat.lt_of_succ_lt_succ h1) (Nat.lt_of_succ_lt_succ h2)
theorem op_neSame (hu : X.A.units < cLine) : OpR X (compareOp .NotEq) (rNeSame X.K) := by
  intro pins s σ H x y v u Q I rx ry h
  obtain ⟨a, b, xs, rfl, rfl, ha, hb, hv, q⟩ := h
  cases (show v = Value.ref a from rx)
  cases (show u = Value.ref b from ry)
  obtain ⟨us, r1, p1, _⟩ := I.list ha
  obtain ⟨ws, r2, p2, _⟩ := I.list hb
  have hsz : us.toArray.size = ws.toArray.size := by rw [List.size_toArray, List.size_toArray, ← r1.length, ← r2.length]
  have R := SeqAt.RcNeAt.lists (e := fun _ => true) p1.isList p2.isList hsz hu (fun j h1 h2 => by
    have k := same_items (A := X.A.in1) (s := s) r1 r2 hv j (by simpa using h1) (by simpa using h2)
    simpa using k)
  refine R X.prog X.w X.xe (EP X pins σ Q) ?_
  rw [show ((List.range us.toArray.size).all fun _ => true) = true from List.all_eq_true.mpr fun _ _ => rfl]
  exact ⟨.bl false, H, I, rfl, q⟩
/-- x is b, b a bool, x anything -/
def isBl (x : V) (b : Bool) : Bool := match x with
  | .bl a => a == b
  | _ => false
theorem op_isB : OpR X (compareOp .Is) (fun x y H Q => ∃ b, y = .bl b ∧ Q (.bl (isBl x b)) H) := by
  intro pins s σ H x y v u Q I rx ry h
  obtain ⟨b, rfl, q⟩ := h
  cases (show u = Value.bool b from ry)
  cases x with
  | bl a =>
    cases (show v = Value.bool a from rx)
    by_cases e : a = b
    · subst e
      exact wpAny_is_self rfl ⟨.bl true, H, I, rfl, by simpa [isBl] using q⟩
    · exact wpAny_is_other rfl (fun z => e (Value.bool.inj z)) ⟨.bl false, H, I, rfl, by
        have z : isBl (.bl a) b = false := by
          show (a == b) = false
          exact beq_eq_false_iff_ne.mpr e
        rw [z] at q
        exact q⟩
  | _ => first
    | (cases rx; exact wpAny_is_other rfl (fun z => nomatch z) ⟨.bl false, H, I, rfl, q⟩)
    | (obtain ⟨t, rfl⟩ := rx; exact wpAny_is_other rfl (fun z => nomatch z) ⟨.bl false, H, I, rfl, q⟩)
/-! ### an own exception without own __init__, made with nothing -/
theorem pe_exc0 {K' : PySem.W.Frag} {C : Addr} {bmB : List Value} {B newId initId : String} {x : Str} {p pos : Pos} (hk : Sub K' X.K) (F : ExcBaseFacts B newId initId bmB) (q : PySem.W.excIn K' C bmB newId = true) (gC : X.mg x = some (.ref C)) (kC : PySem.W.keepIn K' (.ref C) = true) (hg : Gl X x)
    (hdb : (x == ("__debug__" : Str)) = false := by decide) : PE X (.Call (.Name x p) [] [] pos) (fun σ H Q => ∀ a, H a = none → Q (.ref a) (upd H a (ExO (.ref C) a))) := by
  refine ⟨fun pins s σ H Q I h => ?_⟩
  refine wpAny_Call_Name_kw (ld_glob I hg gC ?_ hdb)
  refine PySem.W.callWith_K0 (hk.inn I.kIn) kC ?_
  obtain ⟨bm, N, nm, qn, bs, hdct, sn, sub, ab, col, dd, k0, k1, k2, k3, k5, mN, hC, hN, hni, T⟩ := exc_obj (hk.inn I.kIn) q
  refine wpAny_call_exc_subT F T hC hN hni (fun h' a hm => ?_) (by show 0 ≤ sizeLine; exact Nat.zero_le _)
  have hn : H a = none := I.hok.gone hm.new
  obtain ⟨t, ht, _, _⟩ := hm.there
  exact ⟨.ref a, upd H a (ExO (.ref C) a), I.laidN hm.keeps hm.new hn (exO_ok ht ⟨rfl, rfl⟩ rfl rfl rfl (show 4 < 6 by decide)), rfl, h a hn⟩
/-- isinstance of such a one -/
def rIs0 (K : PySem.W.Frag) : List V → Hp → VK → Prop := fun xs H Q => ∃ (K' : PySem.W.Frag) (e C : Addr) (c : V) (cv : Value) (b : Bool), xs = [.ref e, c] ∧ H e = some (ExO (.ref C) e) ∧ Sub K' K ∧ ExcC K' C ∧ (∀ u, RelV c u → u = cv) ∧ PySem.W.kitOne K' (.ref C) cv = some b ∧ Q (.bl b) H
theorem call_is0 : CallR X (.builtin "isinstance") (rIs0 X.K) := by
  intro pins s σ H xs us Q I r h
  obtain ⟨K', e, C, c, cv, b, rfl, he, hk, T, hcv, ek, q⟩ := h
  cases r with
  | cons rx rr =>
    cases rr with
    | cons rt rr =>
      cases rr
      cases rx
      have ec := hcv _ rt
      subst ec
      obtain ⟨⟨oe, vs, ho, ⟨z1, z2⟩, hd, _⟩, _, _⟩ := I.hok e _ he
      obtain ⟨oc, od, oda, osl⟩ := oe
      dsimp only at z1 z2 hd
      subst z1 z2 hd
      have J : PySem.W.InstAt s.heap e { cls := .ref C, dict := none, data := .fields vs, slots := osl } C none := ⟨ho, rfl, rfl, trivial⟩
      exact PySem.W.kia_one (PySem.W.kitx_excO T.hg T.hk T.hs T.hd T.ha T.hn T.ht T.hm) (hk.inn I.kIn) J ek (fun z => nomatch z) fun tk => ⟨.bl b, H, I.kept (t' := tk) fun _ _ z => z, rfl, q⟩
/-- isinstance(e, c), e the exception that the suite holds, with its dict -/
def rIsD (K : PySem.W.Frag) (cls : Value) (dd : Option Addr) (a : Addr) : List V → Hp → VK → Prop := fun xs H Q => ∃ (K' : PySem.W.Frag) (D d : Addr) (c : V) (cv : Value) (fs : List (Str × V)) (b : Bool), cls = .ref D ∧ dd = some d ∧ xs = [.ref a, c] ∧ H d = some (.xd fs) ∧ Sub K' K ∧ ExcC K' D ∧ (∀ u, RelV c u → u = cv) ∧ PySem.W.kitOne K' (.ref D) cv = some b ∧ Q (.bl b) H
theorem call_isD {a : Addr} {cls : Value} {dd : Option Addr} {oe : Obj} {pn : List (Addr × Obj)} (hz : Zc cls dd oe) (hf : ∃ vs, oe.data = .fields vs) : CallR (X.suite a ((a, oe) :: pn)) (.builtin "isinstance") (rIsD X.K cls dd a) := by
  intro pins s σ H xs us Q I r h
  obtain ⟨K', D, d, c, cv, fs, b, rfl, rfl, rfl, hd, hk, T, hcv, ek, q⟩ := h
  cases r with
  | cons rx rr =>
    cases rr with
    | cons rt rr =>
      cases rr
      cases rx
      have ec := hcv _ rt
      subst ec
      obtain ⟨hget, _⟩ := I.pin (a, oe) (List.mem_append.mpr (.inl List.mem_cons_self))
      obtain ⟨vs, hv⟩ := hf
      obtain ⟨mA, hns, hr⟩ := I.hok d _ hd
      obtain ⟨od, es, ep, hod, hl⟩ := hns
      have J : PySem.W.InstAt s.heap a oe D (some od) := by
        obtain ⟨oc, odd, oda, osl⟩ := oe
        obtain ⟨h1, h2⟩ := hz
        dsimp only at h1 h2 hv
        subst h1 h2 hv
        exact ⟨hget, rfl, rfl, hod⟩
      exact PySem.W.kia_one (PySem.W.kitx_excO T.hg T.hk T.hs T.hd T.ha T.hn T.ht T.hm) (hk.inn I.kIn) J ek (fun z => nomatch z) fun tk => ⟨.bl b, H, I.kept (t' := tk) fun _ _ z => z, rfl, q⟩
/-! ### nm(a), to be raised -/
theorem pmk_e1 {K' : PySem.W.Frag} {C : Addr} {nm f : Str} {k : Nat} {p pos : Pos} {a : Expr} {ta : TA} (hk' : Sub K' X.K) (T : Er1 X.prog K' X.mg nm f C) (U : SupOk X.prog X.mg) (hr : Room k X.A) (hg : Gl X nm) (ha : PA X [a] ta) (hdb : (nm == ("__debug__" : Str)) = false := by decide)
    (he : starEach (a :: []) X.env = (false, eval a X.env) :: starEach [] X.env := by rfl) (hpl : (backTo pos (starEach [] X.env)).any (·.1) = false := by rfl) :
    PMk X (.Call (.Name nm p) [a] [] pos) (fun σ H Q => ta σ H fun vs H1 => ∃ v, vs = [v] ∧ ∀ d H2, H2 d = some (.xd [(f, v)]) → (∀ b o, H1 b = some o → H2 b = some o) → Q (.ref C) (some d) H2) := by
  intro pins s σ H Q I h
  obtain ⟨gC, fI, T1, hnf, O, q, p1, p2, a1, q1, q2, q3, q4, q5, r1, r2, r3, r4, hl, F⟩ := T
  refine wpAny_Call_Name_kw (ld_glob I hg gC ?_ hdb)
  refine PySem.W.callWith_K (h₀ := X.base) (hk'.inn I.ok.mod.kin) T1.kC (thn (ha.run pos pins s σ H _ I h) fun us s1 hh => ?_) he hpl
  obtain ⟨vs, H1, I1, rv, v, ev, q1⟩ := hh
  subst ev
  refine ⟨hk'.inn I1.kIn, ?_⟩
  cases rv with
  | cons ra rn =>
    rename_i v' us'
    cases rn
    show wpAny _ _ (call (.ref C) [v']) _ _ _
    refine wpAny_call (made (s := s1) T1 (hk'.inn I1.kIn) (by show 1 ≤ sizeLine; rw [sizeLine_eq]; decide) (mA := fun y => if y = f then some v' else none) (fun s2 x t0 R1 X2 k2 hx hnx h2 => ?_) fun h' tk e d M => ?_)
    · refine init1 T1 hnf O hl F X2 (nms1 I1 U k2) hx hnx ?_ (fun _ _ _ _ _ _ => .of_eq (bind1 O)) h2
      rw [make_depth]
      have := hr.dp
      omega
    · have ne := I1.hok.fresh M.new
      have nd := I1.hok.fresh M.dbig
      obtain ⟨t1, he⟩ := M.obj
      obtain ⟨hp, g, dr, tk1, os⟩ := s1
      have nde : d ≠ e := M.dne
      have ko : HOk X.prog X.w (upd (upd H1 d (exd d [(f, v)])) e (exo e C (some d))) h' := by
        intro b o q
        by_cases hb : b = e
        · subst hb
          rw [upd_same] at q
          cases q
          exact exo_ok he
        · rw [upd_ne hb] at q
          by_cases hd : b = d
          · subst hd
            rw [upd_same] at q
            cases q
            exact exd_ok M.ns (rel1 ra)
          · rw [upd_ne hd] at q
            refine (I1.hok b o q).stay (fun c v _ z => M.keep c v z) (fun c z => ?_) fun c xs z => ?_
            · rw [upd_ne (ne_of_none z ne), upd_ne (ne_of_none z nd)]; exact z
            · rw [upd_ne (ne_of_none z ne), upd_ne (ne_of_none z nd)]; exact z
      have rs : Raises X (.ref C) := fun M h Y => ⟨PySem.W.looks_subIn (hk'.inn Y) T1.exC, PySem.W.looks_typeIn (hk'.inn Y) T1.tyC⟩
      have same : ∀ {b : Addr} {o : HO}, upd H1 e (exo e C none) b = some o → b ≠ e → (upd (upd H1 d (exd d [(f, v)])) e (exo e C (some d))) b = some o := fun {b o} z hb => by
        rw [upd_ne hb] at z ⊢
        rw [upd_ne (ne_of_none z nd)]
        exact z
      refine mk_end (hp2 := hp) (H2 := upd (upd H1 d (exd d [(f, v)])) e (exo e C (some d))) rs I1 M.new (fun _ _ z => z) ?_ ko rfl I1.bare upd_same (by rw [upd_ne nde, upd_same]) nd (q1 d _ upd_same fun b o z => ?_)
      · refine ⟨fun b u q _ _ _ => M.keep b u q, fun b u q _ _ _ => ⟨u.slots, M.keep b u q⟩, fun b u q n _ => ?_, fun b u q _ => ⟨u, M.keep b u q⟩, fun b xs q => same q fun z => ?_, fun b u xs q => same q fun z => ?_, fun b ps q => ⟨#[], ?_⟩⟩
        · have hb : b ≠ e := Nat.ne_of_lt (Nat.lt_of_lt_of_le (Heap.lt_size q) M.new)
          have hd : b ≠ d := Nat.ne_of_lt (Nat.lt_of_lt_of_le (Heap.lt_size q) M.dbig)
          rw [upd_ne hb] at n ⊢
          rw [upd_ne hd]
          exact n
        · subst z
          rw [upd_same] at q
          exact exo_tup (Option.some.inj q)
        · subst z
          rw [upd_same] at q
          exact (nomatch (Option.some.inj q))
        · rw [same q fun z => ?_]
          · simp
          · subst z
            rw [upd_same] at q
            exact (nomatch (Option.some.inj q))
      · have hb : b ≠ e := ne_of_none z ne
        have hd : b ≠ d := ne_of_none z nd
        rw [upd_ne hd, del_ne hb, upd_ne hb, upd_ne hd]
        exact z
end
end L2
/-! ## K00A1 -/
set_option maxHeartbeats 4000000
namespace K00
open PySem PySem.Spec PyProof.Rows L2 PySem.HErr
abbrev sL_thing : Stmt := top 86
abbrev sLaw : Stmt := top 87
def spStream (K : PySem.W.Frag) : Sp := fun vs H Q _ => ∃ (p : Addr) (ns : List Int), vs = [.ref p] ∧ SqL K H p (ns.map V.int) ∧ ∀ a b H', Stm H' a b ns 0 0 19 → (∀ c o, H c = some o → H' c = some o) → H a = none → H b = none → Q (.ref a) H'
def spPick : Sp := fun vs H Q _ => ∃ (a b L : Addr) (cs : List Int) (c1 c2 c3 : Int) (xs : List V), vs = [.ref a, .ref L] ∧ Stm H a b cs c1 c2 c3 ∧ c2 < 1099511627776 ∧ H L = some (.lst xs) ∧ xs ≠ [] ∧ xs.length < 1152921504606846976 ∧ L ≠ a ∧ L ≠ b ∧
  ∀ x ∈ xs, ∀ (cs' : List Int) (c1' c3' : Int) (H' : Hp), Stm H' a b cs' c1' (c2 + 1) c3' → But H H' a b → Q x H'
def FlatT (v : V) : Prop := v = .non ∨ (∃ b, v = .bl b) ∨ (∃ i, v = .int i) ∨ ∃ s, v = .str s
def ObjT (o : HO) : Prop := (∃ xs, o = .lst xs ∧ xs.length ≤ 1) ∨ (∃ xs, o = .tup xs) ∨ (∃ kvs, o = .dK kvs ∧ kvs.length ≤ 1) ∨ ∃ k u, o = .dT [(k, u)]
/-- a thing that came new: B what stood ahead -/
def Thing (B H : Hp) (v : V) : Prop := FlatT v ∨ ∃ p o, v = .ref p ∧ B p = none ∧ H p = some o ∧ ObjT o
def spThing : Sp := fun vs H Q _ => ∃ (a b : Addr) (cs : List Int) (c1 c2 c3 : Int), vs = [.ref a] ∧ Stm H a b cs c1 c2 c3 ∧ c2 < 1073741824 ∧
  ∀ (v : V) (cs' : List Int) (c1' c2' c3' : Int) (H' : Hp), c2' ≤ c2 + 60 → Stm H' a b cs' c1' c2' c3' → But H H' a b → Thing H H' v → Q v H'
theorem atI_of {xs : List V} {d : Int} {v : V} (h0 : 0 ≤ d) (h1 : d < xs.length) (hv : xs[d.toNat]? = some v) : atI xs d = some v := by
  unfold atI ixN
  rw [if_pos h0, if_pos h1]
  exact hv
section
variable {P : Program} {w : World} {K : PySem.W.Frag} {mg : Str → Option Value} {base : Heap}
theorem scS : FnScope ["script"] ["script"] (defScope sL_stream) := ⟨rfl, rfl, rfl, by decide +kernel, rfl, by decide +kernel, by decide +kernel⟩
theorem scP : FnScope ["stream", "things"] ["stream", "things"] (defScope sL_pick) := ⟨rfl, rfl, rfl, by decide +kernel, rfl, by decide +kernel, by decide +kernel⟩
theorem scT : FnScope ["stream", "inner", "turn"] ["stream"] (defScope sL_thing) := ⟨rfl, rfl, rfl, by decide +kernel, rfl, by decide +kernel, by decide +kernel⟩
theorem ok_stream {f : Addr} {fd : FuncData} (F : FnP K "_law_stream" sL_stream f fd) (T : Nm mg) : FnOk P w K mg base CX0 1 f fd ["script"] (spStream K) := by
  refine F.ok scS (fun vs H Q E h => ?_) (fun cdv A outer s H vs Q E hr h => ?_)
  · obtain ⟨p, ns, rfl, _⟩ := h
    rfl
  · obtain ⟨p, ns, rfl, hS, k⟩ := h
    refine ⟨_, PSs.nox (pss_one (ps_ret (pe_lst (pa_cons (pe_callTy call_list_of (by rfl) T.list (by decide +kernel) (pa_cons (pv 0) pa_nil)) (pa_cons pe_int (pa_cons pe_int (pa_cons pe_int pa_nil))))))), ?_⟩
    refine ⟨_, rfl, p, _, rfl, Or.inl hS, fun b nb => ⟨by show 4 ≤ sizeLine; rw [sizeLine_eq]; decide, fun a na => ?_⟩⟩
    have hba : b ≠ a := fun z => by
      subst z
      rw [upd_same] at na
      cases na
    refine k a b _ ⟨upd_same, by rw [upd_ne hba, upd_same], Int.le_refl _, Int.le_refl _, by decide, by decide⟩ (fun c o z => ?_) ?_ nb
    · exact up na (up nb z)
    · rw [upd_ne (Ne.symm hba)] at na
      exact na
theorem ok_pick {f fD : Addr} {fd fdD : FuncData} (F : FnP K "_law_pick" sL_pick f fd) (FD : FnP K "_law_draw" sL_draw fD fdD) (gD : mg "_law_draw" = some (.ref fD)) (T : Nm mg) : FnOk P w K mg base CX0 2 f fd ["stream", "things"] spPick := by
  have GD : FnOk P w K mg base CX0 1 fD fdD ["stream", "many"] spDraw := ok_draw FD T
  have bD : Binds K fdD ["stream", "many"] [] := FD.bindsN fun _ _ _ _ _ _ us hl => match us, hl with | [_, _], _ => rfl
  refine F.ok scP (fun vs H Q E h => ?_) (fun cdv A outer s H vs Q E hr h => ?_)
  · obtain ⟨a, b, L, cs, c1, c2, c3, xs, rfl, _⟩ := h
    rfl
  · obtain ⟨a, b, L, cs, c1, c2, c3, xs, rfl, S, hc, hL, hne, hln, hLa, hLb, k⟩ := h
    refine ⟨_, PSs.nox (pss_one (ps_ret (pe_ix ix_list (pv 1) (pe_call GD hr rfl gD FD.kp bD .nil pass0 (pa_cons (pv 0) (pa_cons (pe_callB call_len (by rfl) T.len boot_len (pa_cons (pv 1) pa_nil)) pa_nil))) (fun _ _ => rfl)))), ?_⟩
    refine ⟨_, rfl, _, rfl, _, rfl, _, xs.length, rfl, Or.inl ⟨_, SqL.of hL, rfl⟩, a, b, cs, c1, c2, c3, xs.length, rfl, S, hc, ?_, ?_, fun d cs' c1' c3' H' h0 h1 S' B' => ?_⟩
    · cases xs with
      | nil => exact absurd rfl hne
      | cons x r =>
        show (1 : Int) ≤ ((r.length + 1 : Nat) : Int)
        omega
    · omega
    · have hd : d.toNat < xs.length := by omega
      have hx : xs[d.toNat]? = some xs[d.toNat] := List.getElem?_eq_getElem hd
      exact ⟨L, xs, d, _, rfl, rfl, SqL.of (B' L _ hL hLa hLb), atI_of h0 h1 hx, k _ (List.getElem_mem hd) cs' c1' c3' H' S' B'⟩
end
end K00
/-! ## K00A2 -/
set_option maxHeartbeats 4000000
namespace K00
open PySem PySem.Spec PyProof.Rows L2 PySem.HErr
def Kept (H H' : Hp) : Prop := ∀ b o, H b = some o → H' b = some o
theorem Kept.rfl' {H : Hp} : Kept H H := fun _ _ z => z
theorem Kept.trans {H H1 H2 : Hp} (k : Kept H H1) (k' : Kept H1 H2) : Kept H H2 := fun b o z => k' b o (k b o z)
theorem kept_new {H : Hp} {p : Addr} {o : HO} (n : H p = none) : Kept H (upd H p o) := fun _ _ z => up n z
theorem Kept.none {H H' : Hp} {p : Addr} (k : Kept H H') (n : H' p = none) : H p = none := by
  cases z : H p with
  | none => rfl
  | some o => rw [k _ _ z] at n; cases n
theorem Stm.up {H H' : Hp} {a b : Addr} {cs : List Int} {c1 c2 c3 : Int} (S : Stm H a b cs c1 c2 c3) (k : Kept H H') : Stm H' a b cs c1 c2 c3 := ⟨k _ _ S.h, k _ _ S.hb, S.n1, S.n2, S.n3, S.m3⟩
/-- a thing that a heap tells, kept by a draw -/
theorem thing_at {B H1 H' : Hp} {a b p : Addr} {o : HO} {cs : List Int} {c1 c2 c3 : Int} (kB : But B H1 a b) (S : Stm B a b cs c1 c2 c3) (n : B p = none) (h : H1 p = some o) (t : ObjT o) (k : But H1 H' a b) : Thing B H' (.ref p) :=
  .inr ⟨p, o, rfl, n, k p o h (fun z => by subst z; rw [S.h] at n; cases n) (fun z => by subst z; rw [S.hb] at n; cases n), t⟩
theorem But.trans {H H1 H2 : Hp} {a b : Addr} (k : But H H1 a b) (k' : But H1 H2 a b) : But H H2 a b := fun c o z h1 h2 => k' c o (k c o z h1 h2) h1 h2
theorem Kept.but {H H1 : Hp} {a b : Addr} (k : Kept H H1) : But H H1 a b := fun c o z _ _ => k c o z
theorem But.none {H H1 : Hp} {a b p : Addr} {cs : List Int} {c1 c2 c3 : Int} (k : But H H1 a b) (S : Stm H1 a b cs c1 c2 c3) (n : H1 p = none) : H p = none := by
  cases z : H p with
  | none => rfl
  | some o =>
    by_cases ha : p = a
    · subst ha; rw [S.h] at n; cases n
    · by_cases hb : p = b
      · subst hb; rw [S.hb] at n; cases n
      · rw [k p o z ha hb] at n; cases n
theorem kept_two {H : Hp} {p : Addr} {o o' : HO} (n : H p = none) : Kept H (upd (upd H p o) p o') := fun b x z => by
  have h := ne_of_none z n
  rw [upd_ne h, upd_ne h]
  exact z
theorem up2 {H : Hp} {p b : Addr} {o o' x : HO} (n : H p = none) (h : H b = some x) : upd (upd H p o) p o' b = some x := kept_two n b x h
theorem le3 (v u x : V) : [v, u, x].length ≤ sizeLine := by
  show 3 ≤ sizeLine
  decide
/-- between two turns -/
def TInv (H : Hp) (a b : Addr) (c2 : Int) (i : Nat) (σ : L2.St) (H2 : Hp) : Prop := ∃ (p : Addr) (o : HO) (v : Option V) (cs : List Int) (c1 c2' c3 : Int), σ = [some (.ref a), some (.ref p), v] ∧ Stm H2 a b cs c1 c2' c3 ∧ c2' ≤ c2 + 2 + i ∧ But H H2 a b ∧ H p = none ∧ H2 p = some o ∧ ObjT o
section
variable {P : Program} {w : World} {K : PySem.W.Frag} {mg : Str → Option Value} {base : Heap}
theorem ok_thing {f fD fP : Addr} {fd fdD fdP : FuncData} (F : FnP K "_law_some_thing" sL_thing f fd) (FD : FnP K "_law_draw" sL_draw fD fdD) (FP : FnP K "_law_pick" sL_pick fP fdP) (gD : mg "_law_draw" = some (.ref fD)) (gP : mg "_law_pick" = some (.ref fP)) (T : Nm mg) (U : SupOk P mg)
    (hN : Kn1 P K mg "NoPerson" "person") : FnOk P w K mg base CX0 3 f fd ["stream"] spThing := by
  have GD : FnOk P w K mg base CX0 1 fD fdD ["stream", "many"] spDraw := ok_draw FD T
  have bD : Binds K fdD ["stream", "many"] [] := FD.bindsN fun _ _ _ _ _ _ us hl => match us, hl with | [_, _], _ => rfl
  have GP : FnOk P w K mg base CX0 2 fP fdP ["stream", "things"] spPick := ok_pick FP FD gD T
  have bP : Binds K fdP ["stream", "things"] [] := FP.bindsN fun _ _ _ _ _ _ us hl => match us, hl with | [_, _], _ => rfl
  obtain ⟨K', C, hk, T1, _⟩ := hN
  refine F.ok scT (fun vs H Q E h => ?_) (fun cdv A outer s H vs Q E hr h => ?_)
  · obtain ⟨a, b, cs, c1, c2, c3, rfl, _⟩ := h
    rfl
  · obtain ⟨a, b, cs, c1, c2, c3, rfl, S, hc, k⟩ := h
    have hu := hr.units0
    refine ⟨_, PSs.nox (pss_cons (ps_set (i := 1) scT.nd rfl (Or.inl rfl) (pe_lst (pa_cons (pe_call GD (hr.mono (by decide)) rfl gD FD.kp bD .nil pass0 (pa_cons (pv 0) (pa_cons (pe_op op_pow pe_int pe_int) pa_nil))) pa_nil)))
      (pss_cons (ps_for PassesOwn.never rfl (pi_range1 (by rfl) T.range (pa_cons (pe_call GD (hr.mono (by decide)) rfl gD FD.kp bD .nil pass0 (pa_cons (pv 0) (pa_cons pe_int pa_nil))) pa_nil)) (pg_name (i := 2) scT.nd rfl (Or.inl rfl))
        (pss_one (ps_set (i := 1) scT.nd rfl (Or.inl rfl) (pe_call GP (hr.mono (by decide)) rfl gP FP.kp bP .nil pass0 (pa_cons (pv 0) (pa_cons (pe_lst (pa_cons (pe_lst (pa_cons (pv 1) pa_nil)) (pa_cons (pe_tup (pa_cons (pv 1) pa_nil)) (pa_cons (pe_disp (pps_cons pe_str (pv 1) pps_nil) rfl rfl (by simp) (by simp)) pa_nil)))) pa_nil))))))
      (pss_one (ps_ret (pe_call GP (hr.mono (by decide)) rfl gP FP.kp bP .nil pass0 (pa_cons (pv 0) (pa_cons (pe_lst
        (pa_cons (pv 1)
        (pa_cons (pe_lst (pa_cons (pe_op op_pow pe_int pe_int) pa_nil))
        (pa_cons (pe_un un_neg (pe_op op_pow pe_int pe_int))
        (pa_cons pe_dnewK
        (pa_cons (pe_lst pa_nil)
        (pa_cons pe_non
        (pa_cons pe_bl
        (pa_cons pe_str
        (pa_cons (pe_tup (pa_cons pe_str (pa_cons (pe_lst (pa_cons pe_str pa_nil)) pa_nil)))
        (pa_cons (pe_lst (pa_cons (pe_e1 hk T1 U hr rfl (pa_cons pe_str pa_nil)) pa_nil))
        (pa_cons (pe_dispT hu (pe_tup (pa_cons pe_str (pa_cons pe_str pa_nil))) (pe_lst (pa_cons pe_int pa_nil)))
        (pa_cons pe_str pa_nil))))))))))))) pa_nil))))))), ?_⟩
    -- inner = [draw]
    refine ⟨_, rfl, _, _, rfl, rfl, ⟨by decide, by decide, by decide⟩, a, b, cs, c1, c2, c3, _, rfl, S, by omega, by decide, by decide, fun d cs1 c11 c31 H1 _ _ S1 B1 => ⟨le1 _, fun p np => ?_⟩⟩
    have I0 : TInv H a b c2 0 [some (.ref a), some (.ref p), none] (upd H1 p (.lst [.int d])) := ⟨p, _, none, _, _, _, _, rfl, S1.up (kept_new np), by omega, B1.trans (kept_new np).but, B1.none S1 np, upd_same, .inl ⟨_, rfl, Nat.le_refl _⟩⟩
    have toA : ∀ {q : Addr}, H q = none → q ≠ a := fun n z => by subst z; rw [S.h] at n; cases n
    have toB : ∀ {q : Addr}, H q = none → q ≠ b := fun n z => by subst z; rw [S.hb] at n; cases n
    show tSeq _ _ _ [some (.ref a), some (.ref p), none] _
    have I1 := I0
    generalize hH : (upd H1 p (.lst [.int d])) = H1' at I0 I1 ⊢
    have S1' : Stm H1' a b cs1 c11 (c2 + 1) c31 := by rw [← hH]; exact S1.up (kept_new np)
    have B1' : But H H1' a b := by rw [← hH]; exact B1.trans (kept_new np).but
    have h1 : H1' p = some (.lst [.int d]) := by rw [← hH]; exact upd_same
    have np' : H p = none := B1.none S1 np
    clear I0 I1 hH
    refine ⟨_, rfl, a, b, cs1, c11, c2 + 1, c31, _, rfl, S1', by omega, by decide, by decide, fun m cs2 c12 c32 H2 hm0 hm1 S2 B2 => ⟨m, rfl, by omega, by omega, ?_⟩⟩
    refine for_range (TInv H a b c2) ⟨p, _, none, _, _, _, _, rfl, S2, by omega, B1'.trans B2, np', B2 p _ h1 (toA np') (toB np'), .inl ⟨_, rfl, Nat.le_refl _⟩⟩ ?_ ?_
    · rintro i σ H3 hi ⟨q, o, v, cs3, c13, c23, c33, rfl, S3, hc3, B3, nq, hq, tq⟩
      show tAsg _ _ _ [some (.ref a), some (.ref q), some (.int (0 + (i : Int)))] H3
      refine ⟨_, rfl, _, rfl, le1 _, fun p1 n1 => ⟨_, rfl, le1 _, fun p2 n2 => fun p3 n3 => ⟨_, rfl, upd_same, [(.inr "in", .ref q)], rfl, (by show 1 ≤ 15; decide), le3 _ _ _, fun L nL => ?_⟩⟩⟩
      have k1 := kept_new (o := .lst [.ref q]) n1
      have k2 := k1.trans (kept_new (o := .tup [.ref q]) n2)
      have k3 := k2.trans (kept_two (o := .dK []) (o' := .dK (mergeK [] [(.inr "in", .ref q)])) n3)
      have k4 := k3.trans (kept_new (o := .lst [.ref p1, .ref p2, .ref p3]) nL)
      have g1 : (upd (upd (upd (upd (upd H3 p1 (.lst [.ref q])) p2 (.tup [.ref q])) p3 (.dK [])) p3 (.dK (mergeK [] [(.inr "in", .ref q)]))) L (.lst [.ref p1, .ref p2, .ref p3])) p1 = some (.lst [.ref q]) := up nL (up2 n3 (up n2 upd_same))
      have g2 : (upd (upd (upd (upd (upd H3 p1 (.lst [.ref q])) p2 (.tup [.ref q])) p3 (.dK [])) p3 (.dK (mergeK [] [(.inr "in", .ref q)]))) L (.lst [.ref p1, .ref p2, .ref p3])) p2 = some (.tup [.ref q]) := up nL (up2 n3 upd_same)
      have g3 : (upd (upd (upd (upd (upd H3 p1 (.lst [.ref q])) p2 (.tup [.ref q])) p3 (.dK [])) p3 (.dK (mergeK [] [(.inr "in", .ref q)]))) L (.lst [.ref p1, .ref p2, .ref p3])) p3 = some (.dK (mergeK [] [(.inr "in", .ref q)])) := up nL upd_same
      have m1 := B3.none S3 n1
      have m2 := B3.none S3 (k1.none n2)
      have m3 := B3.none S3 (k2.none n3)
      have m4 := B3.none S3 (k3.none nL)
      refine ⟨a, b, L, cs3, c13, c23, c33, _, rfl, S3.up k4, by omega, upd_same, (by intro z; cases z), (by show 3 < 1152921504606846976; decide), toA m4, toB m4, fun x hx cs' c1' c3' H' S' B' => ?_⟩
      have fin : ∀ px ox, (upd (upd (upd (upd (upd H3 p1 (.lst [.ref q])) p2 (.tup [.ref q])) p3 (.dK [])) p3 (.dK (mergeK [] [(.inr "in", .ref q)]))) L (.lst [.ref p1, .ref p2, .ref p3])) px = some ox → H px = none → ObjT ox → TInv H a b c2 (i + 1) [some (.ref a), some (.ref px), some (.int (0 + (i : Int)))] H' := fun px ox e n t =>
        ⟨px, ox, _, cs', c1', _, c3', rfl, S', by push_cast; omega, B3.trans (k4.but.trans B'), n, B' px _ e (toA n) (toB n), t⟩
      simp only [List.mem_cons, List.mem_nil_iff, or_false] at hx
      rcases hx with rfl | rfl | rfl
      · exact fin p1 _ g1 m1 (.inl ⟨_, rfl, Nat.le_refl _⟩)
      · exact fin p2 _ g2 m2 (.inr (.inl ⟨_, rfl⟩))
      · exact fin p3 _ g3 m3 (.inr (.inr (.inl ⟨_, rfl, Nat.le_refl _⟩)))
    · rintro σ H3 ⟨q, o, v, cs3, c13, c23, c33, rfl, S3, hc3, B3, nq, hq, tq⟩
      have hc4 : c23 ≤ c2 + 50 := by omega
      clear hc3
      -- the heaps one by one: what is kept, what is new
      have mk : ∀ {G : Hp} {x : Addr}, Kept H3 G → G x = none → H x = none := fun kG n => B3.none S3 (kG.none n)
      refine ⟨_, rfl, _, rfl, _, _, rfl, rfl, ⟨by decide, by decide, by decide⟩, le1 _, fun p1 n1 => ?_⟩
      have K1 := kept_new (o := .lst [.int (10 ^ (50 : Int).toNat)]) n1
      have g1 : (upd H3 p1 (.lst [.int (10 ^ (50 : Int).toNat)])) p1 = some (.lst [.int (10 ^ (50 : Int).toNat)]) := upd_same
      replace n1 := mk Kept.rfl' n1
      generalize (upd H3 p1 (.lst [.int (10 ^ (50 : Int).toNat)])) = G1 at K1 g1 ⊢
      refine ⟨_, _, rfl, rfl, ⟨by decide, by decide, by decide⟩, _, rfl, fun p2 n2 => ?_⟩
      have K2 := K1.trans (kept_new (o := .dK []) n2)
      replace g1 := kept_new (o := .dK []) n2 _ _ g1
      have g2 : (upd G1 p2 (.dK [])) p2 = some (.dK []) := upd_same
      replace n2 := mk K1 n2
      generalize (upd G1 p2 (.dK [])) = G2 at K2 g1 g2 ⊢
      refine ⟨le0, fun p3 n3 => ?_⟩
      have kk := kept_new (o := .lst []) n3
      have K3 := K2.trans kk
      replace g1 := kk _ _ g1
      replace g2 := kk _ _ g2
      have g3 : (upd G2 p3 (.lst [])) p3 = some (.lst []) := upd_same
      replace n3 := mk K2 n3
      generalize (upd G2 p3 (.lst [])) = G3 at K3 g1 g2 g3 ⊢
      clear kk
      -- ('a', ['b'])
      refine ⟨le1 _, fun p4 n4 => ⟨le2 _ _, fun p5 n5 => ?_⟩⟩
      have kk := (kept_new (o := .lst [.str "b"]) n4).trans (kept_new (o := .tup [.str "a", .ref p4]) n5)
      have g4 : (upd (upd G3 p4 (.lst [.str "b"])) p5 (.tup [.str "a", .ref p4])) p5 = some (.tup [.str "a", .ref p4]) := upd_same
      replace n5 := mk (K3.trans (kept_new n4)) n5
      have K4 := K3.trans kk
      replace g1 := kk _ _ g1
      replace g2 := kk _ _ g2
      replace g3 := kk _ _ g3
      generalize (upd (upd G3 p4 (.lst [.str "b"])) p5 (.tup [.str "a", .ref p4])) = G4 at K4 g1 g2 g3 g4 ⊢
      clear kk n4
      -- [NoPerson('x')]
      refine ⟨_, rfl, fun e d ne nd nde => ⟨le1 _, fun p6 n6 => ?_⟩⟩
      have kk0 : Kept G4 (upd (upd G4 d (.xd [("person", .str "x")])) e (ErrO C d e)) := fun x o z => by rw [upd_ne (ne_of_none z ne), upd_ne (ne_of_none z nd)]; exact z
      have kk := kk0.trans (kept_new (o := .lst [.ref e]) n6)
      have g5 : (upd (upd (upd G4 d (.xd [("person", .str "x")])) e (ErrO C d e)) p6 (.lst [.ref e])) p6 = some (.lst [.ref e]) := upd_same
      replace n6 := mk (K4.trans kk0) n6
      have K5 := K4.trans kk
      replace g1 := kk _ _ g1
      replace g2 := kk _ _ g2
      replace g3 := kk _ _ g3
      replace g4 := kk _ _ g4
      generalize (upd (upd (upd G4 d (.xd [("person", .str "x")])) e (ErrO C d e)) p6 (.lst [.ref e])) = G5 at K5 g1 g2 g3 g4 g5 ⊢
      clear kk kk0 ne nd nde
      -- {('a', 'b'): [1]}
      refine fun p7 n7 => ⟨le2 _ _, fun p8 n8 => ⟨le1 _, fun p9 n9 => ⟨p8, [.inr "a", .inr "b"], rfl, up n9 upd_same, up n9 (up n8 upd_same), ?_⟩⟩⟩
      have kk : Kept G5 (upd (upd (upd (upd G5 p7 (.dT [])) p8 (.tup [.str "a", .str "b"])) p9 (.lst [.int 1])) p7 (.dT [([.inr "a", .inr "b"], .ref p9)])) := fun x o z => by
        rw [upd_ne (ne_of_none z n7)]
        exact up n9 (up n8 (up n7 z))
      have g6 : (upd (upd (upd (upd G5 p7 (.dT [])) p8 (.tup [.str "a", .str "b"])) p9 (.lst [.int 1])) p7 (.dT [([.inr "a", .inr "b"], .ref p9)])) p7 = some (.dT [([.inr "a", .inr "b"], .ref p9)]) := upd_same
      replace n7 := mk K5 n7
      have K6 := K5.trans kk
      replace g1 := kk _ _ g1
      replace g2 := kk _ _ g2
      replace g3 := kk _ _ g3
      replace g4 := kk _ _ g4
      replace g5 := kk _ _ g5
      generalize (upd (upd (upd (upd G5 p7 (.dT [])) p8 (.tup [.str "a", .str "b"])) p9 (.lst [.int 1])) p7 (.dT [([.inr "a", .inr "b"], .ref p9)])) = G6 at K6 g1 g2 g3 g4 g5 g6 ⊢
      clear kk n8 n9
      refine ⟨by show 12 ≤ sizeLine; rw [sizeLine_eq]; decide, fun L nL => ?_⟩
      have mL := mk K6 nL
      refine ⟨a, b, L, cs3, c13, c23, c33, _, rfl, (S3.up K6).up (kept_new nL), by omega, upd_same, (by intro z; cases z), (by show 12 < 1152921504606846976; decide), toA mL, toB mL, fun x hx cs' c1' c3' H' S' B' => k x cs' c1' _ c3' H' (by omega) S' (B3.trans (K6.but.trans ((kept_new nL).but.trans B'))) ?_⟩
      have fin : ∀ px ox, G6 px = some ox → H px = none → ObjT ox → Thing H H' (.ref px) := fun px ox e n t => .inr ⟨px, ox, rfl, n, B' px _ (kept_new nL _ _ e) (toA n) (toB n), t⟩
      simp only [List.mem_cons, List.mem_nil_iff, or_false] at hx
      rcases hx with rfl | rfl | rfl | rfl | rfl | rfl | rfl | rfl | rfl | rfl | rfl | rfl
      · exact fin q o (K6 _ _ hq) nq tq
      · exact fin p1 _ g1 n1 (.inl ⟨_, rfl, Nat.le_refl _⟩)
      · exact .inl (.inr (.inr (.inl ⟨_, rfl⟩)))
      · exact fin p2 _ g2 n2 (.inr (.inr (.inl ⟨_, rfl, Nat.zero_le _⟩)))
      · exact fin p3 _ g3 n3 (.inl ⟨_, rfl, Nat.zero_le _⟩)
      · exact .inl (.inl rfl)
      · exact .inl (.inr (.inl ⟨_, rfl⟩))
      · exact .inl (.inr (.inr (.inr ⟨_, rfl⟩)))
      · exact fin p5 _ g4 n5 (.inr (.inl ⟨_, rfl⟩))
      · exact fin p6 _ g5 n6 (.inl ⟨_, rfl, Nat.le_refl _⟩)
      · exact fin p7 _ g6 n7 (.inr (.inr (.inr ⟨_, _, rfl⟩)))
      · exact .inl (.inr (.inr (.inr ⟨_, rfl⟩)))
end
end K00
/-! ## K00A4 -/
set_option maxHeartbeats 4000000
namespace K00
open PySem PySem.Spec PyProof.Rows L2 PySem.HErr
/-! ### a thing is touched -/
def TOk (H : Hp) (v : V) : Prop := FlatT v ∨ ∃ p o, v = .ref p ∧ H p = some o ∧ ObjT o
/-- what may have changed -/
def Touched (H H' : Hp) (v : V) : Prop := H' = H ∨ ∃ p o, v = .ref p ∧ H p = some o ∧ ((∀ xs, o ≠ .tup xs) ∧ (∀ φ, o ≠ .ext φ) ∧ ∀ fs, o ≠ .xd fs) ∧ ∀ b, b ≠ p → H' b = H b
def tTouch (K : PySem.W.Frag) : TS := tSeq (tIfS (tB (tCB (rIsi K) (tCons (tVar 6) (tCons (tC (.ty "list")) tNil)))) (tDrop (tBM K "list" rAppend (tVar 6) (tCons (tVar 2) tNil))) tNext)
  (tIfS (tB (tCB (rIsi K) (tCons (tVar 6) (tCons (tC (.ty "dict")) tNil)))) (tAsg (tC (.str "later")) (gSub (tVar 6) (tVar 2) rSetT)) tNext)
theorem kf {K : PySem.W.Frag} {a b : String} {r : Bool} (h : kitB a b = some r) : PySem.W.kitOne K (.type a) (.type b) = some r := kit_ty h
theorem touch {K : PySem.W.Frag} {D : Ends} {σ : L2.St} {H : Hp} {v : V} {n : Int} (h6 : σ[6]? = some (some v)) (h2 : σ[2]? = some (some (.int n))) (t : TOk H v) (hq : ∀ H', Touched H H' v → D.nx σ H') : tTouch K D σ H := by
  have flat : ∀ ty, TyX K H v (.type ty) → kitB ty "list" = some false → kitB ty "dict" = some false → tTouch K D σ H := fun ty hty k1 k2 => by
    refine ⟨_, h6, v, .ty "list", _, _, false, rfl, .ty "list", hty, kf k1, false, rfl, iteF ?_⟩
    refine ⟨_, h6, v, .ty "dict", _, _, false, rfl, .ty "dict", hty, kf k2, false, rfl, iteF ?_⟩
    exact hq H (.inl rfl)
  rcases t with (rfl | ⟨b, rfl⟩ | ⟨i, rfl⟩ | ⟨s, rfl⟩) | ⟨p, o, rfl, hp, ho⟩
  · exact flat _ (.base .non) (by decide +kernel) (by decide +kernel)
  · exact flat _ (.base (.bl b)) (by decide +kernel) (by decide +kernel)
  · exact flat _ (.base (.int i)) (by decide +kernel) (by decide +kernel)
  · exact flat _ (.base (.str s)) (by decide +kernel) (by decide +kernel)
  · rcases ho with ⟨xs, rfl, hl⟩ | ⟨xs, rfl⟩ | ⟨kvs, rfl, hl⟩ | ⟨k, u, rfl⟩
    · refine ⟨_, h6, .ref p, .ty "list", _, _, true, rfl, .ty "list", .base (.lst hp), kf (by decide +kernel), true, rfl, iteT ?_⟩
      refine ⟨_, h6, .inl ⟨rfl, _, SqL.of hp⟩, _, h2, p, xs, _, rfl, rfl, hp, small1000 (by omega), ?_⟩
      refine ⟨_, h6, .ref p, .ty "dict", _, _, false, rfl, .ty "dict", .base (.lst upd_same), kf (by decide +kernel), false, rfl, iteF ?_⟩
      exact hq _ (.inr ⟨p, _, rfl, hp, ⟨fun _ z => (nomatch z), fun _ z => (nomatch z), fun _ z => (nomatch z)⟩, fun b hb => upd_ne hb⟩)
    · exact flat _ (.base (.tup hp)) (by decide +kernel) (by decide +kernel)
    · refine ⟨_, h6, .ref p, .ty "list", _, _, false, rfl, .ty "list", .base (.dK hp), kf (by decide +kernel), false, rfl, iteF ?_⟩
      refine ⟨_, h6, .ref p, .ty "dict", _, _, true, rfl, .ty "dict", .base (.dK hp), kf (by decide +kernel), true, rfl, iteT ?_⟩
      refine ⟨_, h6, _, h2, .inl ⟨p, kvs, n, rfl, rfl, hp, small1000 (by omega), ?_⟩⟩
      exact hq _ (.inr ⟨p, _, rfl, hp, ⟨fun _ z => (nomatch z), fun _ z => (nomatch z), fun _ z => (nomatch z)⟩, fun b hb => upd_ne hb⟩)
    · refine ⟨_, h6, .ref p, .ty "list", _, _, false, rfl, .ty "list", .base (.dT hp), kf (by decide +kernel), false, rfl, iteF ?_⟩
      refine ⟨_, h6, .ref p, .ty "dict", _, _, true, rfl, .ty "dict", .base (.dT hp), kf (by decide +kernel), true, rfl, iteT ?_⟩
      refine ⟨_, h6, _, h2, .inr ⟨p, k, u, n, rfl, rfl, hp, ?_⟩⟩
      exact hq _ (.inr ⟨p, _, rfl, hp, ⟨fun _ z => (nomatch z), fun _ z => (nomatch z), fun _ z => (nomatch z)⟩, fun b hb => upd_ne hb⟩)
/-! ### [some is c for some in xs] -/
def tCmpL (K : PySem.W.Frag) (i : Nat) (r : R2) (c : V) : TE := tLc (iList K (tVar i)) (gName 11) tYes (tOp r (tVar 11) (tC c)) [11]
theorem cmpL {K : PySem.W.Frag} {i : Nat} {r : R2} {c : V} {σ : L2.St} {H : Hp} {Q : VK} {a : Addr} {xs : List V} (hσ : σ.length = 12) (hi : σ[i]? = some (some (.ref a))) (ha : H a = some (.lst xs)) (hl : xs.length ≤ 100) (g : V → Bool) (hr : ∀ x H Q, Q (.bl (g x)) H → r x c H Q)
    (hq : ∀ D, H D = none → Q (.ref D) (upd H D (.lst (xs.map fun x => .bl (g x))))) : tCmpL K i r c σ H Q := by
  refine ⟨_, hi, a, rfl, ⟨_, SqL.of ha⟩, fun D nD => ?_⟩
  refine lc_list (K := K) (a := a) (xs := xs) (Pv := fun j H' => H' = upd H D (.lst ((xs.take j).map fun x => .bl (g x)))) rfl ?_ ?_ ?_
  · rintro j H' _ rfl
    refine SqL.of ?_
    rw [upd_ne (ne_of_none ha nD)]
    exact ha
  · rintro j x H' hx rfl
    have hj : j < xs.length := (List.getElem?_eq_some_iff.mp hx).1
    refine ⟨?_, ?_⟩
    · show ((σ.set 11 none).set 11 (some x)).set 11 none = σ.set 11 none
      rw [List.set_set, List.set_set]
    · show tOp r (tVar 11) (tC c) ((σ.set 11 none).set 11 (some x)) (upd H D (.lst ((xs.take j).map fun x => .bl (g x)))) _
      refine ⟨x, ?_, hr _ _ _ ⟨_, upd_same, ?_, ?_⟩⟩
      · show ((σ.set 11 none).set 11 (some x))[11]? = _
        rw [List.set_set]
        exact List.getElem?_set_self (by omega)
      · refine small1000 ?_
        rw [List.length_map, List.length_take]
        omega
      · have e : upd (upd H D (.lst ((xs.take j).map fun x => V.bl (g x)))) D (.lst ((xs.take j).map (fun x => V.bl (g x)) ++ [.bl (g x)])) = upd H D (.lst ((xs.take (j + 1)).map fun x => .bl (g x))) := by
          rw [List.take_succ, hx]
          simp only [Option.toList, List.map_append, List.map_cons, List.map_nil]
          funext b
          by_cases hb : b = D
          · subst hb; rw [upd_same, upd_same]
          · rw [upd_ne hb, upd_ne hb, upd_ne hb]
        exact e
  · rintro H' rfl
    rw [List.take_length]
    exact hq D nD
/-! ### one item is looked at -/
def tCheck (K : PySem.W.Frag) : TS := tSeq (tAsg (tSl (rSlL K) (tLst (tCons (tVar 3) (tCons (tVar 4) tNil))) tNoPart (tPart (tCB (rLen K) (tCons (tVar 8) tNil)))) (gName 9))
  (tSeq (tIfS (tOr (tNot (tB (tCB (rIsX K) (tCons (tVar 7) (tCons (tC (.ref 24)) tNil))))) (tOr (tNot (tB (tCB (rIsX K) (tCons (tVar 7) (tCons (tC (.ty "ValueError")) tNil))))) (tTest (tOp (rNeSame K) (tVar 8) (tVar 9))))) (tRet (tC (.bl false))) tNext)
    (tIfS (tOr (tTest (tOp (rNeSame K) (tCmpL K 8 (fun x y H Q => y = .non ∧ Q (.bl (decide (x = .non))) H) .non) (tCmpL K 9 (fun x y H Q => y = .non ∧ Q (.bl (decide (x = .non))) H) .non))) (tTest (tOp (rNeSame K) (tCmpL K 8 (fun x y H Q => ∃ b, y = .bl b ∧ Q (.bl (isBl x b)) H) (.bl false)) (tCmpL K 9 (fun x y H Q => ∃ b, y = .bl b ∧ Q (.bl (isBl x b)) H) (.bl false))))) (tRet (tC (.bl false))) tNext))
theorem same_flat {xs : List V} {g : V → Bool} : ∀ v ∈ xs.map (fun x => V.bl (g x)), flatB v = true ∨ ∃ c, v = .ref c := fun v h => by
  obtain ⟨x, _, rfl⟩ := List.mem_map.mp h
  exact .inl rfl
theorem check {K : PySem.W.Frag} {D : Ends} {H : Hp} {one other v0 v1 v2 v5 v6 v9 v10 v11 : _} {e kl C d : Addr} {fs : List (Str × V)} {vals : List V} (he : H e = some (ErrO C d e)) (hd : H d = some (.xd fs)) (kn : KnI K C) (hk : H kl = some (.lst vals)) (hv : vals = [one] ∨ vals = [one, other])
    (f1 : flatB one = true ∨ ∃ c, one = .ref c) (f2 : flatB other = true ∨ ∃ c, other = .ref c)
    (hq : ∀ w9 H', Kept H H' → D.nx [v0, v1, v2, some one, some other, v5, v6, some (.ref e), some (.ref kl), some w9, v10, v11] H') :
    tCheck K D [v0, v1, v2, some one, some other, v5, v6, some (.ref e), some (.ref kl), v9, v10, v11] H := by
  obtain ⟨K', fI, hs, T1, ic⟩ := kn
  have fv : ∀ v ∈ vals, flatB v = true ∨ ∃ c, v = .ref c := fun v h => by
    rcases hv with rfl | rfl
    · simp only [List.mem_cons, List.mem_nil_iff, or_false] at h
      rw [h]; exact f1
    · simp only [List.mem_cons, List.mem_nil_iff, or_false] at h
      rcases h with rfl | rfl
      · exact f1
      · exact f2
  have hc : cutV [one, other] none (some ((vals.length : Nat) : Int)) = vals := by
    rcases hv with rfl | rfl <;> rfl
  have hl : vals.length ≤ 100 := by
    rcases hv with rfl | rfl <;> simp
  refine ⟨_, rfl, _, rfl, le2 _ _, fun p1 n1 => ?_⟩
  refine ⟨_, rfl, _, vals.length, rfl, Or.inl ⟨_, SqL.of (up n1 hk), rfl⟩, _, rfl, p1, _, rfl, SqL.of upd_same, fun p2 n2 => ?_⟩
  rw [hc]
  have k1 : Kept H (upd (upd H p1 (.lst [one, other])) p2 (.lst vals)) := (kept_new n1).trans (kept_new n2)
  have g2 : (upd (upd H p1 (.lst [one, other])) p2 (.lst vals)) p2 = some (.lst vals) := upd_same
  generalize (upd (upd H p1 (.lst [one, other])) p2 (.lst vals)) = H1 at k1 g2 ⊢
  show tSeq _ _ D [v0, v1, v2, some one, some other, v5, v6, some (.ref e), some (.ref kl), some (.ref p2), v10, v11] H1
  refine ⟨_, rfl, K', e, C, d, fs, .ref 24, .ref 24, true, rfl, k1 _ _ he, k1 _ _ hd, hs, ic.ex, fun u r => r, ic.he, true, rfl, iteF ?_⟩
  refine ⟨_, rfl, K', e, C, d, fs, .ty "ValueError", .type "ValueError", true, rfl, k1 _ _ he, k1 _ _ hd, hs, ic.ex, fun u r => r, ic.ve, true, rfl, iteF ?_⟩
  refine ⟨_, rfl, _, rfl, kl, p2, vals, rfl, rfl, SqL.of (k1 _ _ hk), SqL.of g2, fv, false, rfl, iteF ?_⟩
  delta tNext
  dsimp only
  delta tIfS tOr tTest tOp
  dsimp only
  refine cmpL rfl rfl (k1 _ _ hk) hl (fun x => decide (x = .non)) (fun _ _ _ q => ⟨rfl, q⟩) fun D1 nD1 => ?_
  refine cmpL rfl rfl (up nD1 g2) hl (fun x => decide (x = .non)) (fun _ _ _ q => ⟨rfl, q⟩) fun D2 nD2 => ?_
  refine ⟨D1, D2, _, rfl, rfl, SqL.of (up nD2 upd_same), SqL.of upd_same, same_flat, false, rfl, iteF ?_⟩
  have k2 := (kept_new (o := .lst (vals.map fun x => .bl (decide (x = .non)))) nD1).trans (kept_new (o := .lst (vals.map fun x => .bl (decide (x = .non)))) nD2)
  generalize (upd (upd H1 D1 (.lst (vals.map fun x => .bl (decide (x = .non))))) D2 (.lst (vals.map fun x => .bl (decide (x = .non))))) = H2 at k2 ⊢
  refine cmpL rfl rfl (k2 _ _ (k1 _ _ hk)) hl (fun x => isBl x false) (fun _ _ _ q => ⟨false, rfl, q⟩) fun D3 nD3 => ?_
  refine cmpL rfl rfl (up nD3 (k2 _ _ g2)) hl (fun x => isBl x false) (fun _ _ _ q => ⟨false, rfl, q⟩) fun D4 nD4 => ?_
  refine ⟨D3, D4, _, rfl, rfl, SqL.of (up nD4 upd_same), SqL.of upd_same, same_flat, false, rfl, iteF ?_⟩
  exact hq _ _ (k1.trans (k2.trans ((kept_new nD3).trans (kept_new nD4))))
end K00
/-! ## K00A5 -/
set_option maxHeartbeats 4000000
namespace K00
open PySem PySem.Spec PyProof.Rows L2 PySem.HErr
theorem Item.kept {K : PySem.W.Frag} {B H H' : Hp} {one other x : V} (h : Item K B H one other x) (k : Kept H H') : Item K B H' one other x := by
  obtain ⟨t, e, kl, C, d, fs, vals, rfl, ht, he, hd, kn, hl, hb, hv⟩ := h
  exact ⟨t, e, kl, C, d, fs, vals, rfl, k _ _ ht, k _ _ he, k _ _ hd, kn, k _ _ hl, hb, hv⟩
def tErr (K : PySem.W.Frag) (n : Nat) : TE := tCall (spErr K n) [] E0 (tCons (tVar 3) (tCons (tVar 4) tNil))
def tTold (K : PySem.W.Frag) : TE := tOp rCat (tOp rCat (tOp rCat (tErr K 48) (tErr K 24)) (tErr K 48)) (tErr K 30)
theorem errs {K : PySem.W.Frag} {n : Nat} {σ : L2.St} {H : Hp} {Q : VK} {one other : V} (h3 : σ[3]? = some (some one)) (h4 : σ[4]? = some (some other))
    (hq : ∀ L xs H', Kept H H' → H L = none → H' L = some (.lst xs) → xs.length = n → (∀ x ∈ xs, Item K H H' one other x) → Q (.ref L) H') : tErr K n σ H Q :=
  ⟨_, h3, _, h4, one, other, rfl, fun m xs H' k n g l i => hq m xs H' k n g l i⟩
theorem told {K : PySem.W.Frag} {σ : L2.St} {H : Hp} {Q : VK} {one other : V} (h3 : σ[3]? = some (some one)) (h4 : σ[4]? = some (some other))
    (hq : ∀ L xs H', Kept H H' → H L = none → H' L = some (.lst xs) → xs.length = 150 → (∀ x ∈ xs, Item K H H' one other x) → Q (.ref L) H') : tTold K σ H Q := by
  refine errs h3 h4 fun m1 xs1 H1 k1 n1 g1 l1 i1 => errs h3 h4 fun m2 xs2 H2 k2 n2 g2 l2 i2 => ?_
  refine ⟨m1, m2, xs1, xs2, rfl, rfl, k2 _ _ g1, g2, Nat.le_of_lt (small1000 (by omega)), fun p1 np1 => ?_⟩
  have K2 := k1.trans k2
  have K3 : Kept H (upd H2 p1 (.lst (xs1 ++ xs2))) := K2.trans (kept_new np1)
  have a1 : ∀ x ∈ xs1 ++ xs2, Item K H (upd H2 p1 (.lst (xs1 ++ xs2))) one other x := fun x hx => by
    rcases List.mem_append.mp hx with h | h
    · exact (i1 x h).kept (k2.trans (kept_new np1))
    · exact ((i2 x h).less k1).kept (kept_new np1)
  have e1 : (upd H2 p1 (.lst (xs1 ++ xs2))) p1 = some (.lst (xs1 ++ xs2)) := upd_same
  have ln1 : (xs1 ++ xs2).length = 72 := by rw [List.length_append]; omega
  generalize xs1 ++ xs2 = ys at K3 a1 e1 ln1 ⊢
  generalize (upd H2 p1 (.lst ys)) = H3 at K3 a1 e1 ⊢
  refine errs h3 h4 fun m3 xs3 H4 k3 n3 g3 l3 i3 => ?_
  refine ⟨p1, m3, ys, xs3, rfl, rfl, k3 _ _ e1, g3, Nat.le_of_lt (small1000 (by omega)), fun p2 np2 => ?_⟩
  have K4 : Kept H (upd H4 p2 (.lst (ys ++ xs3))) := K3.trans (k3.trans (kept_new np2))
  have a2 : ∀ x ∈ ys ++ xs3, Item K H (upd H4 p2 (.lst (ys ++ xs3))) one other x := fun x hx => by
    rcases List.mem_append.mp hx with h | h
    · exact (a1 x h).kept (k3.trans (kept_new np2))
    · exact ((i3 x h).less K3).kept (kept_new np2)
  have e2 : (upd H4 p2 (.lst (ys ++ xs3))) p2 = some (.lst (ys ++ xs3)) := upd_same
  have ln2 : (ys ++ xs3).length = 120 := by rw [List.length_append]; omega
  generalize ys ++ xs3 = zs at K4 a2 e2 ln2 ⊢
  generalize (upd H4 p2 (.lst zs)) = H5 at K4 a2 e2 ⊢
  refine errs h3 h4 fun m4 xs4 H6 k4 n4 g4 l4 i4 => ?_
  refine ⟨p2, m4, zs, xs4, rfl, rfl, k4 _ _ e2, g4, Nat.le_of_lt (small1000 (by omega)), fun p3 np3 => ?_⟩
  refine hq p3 _ _ (K4.trans (k4.trans (kept_new np3))) ((K4.trans k4).none np3) upd_same (by rw [List.length_append]; omega) fun x hx => ?_
  rcases List.mem_append.mp hx with h | h
  · exact (a2 x h).kept (k4.trans (kept_new np3))
  · exact ((i4 x h).less K4).kept (kept_new np3)
/-- what holds while the things are touched; B: where both things stood -/
structure TW (K : PySem.W.Frag) (B : Hp) (one other : V) (a b L tt : Addr) (xs : List V) (H : Hp) : Prop where
  stm : ∃ cs c1 c3, ∃ c2 : Int, c2 ≤ 600 ∧ Stm H a b cs c1 c2 c3
  hL : H L = some (.lst xs)
  it : ∀ x ∈ xs, Item K B H one other x
/-- a thing of B, apart from the stream -/
def Apart (B : Hp) (a b : Addr) (v : V) : Prop := ∀ p, v = .ref p → (∃ o, B p = some o) ∧ p ≠ a ∧ p ≠ b
def tThings (K : PySem.W.Frag) : TS := tFor (iTup K (tTup (tCons (tVar 3) (tCons (tVar 4) tNil)))) (gName 6) (tTouch K)
theorem TOk.to {B H : Hp} {v : V} (t : TOk B v) (k : ∀ p o, v = .ref p → B p = some o → H p = some o) : TOk H v := by
  rcases t with f | ⟨p, o, rfl, h, t⟩
  · exact .inl f
  · exact .inr ⟨p, o, rfl, k p o rfl h, t⟩
theorem things {K : PySem.W.Frag} {D : Ends} {B H : Hp} {one other : V} {v0 v6 v7 v8 v9 v10 v11 : Option V} {a b L : Addr} {n c2 : Int} {xs : List V} {cs : List Int} {c1 c3 : Int} (kB : Kept B H) (S : Stm H a b cs c1 c2 c3) (hL : H L = some (.lst xs)) (nL : B L = none) (it : ∀ x ∈ xs, Item K B H one other x)
    (t1 : TOk B one) (t2 : TOk B other) (p1 : Apart B a b one) (p2 : Apart B a b other) (ne : ∀ p, one = .ref p → other ≠ .ref p)
    (hq : ∀ w6 H', Stm H' a b cs c1 c2 c3 → H' L = some (.lst xs) → (∀ x ∈ xs, Item K B H' one other x) → D.nx [v0, some (.ref a), some (.int n), some one, some other, some (.ref L), some w6, v7, v8, v9, v10, v11] H') :
    tThings K D [v0, some (.ref a), some (.int n), some one, some other, some (.ref L), v6, v7, v8, v9, v10, v11] H := by
  refine ⟨_, rfl, _, rfl, le2 _ _, fun tt ntt => ⟨tt, rfl, ⟨_, SqT.of upd_same⟩, ?_⟩⟩
  have k1 := kept_new (o := .tup [one, other]) ntt
  -- one touch
  have step : ∀ {H1 H2 : Hp} {v : V}, Apart B a b v → Touched H1 H2 v → Stm H1 a b cs c1 c2 c3 → H1 L = some (.lst xs) → (∀ x ∈ xs, Item K B H1 one other x) → H1 tt = some (.tup [one, other]) →
      Stm H2 a b cs c1 c2 c3 ∧ H2 L = some (.lst xs) ∧ (∀ x ∈ xs, Item K B H2 one other x) ∧ H2 tt = some (.tup [one, other]) := by
    intro H1 H2 v ap tc S1 hL1 it1 ht1
    rcases tc with rfl | ⟨p, o, rfl, hp, hno, hk⟩
    · exact ⟨S1, hL1, it1, ht1⟩
    · obtain ⟨⟨o', ho'⟩, na, nb⟩ := ap p rfl
      have pL : L ≠ p := fun z => by subst z; rw [ho'] at nL; cases nL
      have pt : tt ≠ p := fun z => by subst z; rw [kB _ _ ho'] at ntt; cases ntt
      refine ⟨⟨(hk a (Ne.symm na)).trans S1.h, (hk b (Ne.symm nb)).trans S1.hb, S1.n1, S1.n2, S1.n3, S1.m3⟩, (hk L pL).trans hL1, fun x hx => ?_, (hk tt pt).trans ht1⟩
      refine (it1 x hx).mono (m := p) (fun c q z hc => (hk c hc).trans z) ho' fun q z => ?_
      rw [hp] at z
      cases z
      exact hno
  refine for_tup (K := K) (a := tt) (xs := [one, other]) (fun j σ H' => ∃ w6, σ = [v0, some (.ref a), some (.int n), some one, some other, some (.ref L), w6, v7, v8, v9, v10, v11] ∧ (0 < j → ∃ w, w6 = some w) ∧ Stm H' a b cs c1 c2 c3 ∧ H' L = some (.lst xs) ∧ (∀ x ∈ xs, Item K B H' one other x) ∧ H' tt = some (.tup [one, other]) ∧ (j = 0 → TOk H' one ∧ TOk H' other) ∧ (j = 1 → TOk H' other))
    ⟨v6, rfl, fun z => absurd z (Nat.lt_irrefl 0), S.up k1, k1 _ _ hL, fun x hx => (it x hx).kept k1, upd_same, fun _ => ⟨t1.to fun p o _ z => k1 _ _ (kB _ _ z), t2.to fun p o _ z => k1 _ _ (kB _ _ z)⟩, fun z => absurd z (by decide)⟩ ?_ ?_ ?_
  · rintro j σ H' _ ⟨w6, _, _, _, _, _, h, _⟩
    exact SqT.of h
  · rintro j x σ H' hx ⟨w6, rfl, _, S', hL', it', ht', z0, z1⟩
    show tTouch K _ [v0, some (.ref a), some (.int n), some one, some other, some (.ref L), some x, v7, v8, v9, v10, v11] H'
    match j, hx with
    | 0, hx =>
      cases hx
      obtain ⟨o1, o2⟩ := z0 rfl
      refine touch rfl rfl o1 fun H2 tc => ?_
      obtain ⟨r1, r2, r3, r4⟩ := step p1 tc S' hL' it' ht'
      refine ⟨_, rfl, fun _ => ⟨_, rfl⟩, r1, r2, r3, r4, fun z => absurd z (by decide), fun _ => o2.to fun p o e z => ?_⟩
      rcases tc with rfl | ⟨q, o', e', hp, _, hk⟩
      · exact z
      · exact (hk p fun y => ne q e' (by rw [e, y])).trans z
    | 1, hx =>
      cases hx
      refine touch rfl rfl (z1 rfl) fun H2 tc => ?_
      obtain ⟨r1, r2, r3, r4⟩ := step p2 tc S' hL' it' ht'
      exact ⟨_, rfl, fun _ => ⟨_, rfl⟩, r1, r2, r3, r4, fun z => absurd z (by decide), fun z => absurd z (by decide)⟩
    | j + 2, hx => exact absurd hx (by simp)
  · rintro σ H' ⟨w6, rfl, hw, S', hL', it', _⟩
    obtain ⟨w, rfl⟩ := hw (by show 0 < 2; decide)
    exact hq w H' S' hL' it'
def tItems (K : PySem.W.Frag) : TS := tFor (iList K (tVar 5)) (gTup K 2 (gCons (gName 7) (gCons (gName 8) gNil))) (tCheck K)
theorem items {K : PySem.W.Frag} {D : Ends} {B H : Hp} {one other : V} {v0 v2 v6 v7 v8 v9 v10 v11 : Option V} {a b L : Addr} {c2 : Int} {xs : List V} {cs : List Int} {c1 c3 : Int} (S : Stm H a b cs c1 c2 c3) (hL : H L = some (.lst xs)) (it : ∀ x ∈ xs, Item K B H one other x)
    (f1 : flatB one = true ∨ ∃ c, one = .ref c) (f2 : flatB other = true ∨ ∃ c, other = .ref c)
    (hq : ∀ w7 w8 w9 H', Stm H' a b cs c1 c2 c3 → H' L = some (.lst xs) → D.nx [v0, some (.ref a), v2, some one, some other, some (.ref L), v6, w7, w8, w9, v10, v11] H') :
    tItems K D [v0, some (.ref a), v2, some one, some other, some (.ref L), v6, v7, v8, v9, v10, v11] H := by
  refine ⟨_, rfl, L, rfl, ⟨_, SqL.of hL⟩, ?_⟩
  refine for_list (K := K) (a := L) (xs := xs) (fun j σ H' => ∃ w7 w8 w9, σ = [v0, some (.ref a), v2, some one, some other, some (.ref L), v6, w7, w8, w9, v10, v11] ∧ Stm H' a b cs c1 c2 c3 ∧ H' L = some (.lst xs) ∧ (∀ x ∈ xs, Item K B H' one other x)) ⟨_, _, _, rfl, S, hL, it⟩ ?_ ?_ ?_
  · rintro j σ H' _ ⟨_, _, _, _, _, h, _⟩
    exact SqL.of h
  · rintro j x σ H' hx ⟨w7, w8, w9, rfl, S', hL', it'⟩
    obtain ⟨t, e, kl, C, d, fs, vals, rfl, ht, he, hd, kn, hl, hb, hv⟩ := it' x (List.mem_of_getElem? hx)
    refine ⟨t, _, rfl, SqT.of ht, rfl, _, _, rfl, _, _, rfl, rfl, ?_⟩
    exact check he hd kn hl hv f1 f2 fun w9' H2 kH => ⟨_, _, _, rfl, S'.up kH, kH _ _ hL', fun x hx => (it' x hx).kept kH⟩
  · rintro σ H' ⟨w7, w8, w9, rfl, S', hL', _⟩
    exact hq w7 w8 w9 H' S' hL'
def tE0 : TE := fun σ H Q => ∀ a, H a = none → Q (.ref a) (upd H a (ExO (.ref 24) a))
def tLast (K : PySem.W.Frag) : TS := tIfS (tOr (tTest (tOp rNe (tCB (rLen K) (tCons (tVar 5) tNil)) (tC (.int 150)))) (tNot (tB (tCB (rIs0 K) (tCons tE0 (tCons (tC (.ty "ValueError")) tNil)))))) (tRet (tC (.bl false))) tNext
theorem last {K K0 : PySem.W.Frag} {D : Ends} {H : Hp} {σ : L2.St} {L : Addr} {xs : List V} (hk0 : L2.Sub K0 K) (ex0 : ExcC K0 24) (ve0 : PySem.W.kitOne K0 (.ref 24) (.type "ValueError") = some true) (h5 : σ[5]? = some (some (.ref L))) (hL : H L = some (.lst xs)) (hl : xs.length = 150)
    (hq : ∀ H', Kept H H' → D.nx σ H') : tLast K D σ H := by
  refine ⟨_, h5, _, xs.length, rfl, Or.inl ⟨_, SqL.of hL, rfl⟩, rfl, _, rfl, iteNS (by rw [hl]; rfl) ?_⟩
  intro a na
  exact ⟨K0, a, 24, .ty "ValueError", .type "ValueError", true, rfl, upd_same, hk0, ex0, fun u r => r, ve0, true, rfl, iteF (hq _ (kept_new na))⟩
end K00
/-! ## K00A3 -/
set_option maxHeartbeats 4000000
namespace K00
open PySem PySem.Spec PyProof.Rows L2 PySem.HErr
abbrev veB : List Value := [.type "ValueError", .type "Exception", .type "BaseException", .type "object"]
structure Nm2 (mg : Str → Option Value) : Prop where
  isi : mg "isinstance" = none
  dict : mg "dict" = none
  ve : mg "ValueError" = none
/-- of HeardError (at 24), NoCount, BadDeed -/
structure Hd (P : Program) (K : PySem.W.Frag) (mg : Str → Option Value) : Prop where
  gH : mg "HeardError" = some (.ref 24)
  base : ∃ K', L2.Sub K' K ∧ PySem.W.excIn K' 24 veB "ValueError.__new__" = true ∧ PySem.W.keepIn K' (.ref 24) = true ∧ ExcC K' 24 ∧ PySem.W.kitOne K' (.ref 24) (.type "ValueError") = some true
  noc : ∃ K1 K' C1 C2, L2.Sub K1 K ∧ Er1 P K1 mg "NoCount" "number" C1 ∧ L2.Sub K' K ∧ ExcC K' C1 ∧ mg "BadDeed" = some (.ref C2) ∧ PySem.W.kitOne K' (.ref C1) (.ref C1) = some true ∧ PySem.W.kitOne K' (.ref C1) (.ref C2) = some false ∧ PySem.W.exmOne K (.ref C1) (.ref 24) = some true
section
variable {P : Program} {w : World} {K : PySem.W.Frag} {mg : Str → Option Value} {base : Heap}
abbrev NL : List Str := ["script", "stream", "turn", "one", "other", "told", "thing", "made", "kept", "due", "error", "some"]
theorem scL : FnScope NL ["script"] (defScope sLaw) := ⟨rfl, rfl, rfl, by decide +kernel, rfl, by decide +kernel, by decide +kernel⟩
def spLaw (K : PySem.W.Frag) : Sp := fun vs H Q _ => ∃ (p : Addr) (ns : List Int), vs = [.ref p] ∧ SqL K H p (ns.map V.int) ∧ ∀ H', Q (.bl true) H'
theorem Stm.off {H : Hp} {a b : Addr} {cs : List Int} {c1 c2 c3 : Int} (S : Stm H a b cs c1 c2 c3) {q : Addr} (n : H q = none) : q ≠ a ∧ q ≠ b := by
  constructor
  · intro z
    subst z
    rw [S.h] at n
    cases n
  · intro z
    subst z
    rw [S.hb] at n
    cases n
/-- between two turns -/
def LInv (a b : Addr) (i : Nat) (σ : L2.St) (H : Hp) : Prop := ∃ (u v2 v3 v4 v5 v6 v7 v8 v9 v10 v11 : Option V) (cs : List Int) (c1 c2 c3 : Int), σ = [u, some (.ref a), v2, v3, v4, v5, v6, v7, v8, v9, v10, v11] ∧ Stm H a b cs c1 c2 c3 ∧ c2 ≤ 120 * i
theorem ok_law {f fS fT fEa fEb fRa fRb : Addr} {fd fdS fdT fdEa fdEb fdRa fdRb : FuncData} (F : FnP K "law" sLaw f fd) (FS : FnP K "_law_stream" sL_stream fS fdS) (FT : FnP K "_law_some_thing" sL_thing fT fdT)
    (FEa : FnP K "_law_errors_a" sL_ea fEa fdEa) (FEb : FnP K "_law_errors_b" sL_eb fEb fdEb) (FRa : FnP K "_law_refusals_a" sL_ra fRa fdRa) (FRb : FnP K "_law_refusals_b" sL_rb fRb fdRb)
    (GS : FnOk P w K mg base CX0 1 fS fdS ["script"] (spStream K)) (GT : FnOk P w K mg base CX0 3 fT fdT ["stream"] spThing)
    (GEa : FnOk P w K mg base CX0 1 fEa fdEa ["one", "other"] (spErr K 48)) (GEb : FnOk P w K mg base CX0 1 fEb fdEb ["one", "other"] (spErr K 24)) (GRa : FnOk P w K mg base CX0 1 fRa fdRa ["one", "other"] (spErr K 48)) (GRb : FnOk P w K mg base CX0 1 fRb fdRb ["one", "other"] (spErr K 30))
    (gS : mg "_law_stream" = some (.ref fS)) (gT : mg "_law_some_thing" = some (.ref fT)) (gEa : mg "_law_errors_a" = some (.ref fEa)) (gEb : mg "_law_errors_b" = some (.ref fEb)) (gRa : mg "_law_refusals_a" = some (.ref fRa)) (gRb : mg "_law_refusals_b" = some (.ref fRb))
    (T : Nm mg) (T2 : Nm2 mg) (U : SupOk P mg) (hd : Hd P K mg) : FnOk P w K mg base CX0 4 f fd ["script"] (spLaw K) := by
  have bS : Binds K fdS ["script"] [] := FS.bindsN fun _ _ _ _ _ _ us hl => match us, hl with | [_], _ => rfl
  have bT : Binds K fdT ["stream"] [] := FT.bindsN fun _ _ _ _ _ _ us hl => match us, hl with | [_], _ => rfl
  have bEa : Binds K fdEa ["one", "other"] [] := FEa.bindsN fun _ _ _ _ _ _ us hl => match us, hl with | [_, _], _ => rfl
  have bEb : Binds K fdEb ["one", "other"] [] := FEb.bindsN fun _ _ _ _ _ _ us hl => match us, hl with | [_, _], _ => rfl
  have bRa : Binds K fdRa ["one", "other"] [] := FRa.bindsN fun _ _ _ _ _ _ us hl => match us, hl with | [_, _], _ => rfl
  have bRb : Binds K fdRb ["one", "other"] [] := FRb.bindsN fun _ _ _ _ _ _ us hl => match us, hl with | [_, _], _ => rfl
  obtain ⟨gH, ⟨K0, hk0, x0, kp0, ex0, ve0⟩, K1, K2, C1, C2, hk1, T1, hk2, ex1, gB, i11, i12, em⟩ := hd
  have gN : mg "NoCount" = some (.ref C1) := T1.1
  refine F.ok scL (fun vs H Q E h => ?_) (fun cdv A outer s H vs Q E hr h => ?_)
  · obtain ⟨p, ns, rfl, _⟩ := h
    rfl
  · obtain ⟨p, ns, rfl, hS, k⟩ := h
    have hr1 : Room 1 _ := hr.mono (by decide : 1 ≤ 3)
    have hu0 := hr.units0
    have hu1 := hu_of hr
    refine ⟨_, PSs.nox (pss_cons (ps_set (i := 1) scL.nd rfl (Or.inl rfl) (pe_call GS hr1 (by rfl) gS FS.kp bS .nil pass0 (pa_cons (pv 0) pa_nil)))
      (pss_cons (ps_for PassesOwn.never rfl (pi_range1 (by rfl) T.range (pa_cons pe_int pa_nil)) (pg_name (i := 2) scL.nd rfl (Or.inl rfl)) (pss_cons (ps_par (i := 3) (j := 4) (by rfl) scL.nd rfl rfl (by decide) rfl rfl (pa_cons (pe_call GT hr (by rfl) gT FT.kp bT .nil pass0 (pa_cons (pv 1) pa_nil)) (pa_cons (pe_call GT hr (by rfl) gT FT.kp bT .nil pass0 (pa_cons (pv 1) pa_nil)) pa_nil)) (by rfl))
      (pss_cons (ps_set (i := 5) scL.nd rfl (Or.inl rfl) (pe_op op_cat (pe_op op_cat (pe_op op_cat (pe_call GEa hr1 (by rfl) gEa FEa.kp bEa .nil pass0 (pa_cons (pv 3) (pa_cons (pv 4) pa_nil))) (pe_call GEb hr1 (by rfl) gEb FEb.kp bEb .nil pass0 (pa_cons (pv 3) (pa_cons (pv 4) pa_nil)))) (pe_call GRa hr1 (by rfl) gRa FRa.kp bRa .nil pass0 (pa_cons (pv 3) (pa_cons (pv 4) pa_nil)))) (pe_call GRb hr1 (by rfl) gRb FRb.kp bRb .nil pass0 (pa_cons (pv 3) (pa_cons (pv 4) pa_nil)))))
      (pss_cons (ps_for PassesOwn.never rfl (pi_tup (pe_tup (pa_cons (pv 3) (pa_cons (pv 4) pa_nil)))) (pg_name (i := 6) scL.nd rfl (Or.inl rfl)) (pss_cons (ps_if (pt_val (pe_callB call_isi (by rfl) T2.isi (by decide +kernel) (pa_cons (pv 6) (pa_cons (pe_bltn (v := .ty "list") (by rfl) T.list (by decide +kernel) rfl) pa_nil)))) (pss_one (ps_expr (pe_bm PySem.F.plainAttrs_list PySem.F.slot_list_append PySem.F.type_list_append mt_append (pv 6) (pa_cons (pv 2) pa_nil)))) pss_nil)
      (pss_one (ps_if (pt_val (pe_callB call_isi (by rfl) T2.isi (by decide +kernel) (pa_cons (pv 6) (pa_cons (pe_bltn (v := .ty "dict") (by rfl) T2.dict (by decide +kernel) rfl) pa_nil)))) (pss_one (ps_asg pe_str (pg_sub (pv 6) (pv 2) (set_dT hu1)))) pss_nil))))
      (pss_cons (ps_for PassesOwn.never rfl (pi_list (pv 5)) (pg_tup rfl (pgs_cons (pg_name (i := 7) scL.nd rfl (Or.inl rfl)) (pgs_cons (pg_name (i := 8) scL.nd rfl (Or.inl rfl)) pgs_nil))) (pss_cons (ps_set (i := 9) scL.nd rfl (Or.inl rfl) (pe_slice sl_list (pe_lst (pa_cons (pv 3) (pa_cons (pv 4) pa_nil))) po_none (po_some (pe_callB call_len (by rfl) T.len boot_len (pa_cons (pv 8) pa_nil)))))
      (pss_cons (ps_if (PW.pt (pw_or (pt_not (pt_val (pe_callB call_isX (by rfl) T2.isi (by decide +kernel) (pa_cons (pv 7) (pa_cons (pe_glob (v := .ref 24) (by rfl) gH rfl) pa_nil))))) (pw_or (pt_not (pt_val (pe_callB call_isX (by rfl) T2.isi (by decide +kernel) (pa_cons (pv 7) (pa_cons (pe_bltn (v := .ty "ValueError") (by rfl) T2.ve (by decide +kernel) rfl) pa_nil))))) (pw_or1 (pt_cmpR (op_neSame hu0) (pv 8) (pv 9) (nomark _)))))) (pss_one (ps_ret pe_bl)) pss_nil)
      (pss_one (ps_if (PW.pt (pw_or (pt_cmpR (op_neSame hu0) (pe_lc (own := [("some", 11)]) (g := gName 11) (by rfl) scL.nd (pi_list (pv 8)) (blkOk_by (own := [("some", 11)]) (N := NL) (sc := defScope sLaw) (by decide +kernel)) (fun _ _ _ _ _ => (pg_name (i := 11) scL.nd rfl (Or.inl rfl))) (fun _ _ _ _ _ => pts_nil) (fun _ _ _ _ _ => pe_cmpR op_isN (pv 11) pe_non (nomark _))) (pe_lc (own := [("some", 11)]) (g := gName 11) (by rfl) scL.nd (pi_list (pv 9)) (blkOk_by (own := [("some", 11)]) (N := NL) (sc := defScope sLaw) (by decide +kernel)) (fun _ _ _ _ _ => (pg_name (i := 11) scL.nd rfl (Or.inl rfl))) (fun _ _ _ _ _ => pts_nil) (fun _ _ _ _ _ => pe_cmpR op_isN (pv 11) pe_non (nomark _))) (nomark _)) (pw_or1 (pt_cmpR (op_neSame hu0) (pe_lc (own := [("some", 11)]) (g := gName 11) (by rfl) scL.nd (pi_list (pv 8)) (blkOk_by (own := [("some", 11)]) (N := NL) (sc := defScope sLaw) (by decide +kernel)) (fun _ _ _ _ _ => (pg_name (i := 11) scL.nd rfl (Or.inl rfl))) (fun _ _ _ _ _ => pts_nil) (fun _ _ _ _ _ => pe_cmpR op_isB (pv 11) pe_bl (nomark _))) (pe_lc (own := [("some", 11)]) (g := gName 11) (by rfl) scL.nd (pi_list (pv 9)) (blkOk_by (own := [("some", 11)]) (N := NL) (sc := defScope sLaw) (by decide +kernel)) (fun _ _ _ _ _ => (pg_name (i := 11) scL.nd rfl (Or.inl rfl))) (fun _ _ _ _ _ => pts_nil) (fun _ _ _ _ _ => pe_cmpR op_isB (pv 11) pe_bl (nomark _))) (nomark _))))) (pss_one (ps_ret pe_bl)) pss_nil)))))
      (pss_one (ps_if (PW.pt (pw_or (pt_cmpR op_ne (pe_callB call_len (by rfl) T.len boot_len (pa_cons (pv 5) pa_nil)) pe_int (nomark _)) (pw_or1 (pt_not (pt_val (pe_callB call_is0 (by rfl) T2.isi (by decide +kernel) (pa_cons (pe_exc0 hk0 PySem.F.excBase_ValueError x0 gH kp0 (by rfl)) (pa_cons (pe_bltn (v := .ty "ValueError") (by rfl) T2.ve (by decide +kernel) rfl) pa_nil)))))))) (pss_one (ps_ret pe_bl)) pss_nil)))))))
      (pss_one (ps_try_as (i := 10) (Wout := fun _ _ _ _ => False) rfl rfl scL.nd rfl rfl ⟨rfl, by decide, Or.inl gH⟩ takes0 (fun W pn xe tk _ => (pss_one (ps_raise rfl tk (pmk_e1 hk1 T1 U hr1 (by rfl) (pa_cons pe_int pa_nil))))) (fun a oe cls d pn hz hf => (pss_one (ps_ret (pe_and (pe_callB (call_isD hz hf) (by rfl) T2.isi (by decide +kernel) (pa_cons (pv 10) (pa_cons (pe_glob (v := .ref C1) (by rfl) gN rfl) pa_nil))) (pe_one (pe_not (pe_callB (call_isD hz hf) (by rfl) T2.isi (by decide +kernel) (pa_cons (pv 10) (pa_cons (pe_glob (v := .ref C2) (by rfl) gB rfl) pa_nil))))))))))))), ?_⟩
    -- the stream
    refine ⟨_, rfl, p, ns, rfl, hS, fun a b H1 S1 _ _ _ => ?_⟩
    refine ⟨5, rfl, by decide, by decide, ?_⟩
    refine for_range (LInv a b) ⟨_, _, _, _, _, _, _, _, _, _, _, _, _, _, _, rfl, S1, by decide⟩ ?_ ?_
    · rintro i σ H2 hi ⟨u, v2, v3, v4, v5, v6, v7, v8, v9, v10, v11, cs, c1, c2, c3, rfl, S2, hc2⟩
      have hi5 : i < 5 := hi
      refine ⟨_, rfl, a, b, cs, c1, c2, c3, rfl, S2, by omega, fun one cs1 c11 c21 c31 H3 hc3 S3 B3 T3 => ⟨_, rfl, a, b, cs1, c11, c21, c31, rfl, S3, by omega, fun other cs2 c12 c22 c32 H4 hc4 S4 B4 T4 => ⟨one, other, rfl, ?_⟩⟩⟩
      have nab : ∀ {q : Addr}, H2 q = none → q ≠ a ∧ q ≠ b := fun n => Stm.off S2 n
      have nab3 : ∀ {q : Addr}, H3 q = none → q ≠ a ∧ q ≠ b := fun n => Stm.off S3 n
      have t1 : TOk H4 one := by
        rcases T3 with f | ⟨q, o, rfl, n, h, t⟩
        · exact .inl f
        · exact .inr ⟨q, o, rfl, B4 q o h (nab n).1 (nab n).2, t⟩
      have t2 : TOk H4 other := by
        rcases T4 with f | ⟨q, o, rfl, n, h, t⟩
        · exact .inl f
        · exact .inr ⟨q, o, rfl, h, t⟩
      have p1 : Apart H4 a b one := by
        rintro q rfl
        rcases T3 with f | ⟨q', o, e, n, h, t⟩
        · rcases f with f | ⟨_, f⟩ | ⟨_, f⟩ | ⟨_, f⟩ <;> cases f
        · cases e
          exact ⟨⟨o, B4 q o h (nab n).1 (nab n).2⟩, nab n⟩
      have p2 : Apart H4 a b other := by
        rintro q rfl
        rcases T4 with f | ⟨q', o, e, n, h, t⟩
        · rcases f with f | ⟨_, f⟩ | ⟨_, f⟩ | ⟨_, f⟩ <;> cases f
        · cases e
          exact ⟨⟨o, h⟩, nab3 n⟩
      have ne : ∀ q, one = .ref q → other ≠ .ref q := by
        rintro q rfl rfl
        rcases T3 with f | ⟨q', o, e, n, h, t⟩
        · rcases f with f | ⟨_, f⟩ | ⟨_, f⟩ | ⟨_, f⟩ <;> cases f
        · cases e
          rcases T4 with f | ⟨q', o, e, n', h', t'⟩
          · rcases f with f | ⟨_, f⟩ | ⟨_, f⟩ | ⟨_, f⟩ <;> cases f
          · cases e
            rw [h] at n'
            cases n'
      have ff : ∀ {B H : Hp} {v : V}, Thing B H v → flatB v = true ∨ ∃ c, v = .ref c := fun t => by
        rcases t with (rfl | ⟨_, rfl⟩ | ⟨_, rfl⟩ | ⟨_, rfl⟩) | ⟨q, _, rfl, _⟩
        · exact .inl rfl
        · exact .inl rfl
        · exact .inl rfl
        · exact .inl rfl
        · exact .inr ⟨q, rfl⟩
      refine told (K := K) (one := one) (other := other) rfl rfl fun L xs H5 k5 nL gL ll il => ?_
      refine things (K := K) (B := H4) (c2 := c22) (n := 0 + (i : Int)) k5 (S4.up k5) gL nL il t1 t2 p1 p2 ne fun w6 H6 S6 gL6 it6 => ?_
      refine items (K := K) S6 gL6 it6 (ff T3) (ff T4) fun w7 w8 w9 H7 S7 gL7 => ?_
      refine last (K := K) (K0 := K0) hk0 ex0 ve0 rfl gL7 ll fun H8 k8 => ?_
      exact ⟨_, _, _, _, _, _, _, _, _, _, _, _, _, _, _, rfl, S7.up k8, by push_cast; omega⟩
    · rintro σ H2 ⟨u, v2, v3, v4, v5, v6, v7, v8, v9, v10, v11, cs, c1, c2, c3, rfl, S2, hc2⟩
      refine ⟨_, rfl, fun d H3 hd3 _ => ⟨true, em, fun _ a0 _ => ?_, fun q => Bool.noConfusion q⟩⟩
      exact ⟨_, rfl, K2, C1, d, .ref C1, .ref C1, _, true, rfl, rfl, rfl, hd3, hk2, ex1, fun u r => r, i11, true, rfl, iteT ⟨_, rfl, K2, C1, d, .ref C2, .ref C2, _, false, rfl, rfl, rfl, hd3, hk2, ex1, fun u r => r, i12, false, rfl, k _⟩⟩
end
end K00
/-! ## K00K -/
set_option maxHeartbeats 4000000
namespace K00
open PySem PySem.Spec PyProof.Rows L2 PySem.HErr
/-! ### the errors' texts -/
def Tx1 (st : Stmt) (f : Str) : Prop := ∃ (p1 p2 a1 q1 q2 q3 q4 q5 r1 r2 r3 r4 : Pos), (q3.endLine == q4.line) = true ∧ defArgs st = iA1 f p1 p2 ∧ defBody st = [iSup [.Name f a1] q1 q2 q3 q4 q5, iSto f r1 r2 r3 r4] ∧ defScope st = iS1 f
def Tx2 (st : Stmt) : Prop := ∃ (p1 p2 p3 a1 a2 q1 q2 q3 q4 q5 r1 r2 r3 r4 r5 r6 r7 r8 : Pos), (q3.endLine == q4.line) = true ∧ defArgs st = iA2 "one" "other" p1 p2 p3 ∧ defBody st = [iSup [.Name "one" a1, .Name "other" a2] q1 q2 q3 q4 q5, iSto "one" r1 r2 r3 r4, iSto "other" r5 r6 r7 r8] ∧ defScope st = iS2 "one" "other"
theorem tx2 : Tx1 (inClass (top 2) 0) "index" := ⟨_, _, _, _, _, _, _, _, _, _, _, _, rfl, rfl, rfl, rfl⟩
theorem tx3 : Tx1 (inClass (top 3) 0) "index" := ⟨_, _, _, _, _, _, _, _, _, _, _, _, rfl, rfl, rfl, rfl⟩
theorem tx4 : Tx1 (inClass (top 4) 0) "index" := ⟨_, _, _, _, _, _, _, _, _, _, _, _, rfl, rfl, rfl, rfl⟩
theorem tx5 : Tx1 (inClass (top 5) 0) "thing" := ⟨_, _, _, _, _, _, _, _, _, _, _, _, rfl, rfl, rfl, rfl⟩
theorem tx6 : Tx1 (inClass (top 6) 0) "person" := ⟨_, _, _, _, _, _, _, _, _, _, _, _, rfl, rfl, rfl, rfl⟩
theorem tx7 : Tx2 (inClass (top 7) 0) := ⟨_, _, _, _, _, _, _, _, _, _, _, _, _, _, _, _, _, _, rfl, rfl, rfl, rfl⟩
theorem tx8 : Tx1 (inClass (top 8) 0) "calendar" := ⟨_, _, _, _, _, _, _, _, _, _, _, _, rfl, rfl, rfl, rfl⟩
theorem tx9 : Tx1 (inClass (top 9) 0) "slates" := ⟨_, _, _, _, _, _, _, _, _, _, _, _, rfl, rfl, rfl, rfl⟩
theorem tx10 : Tx1 (inClass (top 10) 0) "many" := ⟨_, _, _, _, _, _, _, _, _, _, _, _, rfl, rfl, rfl, rfl⟩
theorem tx11 : Tx1 (inClass (top 11) 0) "table" := ⟨_, _, _, _, _, _, _, _, _, _, _, _, rfl, rfl, rfl, rfl⟩
theorem tx12 : Tx1 (inClass (top 12) 0) "number" := ⟨_, _, _, _, _, _, _, _, _, _, _, _, rfl, rfl, rfl, rfl⟩
theorem tx13 : Tx1 (inClass (top 13) 0) "index" := ⟨_, _, _, _, _, _, _, _, _, _, _, _, rfl, rfl, rfl, rfl⟩
theorem tx14 : Tx1 (inClass (top 14) 0) "ledger" := ⟨_, _, _, _, _, _, _, _, _, _, _, _, rfl, rfl, rfl, rfl⟩
theorem tx15 : Tx1 (inClass (top 15) 0) "fame" := ⟨_, _, _, _, _, _, _, _, _, _, _, _, rfl, rfl, rfl, rfl⟩
theorem tx16 : Tx1 (inClass (top 16) 0) "begun" := ⟨_, _, _, _, _, _, _, _, _, _, _, _, rfl, rfl, rfl, rfl⟩
theorem tx17 : Tx1 (inClass (top 17) 0) "index" := ⟨_, _, _, _, _, _, _, _, _, _, _, _, rfl, rfl, rfl, rfl⟩
theorem tx18 : Tx1 (inClass (top 18) 0) "gifts" := ⟨_, _, _, _, _, _, _, _, _, _, _, _, rfl, rfl, rfl, rfl⟩
theorem tx19 : Tx1 (inClass (top 19) 0) "index" := ⟨_, _, _, _, _, _, _, _, _, _, _, _, rfl, rfl, rfl, rfl⟩
theorem tx20 : Tx1 (inClass (top 20) 0) "part" := ⟨_, _, _, _, _, _, _, _, _, _, _, _, rfl, rfl, rfl, rfl⟩
theorem tx21 : Tx1 (inClass (top 21) 0) "box" := ⟨_, _, _, _, _, _, _, _, _, _, _, _, rfl, rfl, rfl, rfl⟩
theorem tx22 : Tx1 (inClass (top 22) 0) "prices" := ⟨_, _, _, _, _, _, _, _, _, _, _, _, rfl, rfl, rfl, rfl⟩
theorem tx23 : Tx1 (inClass (top 23) 0) "meeting" := ⟨_, _, _, _, _, _, _, _, _, _, _, _, rfl, rfl, rfl, rfl⟩
theorem tx24 : Tx1 (inClass (top 24) 0) "meeting" := ⟨_, _, _, _, _, _, _, _, _, _, _, _, rfl, rfl, rfl, rfl⟩
theorem tx25 : Tx1 (inClass (top 25) 0) "index" := ⟨_, _, _, _, _, _, _, _, _, _, _, _, rfl, rfl, rfl, rfl⟩
theorem tx26 : Tx1 (inClass (top 26) 0) "thing" := ⟨_, _, _, _, _, _, _, _, _, _, _, _, rfl, rfl, rfl, rfl⟩
theorem tx27 : Tx1 (inClass (top 27) 0) "place" := ⟨_, _, _, _, _, _, _, _, _, _, _, _, rfl, rfl, rfl, rfl⟩
theorem tx28 : Tx1 (inClass (top 28) 0) "index" := ⟨_, _, _, _, _, _, _, _, _, _, _, _, rfl, rfl, rfl, rfl⟩
theorem tx29 : Tx1 (inClass (top 29) 0) "plan" := ⟨_, _, _, _, _, _, _, _, _, _, _, _, rfl, rfl, rfl, rfl⟩
theorem tx30 : Tx1 (inClass (top 30) 0) "days" := ⟨_, _, _, _, _, _, _, _, _, _, _, _, rfl, rfl, rfl, rfl⟩
theorem tx31 : Tx1 (inClass (top 31) 0) "most" := ⟨_, _, _, _, _, _, _, _, _, _, _, _, rfl, rfl, rfl, rfl⟩
theorem tx32 : Tx1 (inClass (top 32) 0) "away" := ⟨_, _, _, _, _, _, _, _, _, _, _, _, rfl, rfl, rfl, rfl⟩
theorem tx33 : Tx1 (inClass (top 33) 0) "spans" := ⟨_, _, _, _, _, _, _, _, _, _, _, _, rfl, rfl, rfl, rfl⟩
theorem tx34 : Tx1 (inClass (top 34) 0) "dates" := ⟨_, _, _, _, _, _, _, _, _, _, _, _, rfl, rfl, rfl, rfl⟩
theorem tx35 : Tx1 (inClass (top 35) 0) "heard" := ⟨_, _, _, _, _, _, _, _, _, _, _, _, rfl, rfl, rfl, rfl⟩
theorem tx36 : Tx1 (inClass (top 36) 0) "rounds" := ⟨_, _, _, _, _, _, _, _, _, _, _, _, rfl, rfl, rfl, rfl⟩
theorem tx37 : Tx1 (inClass (top 37) 0) "index" := ⟨_, _, _, _, _, _, _, _, _, _, _, _, rfl, rfl, rfl, rfl⟩
theorem tx39 : Tx1 (inClass (top 39) 0) "week" := ⟨_, _, _, _, _, _, _, _, _, _, _, _, rfl, rfl, rfl, rfl⟩
theorem tx40 : Tx1 (inClass (top 40) 0) "timetable" := ⟨_, _, _, _, _, _, _, _, _, _, _, _, rfl, rfl, rfl, rfl⟩
theorem tx41 : Tx1 (inClass (top 41) 0) "day" := ⟨_, _, _, _, _, _, _, _, _, _, _, _, rfl, rfl, rfl, rfl⟩
theorem tx42 : Tx1 (inClass (top 42) 0) "index" := ⟨_, _, _, _, _, _, _, _, _, _, _, _, rfl, rfl, rfl, rfl⟩
theorem tx43 : Tx1 (inClass (top 43) 0) "gaps" := ⟨_, _, _, _, _, _, _, _, _, _, _, _, rfl, rfl, rfl, rfl⟩
theorem tx44 : Tx1 (inClass (top 44) 0) "index" := ⟨_, _, _, _, _, _, _, _, _, _, _, _, rfl, rfl, rfl, rfl⟩
theorem tx45 : Tx1 (inClass (top 45) 0) "index" := ⟨_, _, _, _, _, _, _, _, _, _, _, _, rfl, rfl, rfl, rfl⟩
theorem tx46 : Tx1 (inClass (top 46) 0) "view" := ⟨_, _, _, _, _, _, _, _, _, _, _, _, rfl, rfl, rfl, rfl⟩
theorem tx47 : Tx1 (inClass (top 47) 0) "seam" := ⟨_, _, _, _, _, _, _, _, _, _, _, _, rfl, rfl, rfl, rfl⟩
theorem tx48 : Tx1 (inClass (top 48) 0) "index" := ⟨_, _, _, _, _, _, _, _, _, _, _, _, rfl, rfl, rfl, rfl⟩
theorem tx49 : Tx1 (inClass (top 49) 0) "index" := ⟨_, _, _, _, _, _, _, _, _, _, _, _, rfl, rfl, rfl, rfl⟩
theorem tx50 : Tx1 (inClass (top 50) 0) "by" := ⟨_, _, _, _, _, _, _, _, _, _, _, _, rfl, rfl, rfl, rfl⟩
theorem tx51 : Tx1 (inClass (top 51) 0) "index" := ⟨_, _, _, _, _, _, _, _, _, _, _, _, rfl, rfl, rfl, rfl⟩
theorem tx52 : Tx1 (inClass (top 52) 0) "memory" := ⟨_, _, _, _, _, _, _, _, _, _, _, _, rfl, rfl, rfl, rfl⟩
theorem tx53 : Tx1 (inClass (top 53) 0) "index" := ⟨_, _, _, _, _, _, _, _, _, _, _, _, rfl, rfl, rfl, rfl⟩
theorem tx54 : Tx1 (inClass (top 54) 0) "porch" := ⟨_, _, _, _, _, _, _, _, _, _, _, _, rfl, rfl, rfl, rfl⟩
theorem tx55 : Tx1 (inClass (top 55) 0) "name" := ⟨_, _, _, _, _, _, _, _, _, _, _, _, rfl, rfl, rfl, rfl⟩
theorem tx56 : Tx1 (inClass (top 56) 0) "name" := ⟨_, _, _, _, _, _, _, _, _, _, _, _, rfl, rfl, rfl, rfl⟩
theorem tx57 : Tx1 (inClass (top 57) 0) "numbers" := ⟨_, _, _, _, _, _, _, _, _, _, _, _, rfl, rfl, rfl, rfl⟩
theorem tx58 : Tx1 (inClass (top 58) 0) "index" := ⟨_, _, _, _, _, _, _, _, _, _, _, _, rfl, rfl, rfl, rfl⟩
theorem tx59 : Tx1 (inClass (top 59) 0) "index" := ⟨_, _, _, _, _, _, _, _, _, _, _, _, rfl, rfl, rfl, rfl⟩
theorem tx60 : Tx1 (inClass (top 60) 0) "thing" := ⟨_, _, _, _, _, _, _, _, _, _, _, _, rfl, rfl, rfl, rfl⟩
theorem tx61 : Tx1 (inClass (top 61) 0) "thing" := ⟨_, _, _, _, _, _, _, _, _, _, _, _, rfl, rfl, rfl, rfl⟩
theorem tx62 : Tx1 (inClass (top 62) 0) "thing" := ⟨_, _, _, _, _, _, _, _, _, _, _, _, rfl, rfl, rfl, rfl⟩
theorem tx63 : Tx1 (inClass (top 63) 0) "thing" := ⟨_, _, _, _, _, _, _, _, _, _, _, _, rfl, rfl, rfl, rfl⟩
theorem tx64 : Tx2 (inClass (top 64) 0) := ⟨_, _, _, _, _, _, _, _, _, _, _, _, _, _, _, _, _, _, rfl, rfl, rfl, rfl⟩
theorem tx65 : Tx1 (inClass (top 65) 0) "thing" := ⟨_, _, _, _, _, _, _, _, _, _, _, _, rfl, rfl, rfl, rfl⟩
theorem tx66 : Tx1 (inClass (top 66) 0) "name" := ⟨_, _, _, _, _, _, _, _, _, _, _, _, rfl, rfl, rfl, rfl⟩
theorem tx67 : Tx1 (inClass (top 67) 0) "person" := ⟨_, _, _, _, _, _, _, _, _, _, _, _, rfl, rfl, rfl, rfl⟩
theorem tx68 : Tx1 (inClass (top 68) 0) "person" := ⟨_, _, _, _, _, _, _, _, _, _, _, _, rfl, rfl, rfl, rfl⟩
theorem tx69 : Tx2 (inClass (top 69) 0) := ⟨_, _, _, _, _, _, _, _, _, _, _, _, _, _, _, _, _, _, rfl, rfl, rfl, rfl⟩
theorem tx70 : Tx1 (inClass (top 70) 0) "thing" := ⟨_, _, _, _, _, _, _, _, _, _, _, _, rfl, rfl, rfl, rfl⟩
theorem tx71 : Tx1 (inClass (top 71) 0) "question" := ⟨_, _, _, _, _, _, _, _, _, _, _, _, rfl, rfl, rfl, rfl⟩
theorem tx72 : Tx1 (inClass (top 72) 0) "question" := ⟨_, _, _, _, _, _, _, _, _, _, _, _, rfl, rfl, rfl, rfl⟩
theorem tx73 : Tx1 (inClass (top 73) 0) "question" := ⟨_, _, _, _, _, _, _, _, _, _, _, _, rfl, rfl, rfl, rfl⟩
theorem tx74 : Tx1 (inClass (top 74) 0) "question" := ⟨_, _, _, _, _, _, _, _, _, _, _, _, rfl, rfl, rfl, rfl⟩
theorem tx75 : Tx1 (inClass (top 75) 0) "number" := ⟨_, _, _, _, _, _, _, _, _, _, _, _, rfl, rfl, rfl, rfl⟩
theorem tx76 : Tx1 (inClass (top 76) 0) "thing" := ⟨_, _, _, _, _, _, _, _, _, _, _, _, rfl, rfl, rfl, rfl⟩
theorem tx77 : Tx1 (inClass (top 77) 0) "line" := ⟨_, _, _, _, _, _, _, _, _, _, _, _, rfl, rfl, rfl, rfl⟩
theorem fo_away : FldOk "away" := fldB_ok (by decide +kernel)
theorem fo_begun : FldOk "begun" := fldB_ok (by decide +kernel)
theorem fo_box : FldOk "box" := fldB_ok (by decide +kernel)
theorem fo_by : FldOk "by" := fldB_ok (by decide +kernel)
theorem fo_calendar : FldOk "calendar" := fldB_ok (by decide +kernel)
theorem fo_dates : FldOk "dates" := fldB_ok (by decide +kernel)
theorem fo_day : FldOk "day" := fldB_ok (by decide +kernel)
theorem fo_days : FldOk "days" := fldB_ok (by decide +kernel)
theorem fo_fame : FldOk "fame" := fldB_ok (by decide +kernel)
theorem fo_gaps : FldOk "gaps" := fldB_ok (by decide +kernel)
theorem fo_gifts : FldOk "gifts" := fldB_ok (by decide +kernel)
theorem fo_heard : FldOk "heard" := fldB_ok (by decide +kernel)
theorem fo_index : FldOk "index" := fldB_ok (by decide +kernel)
theorem fo_ledger : FldOk "ledger" := fldB_ok (by decide +kernel)
theorem fo_line : FldOk "line" := fldB_ok (by decide +kernel)
theorem fo_many : FldOk "many" := fldB_ok (by decide +kernel)
theorem fo_meeting : FldOk "meeting" := fldB_ok (by decide +kernel)
theorem fo_memory : FldOk "memory" := fldB_ok (by decide +kernel)
theorem fo_most : FldOk "most" := fldB_ok (by decide +kernel)
theorem fo_name : FldOk "name" := fldB_ok (by decide +kernel)
theorem fo_number : FldOk "number" := fldB_ok (by decide +kernel)
theorem fo_numbers : FldOk "numbers" := fldB_ok (by decide +kernel)
theorem fo_part : FldOk "part" := fldB_ok (by decide +kernel)
theorem fo_person : FldOk "person" := fldB_ok (by decide +kernel)
theorem fo_place : FldOk "place" := fldB_ok (by decide +kernel)
theorem fo_plan : FldOk "plan" := fldB_ok (by decide +kernel)
theorem fo_porch : FldOk "porch" := fldB_ok (by decide +kernel)
theorem fo_prices : FldOk "prices" := fldB_ok (by decide +kernel)
theorem fo_question : FldOk "question" := fldB_ok (by decide +kernel)
theorem fo_rounds : FldOk "rounds" := fldB_ok (by decide +kernel)
theorem fo_seam : FldOk "seam" := fldB_ok (by decide +kernel)
theorem fo_slates : FldOk "slates" := fldB_ok (by decide +kernel)
theorem fo_spans : FldOk "spans" := fldB_ok (by decide +kernel)
theorem fo_table : FldOk "table" := fldB_ok (by decide +kernel)
theorem fo_thing : FldOk "thing" := fldB_ok (by decide +kernel)
theorem fo_timetable : FldOk "timetable" := fldB_ok (by decide +kernel)
theorem fo_view : FldOk "view" := fldB_ok (by decide +kernel)
theorem fo_week : FldOk "week" := fldB_ok (by decide +kernel)
end K00
/-! ## K00R -/
set_option maxHeartbeats 0
noncomputable section
namespace K00H
open PySem PySem.Spec PyProof.Rows L2
def top (i : Nat) : Stmt := PySem.Challenge.pw_heardsince_k00_errors_keep_what_they_are.main.body.getD i (.Pass ⟨0, 0, 0, 0⟩)

def nm0 : List PySem.Str := ["HeardError", "BadPeople", "BadTies", "BadNews", "BadVillage", "NoPerson", "NotFriends", "BadCalendar", "BadSlates", "BadMany", "BadTable", "BadNumber", "BadSome", "BadLedger", "BadFame", "BadBegun", "BadLedgers", "BadGifts", "BadTalks", "BadPart", "BadBox", "BadPrices", "BadMeeting", "SameMeeting", "BadStart", "BadChooser", "BadPlace", "BadCosts", "BadPlan", "BadDays"]
def nm1 : List PySem.Str := ["BadMost", "BadAway", "BadSpans", "BadDates", "BadTruth", "BadRounds", "BadLot", "BadWeek", "BadTimetable", "BadDay", "BadMissed", "BadGaps", "BadSayings", "NotOneListener", "BadView", "BadSeam", "BadMeetings", "BadKept", "BadBy", "BadKnown", "BadMemory", "BadWishes", "BadPorch", "CommonPerson", "BadName", "BadNumbers", "BadSeating", "NotHeard", "BadCaller", "BadTelling"]
def nm2 : List PySem.Str := ["BadWish", "BadAnswer", "NoGoBetween", "BadDeed", "TakenName", "HasMet", "NotOutmost", "HaveMet", "BadQuestion", "IsWatched", "NotWatched", "InUse", "WouldChange", "NoCount", "BadDesk", "BadText", "_law_stream", "_law_draw", "_law_pick", "_law_errors_a", "_law_errors_b", "_law_refusals_a", "_law_refusals_b", "_law_some_thing"]
def names : List PySem.Str := nm0 ++ (nm1 ++ (nm2))
abbrev sL_stream : Stmt := top 79
abbrev sL_draw : Stmt := top 80
abbrev sL_pick : Stmt := top 81
abbrev sL_errors_a : Stmt := top 82
abbrev sL_errors_b : Stmt := top 83
abbrev sL_refusals_a : Stmt := top 84
abbrev sL_refusals_b : Stmt := top 85
abbrev sL_some_thing : Stmt := top 86
abbrev sLaw : Stmt := top 87
def d_sL_stream : He.DefD := ⟨("_law_stream", none), "_law_stream", "_law_stream", defArgs sL_stream, defBody sL_stream, defScope sL_stream, [], []⟩
def d_sL_draw : He.DefD := ⟨("_law_draw", none), "_law_draw", "_law_draw", defArgs sL_draw, defBody sL_draw, defScope sL_draw, [], []⟩
def d_sL_pick : He.DefD := ⟨("_law_pick", none), "_law_pick", "_law_pick", defArgs sL_pick, defBody sL_pick, defScope sL_pick, [], []⟩
def d_sL_errors_a : He.DefD := ⟨("_law_errors_a", none), "_law_errors_a", "_law_errors_a", defArgs sL_errors_a, defBody sL_errors_a, defScope sL_errors_a, [], []⟩
def d_sL_errors_b : He.DefD := ⟨("_law_errors_b", none), "_law_errors_b", "_law_errors_b", defArgs sL_errors_b, defBody sL_errors_b, defScope sL_errors_b, [], []⟩
def d_sL_refusals_a : He.DefD := ⟨("_law_refusals_a", none), "_law_refusals_a", "_law_refusals_a", defArgs sL_refusals_a, defBody sL_refusals_a, defScope sL_refusals_a, [], []⟩
def d_sL_refusals_b : He.DefD := ⟨("_law_refusals_b", none), "_law_refusals_b", "_law_refusals_b", defArgs sL_refusals_b, defBody sL_refusals_b, defScope sL_refusals_b, [], []⟩
def d_sL_some_thing : He.DefD := ⟨("_law_some_thing", none), "_law_some_thing", "_law_some_thing", defArgs sL_some_thing, defBody sL_some_thing, defScope sL_some_thing, [], []⟩
def d_sLaw : He.DefD := ⟨("law", none), "law", "law", defArgs sLaw, defBody sLaw, defScope sLaw, [], []⟩
def fn : List He.DefD := [d_sL_stream, d_sL_draw, d_sL_pick, d_sL_errors_a, d_sL_errors_b, d_sL_refusals_a, d_sL_refusals_b, d_sL_some_thing, d_sLaw]
def fa : List He.Fa := [.glo "_law_stream", .glo "_law_draw", .glo "_law_pick", .glo "_law_errors_a", .glo "_law_errors_b", .glo "_law_refusals_a", .glo "_law_refusals_b", .glo "_law_some_thing", .glo "law", .free "len"]
abbrev R : PySem.W.OpenRow := PySem.W.OpenLaw.row PySem.Challenge.rw_heardsince_k00_errors_keep_what_they_are
def kE (P : Params) (x : Str) (t : Nat) (v : Value) : DictEntry := { hash := PyData.keyHash P x, key := .str x t, val := v }
def kD (es : List DictEntry) (n : Nat) : Obj := { cls := .type "dict", data := .dict es.toArray n }
def tupO (vs : List Value) : Obj := { cls := .type "tuple", data := .seq vs.toArray }
def fldO (c : Value) (vs : List Value) : Obj := { cls := c, data := .fields vs.toArray }
def i0 (n : Nat) : Value := .int (n : Int) 0
def modV : Value := .str "heardsince.errors" 187
def fil : Str := "/claim/cut.py"
def codO (a b c : Nat) (x y : Str) (ln k three : Nat) (fv : Addr) (fr : Bool) (co : Addr) (rest : List Value) (u v : Nat) : Obj :=
  fldO (.type "code") ([.str x a, .str y b, .str fil c, i0 ln, i0 k, i0 0, i0 0, i0 three, .ref fv, .bool fr, i0 181, .ref co] ++ rest ++ [i0 u, i0 ln, .str fil v])
/-- the 21 objects that a class of the errors lays: b the first one's address, t the first text's number, ln its line, fs its fields -/
def clsO (P : Params) (b t ln : Nat) (nm : Str) (q : Str) (fs : List Str) (st : Stmt) : List Obj :=
  let d := fs.length - 1
  let g := 2 * d
  [ tupO [.ref 24],
    fldO (.type "builtin_function_or_method") [.builtin "type.__prepare__", .type "type"],
    kD [kE P "__module__" (t + 7) modV, kE P "__qualname__" (t + 9) (.str nm (t + 8)), kE P "__firstlineno__" (t + 11) (.int (ln : Int) (t + 10)), kE P "__init__" (t + 20 + d) (.ref (b + 15)), kE P "__static_attributes__" (t + 22 + g) (.ref (b + 16)), kE P "__classcell__" (t + 23 + g) (.ref (b + 3))] 6,
    { cls := .type "cell", data := .cell (some (.ref (b + 18))) },
    tupO [],
    fldO .none [i0 (ln + 2), i0 4, .ref (b + 14)],
    codO (t + 2) (t + 3) (t + 4) nm nm ln 0 0 (b + 4) false (b + 5) [.none, .none, .none, .none] (t + 5) (t + 6),
    { cls := .type "frame", slots := #[some (.ref (b + 6)), some (.ref 3), some (.ref (b + 2)), none, some modV, none, some (.ref 0)] },
    tupO [.ref (b + 3)],
    tupO [.str "__class__" (t + 15)],
    fldO .none [],
    tupO (.str "self" (t + 16) :: fs.zipIdx.map fun p => .str p.1 (t + 17 + p.2)),
    tupO [],
    { cls := .none, data := .func { name := "__init__", qualname := q, params := defArgs st, body := .stmts (defBody st), scope := defScope st, globals := 0, closure := [], defaults := .none, kwdefaults := .none } },
    codO (t + 12) (t + 13) (t + 14) "__init__" q (ln + 2) (2 + d) 3 (b + 9) true (b + 10) [.none, .ref (b + 11), .ref (b + 12), .ref (b + 13)] (t + 18 + d) (t + 19 + d),
    { cls := .type "function", data := .func { name := "__init__", qualname := q, params := defArgs st, body := .stmts (defBody st), scope := defScope st, globals := 3, closure := [("__class__", b + 3)], defaults := .none, kwdefaults := .none, pyModule := modV, code := .ref (b + 14), closureTuple := .ref (b + 8) } },
    tupO (fs.zipIdx.map fun p => .str p.1 (t + 21 + d + p.2)),
    kD [kE P "__module__" (t + 7) modV, kE P "__firstlineno__" (t + 11) (.int (ln : Int) (t + 10)), kE P "__init__" (t + 20 + d) (.ref (b + 15)), kE P "__static_attributes__" (t + 22 + g) (.ref (b + 16)), kE P "__doc__" (t + 24 + g) .none] 3,
    { cls := .type "type", data := .cls { name := nm, bases := [.ref 24], mro := [.ref (b + 18), .ref 24, .type "ValueError", .type "Exception", .type "BaseException", .type "object"], ns := b + 17, qualname := nm }, slots := #[some (.ref b), none, some (.str nm t), some (.str nm (t + 8)), some (.builtin "ValueError.__new__"), some (.bool true)] },
    fldO (.type "super") [.ref (b + 18), .ref (b + 18), .ref (b + 18)],
    fldO (.type "builtin_function_or_method") [.builtin "object.__init_subclass__", .ref (b + 18)] ]
structure CRow where
  i : Nat
  nm : Str
  q : Str
  fs : List Str
  b : Nat
  t : Nat
  ln : Nat
def crows : List CRow := [
  ⟨2, "BadPeople", "BadPeople.__init__", ["index"], 28, 207, 4⟩,
  ⟨3, "BadTies", "BadTies.__init__", ["index"], 49, 234, 9⟩,
  ⟨4, "BadNews", "BadNews.__init__", ["index"], 70, 261, 14⟩,
  ⟨5, "BadVillage", "BadVillage.__init__", ["thing"], 91, 288, 19⟩,
  ⟨6, "NoPerson", "NoPerson.__init__", ["person"], 112, 315, 24⟩,
  ⟨7, "NotFriends", "NotFriends.__init__", ["one", "other"], 133, 342, 29⟩,
  ⟨8, "BadCalendar", "BadCalendar.__init__", ["calendar"], 154, 371, 35⟩,
  ⟨9, "BadSlates", "BadSlates.__init__", ["slates"], 175, 398, 40⟩,
  ⟨10, "BadMany", "BadMany.__init__", ["many"], 196, 425, 45⟩,
  ⟨11, "BadTable", "BadTable.__init__", ["table"], 217, 452, 50⟩,
  ⟨12, "BadNumber", "BadNumber.__init__", ["number"], 238, 479, 55⟩,
  ⟨13, "BadSome", "BadSome.__init__", ["index"], 259, 506, 60⟩,
  ⟨14, "BadLedger", "BadLedger.__init__", ["ledger"], 280, 533, 65⟩,
  ⟨15, "BadFame", "BadFame.__init__", ["fame"], 301, 560, 70⟩,
  ⟨16, "BadBegun", "BadBegun.__init__", ["begun"], 322, 587, 75⟩,
  ⟨17, "BadLedgers", "BadLedgers.__init__", ["index"], 343, 614, 80⟩,
  ⟨18, "BadGifts", "BadGifts.__init__", ["gifts"], 364, 641, 85⟩,
  ⟨19, "BadTalks", "BadTalks.__init__", ["index"], 385, 668, 90⟩,
  ⟨20, "BadPart", "BadPart.__init__", ["part"], 406, 695, 95⟩,
  ⟨21, "BadBox", "BadBox.__init__", ["box"], 427, 722, 100⟩,
  ⟨22, "BadPrices", "BadPrices.__init__", ["prices"], 448, 749, 105⟩,
  ⟨23, "BadMeeting", "BadMeeting.__init__", ["meeting"], 469, 776, 110⟩,
  ⟨24, "SameMeeting", "SameMeeting.__init__", ["meeting"], 490, 803, 115⟩,
  ⟨25, "BadStart", "BadStart.__init__", ["index"], 511, 830, 120⟩,
  ⟨26, "BadChooser", "BadChooser.__init__", ["thing"], 532, 857, 125⟩,
  ⟨27, "BadPlace", "BadPlace.__init__", ["place"], 553, 884, 130⟩,
  ⟨28, "BadCosts", "BadCosts.__init__", ["index"], 574, 911, 135⟩,
  ⟨29, "BadPlan", "BadPlan.__init__", ["plan"], 595, 938, 140⟩,
  ⟨30, "BadDays", "BadDays.__init__", ["days"], 616, 965, 145⟩,
  ⟨31, "BadMost", "BadMost.__init__", ["most"], 637, 992, 150⟩,
  ⟨32, "BadAway", "BadAway.__init__", ["away"], 658, 1019, 155⟩,
  ⟨33, "BadSpans", "BadSpans.__init__", ["spans"], 679, 1046, 160⟩,
  ⟨34, "BadDates", "BadDates.__init__", ["dates"], 700, 1073, 165⟩,
  ⟨35, "BadTruth", "BadTruth.__init__", ["heard"], 721, 1100, 170⟩,
  ⟨36, "BadRounds", "BadRounds.__init__", ["rounds"], 742, 1127, 175⟩,
  ⟨37, "BadLot", "BadLot.__init__", ["index"], 763, 1154, 180⟩]
def spec (P : Params) : List Obj := [
  { cls := Value.type "tuple", data := Data.seq #[] },
  fldO .none ([i0 2, i0 0, .ref 20] ++ crows.flatMap fun r => [i0 r.ln, i0 0, .ref (r.b + 6)]),
  { cls := Value.type "code", data := Data.fields #[Value.str (("<module>" : Str)) 182, Value.str (("<module>" : Str)) 183, Value.str (("/claim/cut.py" : Str)) 184, Value.int 1 0, Value.int 0 0, Value.int 0 0, Value.int 0 0, Value.int 0 0, Value.ref 11, Value.bool false, Value.int 181 0, Value.ref 12, Value.none, Value.none, Value.none, Value.none, Value.int 185 0, Value.int 1 0, Value.str (("/claim/cut.py" : Str)) 186] },
  { cls := Value.type "frame", slots := #[some (Value.ref 13), some (Value.ref 3), some (Value.ref 3), none, some (Value.str (("__main__" : Str)) 164), none, some (Value.ref 0)] },
  { cls := Value.type "tuple", data := Data.seq #[Value.type "ValueError"] },
  { cls := Value.type "builtin_function_or_method", data := Data.fields #[Value.builtin "type.__prepare__", Value.type "type"] },
  { cls := Value.type "dict", data := Data.dict #[{ hash := PyData.keyHash P (("__module__" : Str)), key := Value.str (("__module__" : Str)) 196, val := Value.str (("heardsince.errors" : Str)) 187 }, { hash := PyData.keyHash P (("__qualname__" : Str)), key := Value.str (("__qualname__" : Str)) 198, val := Value.str (("HeardError" : Str)) 197 }, { hash := PyData.keyHash P (("__firstlineno__" : Str)), key := Value.str (("__firstlineno__" : Str)) 200, val := Value.int 2 199 }, { hash := PyData.keyHash P (("__static_attributes__" : Str)), key := Value.str (("__static_attributes__" : Str)) 201, val := Value.ref 22 }] 4 },
  { cls := Value.type "tuple", data := Data.seq #[] },
  { cls := Value.none, data := Data.fields #[] },
  { cls := Value.type "code", data := Data.fields #[Value.str (("HeardError" : Str)) 191, Value.str (("HeardError" : Str)) 192, Value.str (("/claim/cut.py" : Str)) 193, Value.int 2 0, Value.int 0 0, Value.int 0 0, Value.int 0 0, Value.int 0 0, Value.ref 18, Value.bool false, Value.int 181 0, Value.ref 19, Value.none, Value.none, Value.none, Value.none, Value.int 194 0, Value.int 2 0, Value.str (("/claim/cut.py" : Str)) 195] },
  { cls := Value.type "frame", slots := #[some (Value.ref 20), some (Value.ref 3), some (Value.ref 17), none, some (Value.str (("heardsince.errors" : Str)) 187), none, some (Value.ref 0)] },
  { cls := Value.type "tuple", data := Data.seq #[] },
  { cls := Value.type "dict", data := Data.dict #[{ hash := PyData.keyHash P (("__module__" : Str)), key := Value.str (("__module__" : Str)) 196, val := Value.str (("heardsince.errors" : Str)) 187 }, { hash := PyData.keyHash P (("__firstlineno__" : Str)), key := Value.str (("__firstlineno__" : Str)) 200, val := Value.int 2 199 }, { hash := PyData.keyHash P (("__static_attributes__" : Str)), key := Value.str (("__static_attributes__" : Str)) 201, val := Value.ref 22 }, { hash := PyData.keyHash P (("__weakref__" : Str)), key := Value.str (("__weakref__" : Str)) 203, val := Value.ref 25 }, { hash := PyData.keyHash P (("__doc__" : Str)), key := Value.str (("__doc__" : Str)) 204, val := Value.none }] 3 },
  { cls := Value.type "type", data := Data.cls { name := ("HeardError" : Str), bases := [Value.type "ValueError"], mro := [Value.ref 24, Value.type "ValueError", Value.type "Exception", Value.type "BaseException", Value.type "object"], ns := 23, qualname := ("HeardError" : Str), subclasses := crows.map fun r => .ref (r.b + 18) }, slots := #[some (Value.ref 15), none, some (Value.str (("HeardError" : Str)) 189), some (Value.str (("HeardError" : Str)) 197), some (Value.builtin "ValueError.__new__"), some (Value.bool true)] },
  { cls := Value.type "getset_descriptor", data := Data.fields #[Value.str (("__weakref__" : Str)) 202, Value.ref 24, Value.builtin "ExceptionGroup.__weakref__", Value.none] },
  { cls := Value.type "super", data := Data.fields #[Value.ref 24, Value.ref 24, Value.ref 24] },
  { cls := Value.type "builtin_function_or_method", data := Data.fields #[Value.builtin "object.__init_subclass__", Value.ref 24] }]
def ob3 (P : Params) : Obj := kD ([kE P "__name__" 165 (Value.str (("heardsince.errors" : Str)) 187), kE P "__doc__" 166 (Value.none), kE P "__package__" 167 (Value.none), kE P "__loader__" 168 (Value.builtin "__main__.__loader__#opaque"), kE P "__spec__" 169 (Value.none), kE P "__annotations__" 170 (Value.ref 6), kE P "__builtins__" 171 (Value.ref 4), kE P "__file__" 173 (Value.str (("/claim/cut.py" : Str)) 172), kE P "__cached__" 174 (Value.none), kE P "HeardError" 206 (Value.ref 24)] ++ crows.map fun r => kE P r.nm (r.t + 26 + 2 * (r.fs.length - 1)) (.ref (r.b + 18))) 46
def midObjs (P : Params) : List Obj := [PySem.W.boot_o_0 P, PySem.W.boot_o_1 P, PySem.W.boot_o_2 P, ob3 P, PySem.W.boot_o_4 P, PySem.W.boot_o_5 P, PySem.W.boot_o_6 P, PySem.W.boot_o_7 P, PySem.W.boot_o_8 P, PySem.W.boot_o_9 P, PySem.W.boot_o_10 P] ++ spec P ++ crows.flatMap fun r => clsO P r.b r.t r.ln r.nm r.q r.fs (inClass (top r.i) 0)
/-! ### the run, cut behind the errors of the first file -/
open PySem.W HandSHeadRun in
def goS (st : SharedT → Thread → Option (SharedT × Thread)) (n0 : Nat) (ann : Option Value) : Nat → SharedT → Thread → Option (SharedT × Thread)
  | 0, s, t => some (s, t)
  | m + 1, s, t => match through t with
    | true => none
    | false => match stepOk n0 ann t with
      | false => none
      | true => match st s t with
        | some (s', t') => frS s' fun s' => goS st n0 ann m s' t'
        | none => none
open PySem.W HandSHeadRun in
theorem goS_ok {tb : String → Option Builtin} {p : Program} {w : World} {n0 : Nat} {ann : Option Value} : ∀ {m : Nat} {s s' : SharedT} {t t' : Thread}, goS (stepT (denote tb) p w) n0 ann m s t = some (s', t') → topGo tb p w n0 ann m s.abs t = some (s'.abs, t')
  | 0, s, s', t, t', h => by
    have h1 : some (s, t) = some (s', t') := h
    obtain ⟨rfl, rfl⟩ := Prod.mk.inj (Option.some.inj h1)
    rfl
  | m + 1, s, s', t, t', h => by
    have h1 : (match through t with
      | true => none
      | false => match stepOk n0 ann t with
        | false => none
        | true => match stepT (denote tb) p w s t with
          | some (s', t') => frS s' fun s' => goS (stepT (denote tb) p w) n0 ann m s' t'
          | none => none) = some (s', t') := h
    unfold topGo
    cases ht : through t with
    | true =>
      rw [ht] at h1
      cases h1
    | false =>
      rw [ht] at h1
      cases hk : stepOk n0 ann t with
      | false =>
        rw [hk] at h1
        cases h1
      | true =>
        rw [hk] at h1
        have h2 : (match stepT (denote tb) p w s t with
          | some (s', t') => frS s' fun s' => goS (stepT (denote tb) p w) n0 ann m s' t'
          | none => none) = some (s', t') := h1
        cases hs : stepT (denote tb) p w s t with
        | none =>
          rw [hs] at h2
          cases h2
        | some r =>
          obtain ⟨s2, t2⟩ := r
          rw [hs] at h2
          have h3 : (frS s2 fun s' => goS (stepT (denote tb) p w) n0 ann m s' t2) = some (s', t') := h2
          rw [frS_eq] at h3
          have q := goS_ok h3
          show (match step (denote tb) p w s.abs t with
            | .go s' t' => topGo tb p w n0 ann m s' t'
            | .halt _ _ => none) = some (s'.abs, t')
          rw [stepT_spec hs]
          exact q
def midT (P : Params) : PySem.W.BT := match HandSHeadRun.putAll (midObjs P) .nil 0 with
  | some (t, _) => t
  | none => .nil
def envM : Env := { scope := R.prog.main.scope, locals := mainNs, globals := mainNs, cells := [], code := .ref 13, frame := some 14 }
def bodyM : List Stmt := PySem.W.behindTheImports R.prog
def codeM : Code := .body bodyM envM
def midThread : Thread := ⟨HandSHeadRun.denQ HandSHeadRun.tabQ (.body (bodyM.drop 38) envM), codeM, ⟨180, 0, 184, 26⟩, [PySem.W.topFrame ⟨0, 0, 0, 0⟩]⟩
def midS (w : World) (os : OsState) : PySem.W.SharedT := ⟨midT w.params, 784, (PySem.W.boot_heap w.params).life, #[], PySem.W.boot_drawn, 1181, os⟩
open PySem.W HandSHeadRun in
theorem cut1 (w : World) (os : OsState) : (match putAll (boot_heap w.params).objs.toList .nil 0 with
  | some (t, n) => frNat n fun n0 => goS (stepQ (denQ tabQ) R.prog w) n0 (bootAnn w) 9605 (bootT w os (t, n0)) (topStub R.prog)
  | none => none) = some (midS w os, midThread) := by kernel_rfl
end K00H
/-! ## K00H1 -/
set_option maxHeartbeats 0
noncomputable section
namespace K00H
open PySem PySem.Spec PyProof.Rows L2
/-! ### what the head is to tell -/
def rows : List ERow := [
  ⟨"BadPeople", "BadPeople.__init__", ["index"], 2, 28⟩,
  ⟨"BadTies", "BadTies.__init__", ["index"], 3, 49⟩,
  ⟨"BadNews", "BadNews.__init__", ["index"], 4, 70⟩,
  ⟨"BadVillage", "BadVillage.__init__", ["thing"], 5, 91⟩,
  ⟨"NoPerson", "NoPerson.__init__", ["person"], 6, 112⟩,
  ⟨"NotFriends", "NotFriends.__init__", ["one", "other"], 7, 133⟩,
  ⟨"BadCalendar", "BadCalendar.__init__", ["calendar"], 8, 154⟩,
  ⟨"BadSlates", "BadSlates.__init__", ["slates"], 9, 175⟩,
  ⟨"BadMany", "BadMany.__init__", ["many"], 10, 196⟩,
  ⟨"BadTable", "BadTable.__init__", ["table"], 11, 217⟩,
  ⟨"BadNumber", "BadNumber.__init__", ["number"], 12, 238⟩,
  ⟨"BadSome", "BadSome.__init__", ["index"], 13, 259⟩,
  ⟨"BadLedger", "BadLedger.__init__", ["ledger"], 14, 280⟩,
  ⟨"BadFame", "BadFame.__init__", ["fame"], 15, 301⟩,
  ⟨"BadBegun", "BadBegun.__init__", ["begun"], 16, 322⟩,
  ⟨"BadLedgers", "BadLedgers.__init__", ["index"], 17, 343⟩,
  ⟨"BadGifts", "BadGifts.__init__", ["gifts"], 18, 364⟩,
  ⟨"BadTalks", "BadTalks.__init__", ["index"], 19, 385⟩,
  ⟨"BadPart", "BadPart.__init__", ["part"], 20, 406⟩,
  ⟨"BadBox", "BadBox.__init__", ["box"], 21, 427⟩,
  ⟨"BadPrices", "BadPrices.__init__", ["prices"], 22, 448⟩,
  ⟨"BadMeeting", "BadMeeting.__init__", ["meeting"], 23, 469⟩,
  ⟨"SameMeeting", "SameMeeting.__init__", ["meeting"], 24, 490⟩,
  ⟨"BadStart", "BadStart.__init__", ["index"], 25, 511⟩,
  ⟨"BadChooser", "BadChooser.__init__", ["thing"], 26, 532⟩,
  ⟨"BadPlace", "BadPlace.__init__", ["place"], 27, 553⟩,
  ⟨"BadCosts", "BadCosts.__init__", ["index"], 28, 574⟩,
  ⟨"BadPlan", "BadPlan.__init__", ["plan"], 29, 595⟩,
  ⟨"BadDays", "BadDays.__init__", ["days"], 30, 616⟩,
  ⟨"BadMost", "BadMost.__init__", ["most"], 31, 637⟩,
  ⟨"BadAway", "BadAway.__init__", ["away"], 32, 658⟩,
  ⟨"BadSpans", "BadSpans.__init__", ["spans"], 33, 679⟩,
  ⟨"BadDates", "BadDates.__init__", ["dates"], 34, 700⟩,
  ⟨"BadTruth", "BadTruth.__init__", ["heard"], 35, 721⟩,
  ⟨"BadRounds", "BadRounds.__init__", ["rounds"], 36, 742⟩,
  ⟨"BadLot", "BadLot.__init__", ["index"], 37, 763⟩,
  ⟨"BadWeek", "BadWeek.__init__", ["week"], 39, 784⟩,
  ⟨"BadTimetable", "BadTimetable.__init__", ["timetable"], 40, 805⟩,
  ⟨"BadDay", "BadDay.__init__", ["day"], 41, 826⟩,
  ⟨"BadMissed", "BadMissed.__init__", ["index"], 42, 847⟩,
  ⟨"BadGaps", "BadGaps.__init__", ["gaps"], 43, 868⟩,
  ⟨"BadSayings", "BadSayings.__init__", ["index"], 44, 889⟩,
  ⟨"NotOneListener", "NotOneListener.__init__", ["index"], 45, 910⟩,
  ⟨"BadView", "BadView.__init__", ["view"], 46, 931⟩,
  ⟨"BadSeam", "BadSeam.__init__", ["seam"], 47, 952⟩,
  ⟨"BadMeetings", "BadMeetings.__init__", ["index"], 48, 973⟩,
  ⟨"BadKept", "BadKept.__init__", ["index"], 49, 994⟩,
  ⟨"BadBy", "BadBy.__init__", ["by"], 50, 1015⟩,
  ⟨"BadKnown", "BadKnown.__init__", ["index"], 51, 1036⟩,
  ⟨"BadMemory", "BadMemory.__init__", ["memory"], 52, 1057⟩,
  ⟨"BadWishes", "BadWishes.__init__", ["index"], 53, 1078⟩,
  ⟨"BadPorch", "BadPorch.__init__", ["porch"], 54, 1099⟩,
  ⟨"CommonPerson", "CommonPerson.__init__", ["name"], 55, 1120⟩,
  ⟨"BadName", "BadName.__init__", ["name"], 56, 1141⟩,
  ⟨"BadNumbers", "BadNumbers.__init__", ["numbers"], 57, 1162⟩,
  ⟨"BadSeating", "BadSeating.__init__", ["index"], 58, 1183⟩,
  ⟨"NotHeard", "NotHeard.__init__", ["index"], 59, 1204⟩,
  ⟨"BadCaller", "BadCaller.__init__", ["thing"], 60, 1225⟩,
  ⟨"BadTelling", "BadTelling.__init__", ["thing"], 61, 1246⟩,
  ⟨"BadWish", "BadWish.__init__", ["thing"], 62, 1267⟩,
  ⟨"BadAnswer", "BadAnswer.__init__", ["thing"], 63, 1288⟩,
  ⟨"NoGoBetween", "NoGoBetween.__init__", ["one", "other"], 64, 1309⟩,
  ⟨"BadDeed", "BadDeed.__init__", ["thing"], 65, 1330⟩,
  ⟨"TakenName", "TakenName.__init__", ["name"], 66, 1351⟩,
  ⟨"HasMet", "HasMet.__init__", ["person"], 67, 1372⟩,
  ⟨"NotOutmost", "NotOutmost.__init__", ["person"], 68, 1393⟩,
  ⟨"HaveMet", "HaveMet.__init__", ["one", "other"], 69, 1414⟩,
  ⟨"BadQuestion", "BadQuestion.__init__", ["thing"], 70, 1435⟩,
  ⟨"IsWatched", "IsWatched.__init__", ["question"], 71, 1456⟩,
  ⟨"NotWatched", "NotWatched.__init__", ["question"], 72, 1477⟩,
  ⟨"InUse", "InUse.__init__", ["question"], 73, 1498⟩,
  ⟨"WouldChange", "WouldChange.__init__", ["question"], 74, 1519⟩,
  ⟨"NoCount", "NoCount.__init__", ["number"], 75, 1540⟩,
  ⟨"BadDesk", "BadDesk.__init__", ["thing"], 76, 1561⟩,
  ⟨"BadText", "BadText.__init__", ["line"], 77, 1582⟩]
def kAll (g : Addr → Option Obj) : PySem.W.Frag := He.frG g (List.range 1664)
def faK : List He.Fa := [.glo "_law_stream", .glo "_law_draw", .glo "_law_pick", .glo "_law_errors_a", .glo "_law_errors_b", .glo "_law_refusals_a", .glo "_law_refusals_b", .glo "_law_some_thing", .glo "law", .free "abs", .free "int", .free "len", .free "list", .free "range", .free "isinstance", .free "dict", .free "ValueError", .free "super"]
def xBit (K : PySem.W.Frag) : Bool :=
  PySem.W.excIn K 24 He.veBase "ValueError.__new__" && (PySem.W.keepIn K (.ref 24) && (isBit K 24 24 && (isBit K 1558 24 && (bB (PySem.W.kitOne K (.ref 1558) (.ref 1558)) (some true) && (bB (PySem.W.kitOne K (.ref 1558) (.ref 1348)) (some false) &&
  (bB (PySem.W.exmOne K (.ref 1558) (.ref 24)) (some true) && (He.eqO (PySem.W.nsIn K mainGlobals "HeardError") (some (some (.ref 24))) && He.eqO (PySem.W.nsIn K mainGlobals "BadDeed") (some (some (.ref 1348))))))))))
def obsR (g : Addr → Option Obj) (r : ERow) : Bool × ErV := (r.bit R.prog.main.file (He.frG g r.as), erObs (He.frG g r.as) (r.b + 15))
def valR (r : ERow) : Bool × ErV := (true, erVal r.q (defArgs (inClass (top r.i) 0)) (defBody (inClass (top r.i) 0)) (defScope (inClass (top r.i) 0)))
abbrev AlK : Type := He.AlD × Bool × List (Bool × ErV)
def obsK (g : Addr → Option Obj) : AlK := (He.obsD faK fn (kAll g), xBit (kAll g), rows.map (obsR g))
def valK : AlK := (He.valD fn, true, rows.map valR)
def hk : PySem.W.Hook where
  α := AlK
  obs := fun s => obsK s.heap.get?
  val := fun _ => valK
  says := fun _ h => ∃ g : Addr → Option Obj, (∀ a o, g a = some o → h.get? a = some o) ∧ obsK g = valK
  of := fun _ s e => ⟨s.heap.get?, fun _ _ z => z, e⟩
  keeps := fun _ _ _ ⟨g, hg, c⟩ k => ⟨g, fun a o z => k a o (hg a o z), c⟩
def ob (s : PySem.W.SharedT) : hk.α := obsK (HandSHeadRun.getT s)
theorem ob_eq (s : PySem.W.SharedT) : ob s = hk.obs s.abs := by
  have e : HandSHeadRun.getT s = s.abs.heap.get? := funext (HandSHeadRun.getT_eq s)
  show obsK (HandSHeadRun.getT s) = obsK s.abs.heap.get?
  rw [e]
open PySem.W HandSHeadRun
abbrev qv : Program := PySem.W.view R.prog [87]
def end2 (w : World) (os : OsState) : Option SharedT := goF (stepQ (denQ tabQ) R.prog w) 11 (bootAnn w) 10600 (midS w os) midThread
theorem goF_split {st : SharedT → Thread → Option (SharedT × Thread)} {n0 : Nat} {ann : Option Value} {k : Nat} : ∀ {m : Nat} {s s' : SharedT} {t t' : Thread}, goS st n0 ann m s t = some (s', t') → goF st n0 ann (m + k) s t = goF st n0 ann k s' t'
  | 0, s, s', t, t', h => by
    have h1 : some (s, t) = some (s', t') := h
    obtain ⟨rfl, rfl⟩ := Prod.mk.inj (Option.some.inj h1)
    rw [Nat.zero_add]
  | m + 1, s, s', t, t', h => by
    have h1 : (match through t with
      | true => none
      | false => match stepOk n0 ann t with
        | false => none
        | true => match st s t with
          | some (s', t') => frS s' fun s' => goS st n0 ann m s' t'
          | none => none) = some (s', t') := h
    rw [show m + 1 + k = (m + k) + 1 by omega]
    show (match through t with
      | true => some s
      | false => match stepOk n0 ann t with
        | false => none
        | true => match st s t with
          | some (s', t') => frS s' fun s' => goF st n0 ann (m + k) s' t'
          | none => none) = _
    cases ht : through t with
    | true =>
      rw [ht] at h1
      cases h1
    | false =>
      rw [ht] at h1
      cases hk : stepOk n0 ann t with
      | false =>
        rw [hk] at h1
        cases h1
      | true =>
        rw [hk] at h1
        cases hs : st s t with
        | none =>
          rw [hs] at h1
          cases h1
        | some r =>
          obtain ⟨s2, t2⟩ := r
          rw [hs] at h1
          have h3 : (frS s2 fun s' => goS st n0 ann m s' t2) = some (s', t') := h1
          rw [frS_eq] at h3
          show (frS s2 fun s' => goF st n0 ann (m + k) s' t2) = _
          rw [frS_eq]
          exact goF_split h3
theorem boot11 (P : Params) : (boot_heap P).objs.size = 11 := by kernel_rfl
theorem end_eq (w : World) (os : OsState) : endF (stepQ (denQ tabQ) R.prog w) (9605 + 10600) R.prog w os = end2 w os := by
  have c := cut1 w os
  unfold endF end2
  cases e : putAll (boot_heap w.params).objs.toList .nil 0 with
  | none =>
    rw [e] at c
    cases c
  | some r =>
    obtain ⟨t, n⟩ := r
    rw [e] at c
    have c1 : (frNat n fun n0 => goS (stepQ (denQ tabQ) R.prog w) n0 (bootAnn w) 9605 (bootT w os (t, n0)) (topStub R.prog)) = some (midS w os, midThread) := c
    rw [frNat_eq] at c1
    show (frNat n fun n0 => goF (stepQ (denQ tabQ) R.prog w) n0 (bootAnn w) (9605 + 10600) (bootT w os (t, n0)) (topStub R.prog)) = _
    rw [frNat_eq]
    have en : n = 11 := by
      have eh := putAll_heap e
      have z := boot11 w.params
      rw [← eh] at z
      rw [← z]
      exact (absHeap_size t n _).symm
    rw [goF_split c1, en]
end K00H
/-! ## K00H2a -/
set_option maxHeartbeats 0
namespace K00H
open PySem PySem.Spec PyProof.Rows L2
open PySem.W HandSHeadRun
theorem pa (w : World) (os : OsState) : (end2 w os).map (fun s => looksF R.prog (boot_heap w.params) s.abs) = some (true) := by kernel_rfl
end K00H
/-! ## K00H2b -/
set_option maxHeartbeats 0
namespace K00H
open PySem PySem.Spec PyProof.Rows L2
open PySem.W HandSHeadRun
theorem pb (w : World) (os : OsState) : (end2 w os).map (fun s => seenQ qv names (importedModules R.prog.main.body) (fun s => xlAt qv [] s && recOk R.toRowW.records s) s.abs) = some (openGood qv names) := by kernel_rfl
end K00H
/-! ## K00H2c -/
set_option maxHeartbeats 0
namespace K00H
open PySem PySem.Spec PyProof.Rows L2
open PySem.W HandSHeadRun
theorem pc (w : World) (os : OsState) : (end2 w os).map (fun s => He.obsD faK fn (kAll (getT s))) = some (He.valD fn) := by kernel_rfl
end K00H
/-! ## K00H2d -/
set_option maxHeartbeats 0
namespace K00H
open PySem PySem.Spec PyProof.Rows L2
open PySem.W HandSHeadRun
theorem pd (w : World) (os : OsState) : (end2 w os).map (fun s => xBit (kAll (getT s))) = some (true) := by kernel_rfl
end K00H
/-! ## K00H2e -/
set_option maxHeartbeats 0
namespace K00H
open PySem PySem.Spec PyProof.Rows L2
open PySem.W HandSHeadRun
theorem pe (w : World) (os : OsState) : (end2 w os).map (fun s => rows.map (obsR (getT s))) = some (rows.map valR) := by kernel_rfl
end K00H
/-! ## K00J -/
set_option maxHeartbeats 0
namespace K00
open PySem PySem.Spec PyProof.Rows L2 PySem.HErr
/-! ### parts of the heap -/
theorem frG_mem {g : Addr → Option Obj} {a : Addr} {o : Obj} : ∀ {as : List Addr}, (He.frG g as).lookup a = some o → a ∈ as
  | [], e => nomatch (show (none : Option Obj) = some o from e)
  | b :: r, e => by
    unfold He.frG at e
    cases hb : g b with
    | none =>
      rw [List.filterMap_cons, hb] at e
      exact List.mem_cons_of_mem _ (frG_mem (as := r) e)
    | some ob =>
      rw [List.filterMap_cons, hb] at e
      have e2 : (match a == b with | true => some ob | false => (He.frG g r).lookup a) = some o := e
      cases q : (a == b) with
      | true => rw [beq_iff_eq.mp q]; exact List.mem_cons_self
      | false =>
        rw [q] at e2
        exact List.mem_cons_of_mem _ (frG_mem (as := r) e2)
theorem frG_has {g : Addr → Option Obj} {a : Addr} {o : Obj} (h : g a = some o) : ∀ {as : List Addr}, a ∈ as → (He.frG g as).lookup a = some o
  | [], m => nomatch m
  | b :: r, m => by
    unfold He.frG
    by_cases q : a = b
    · subst q
      rw [List.filterMap_cons, h]
      show (match a == a with | true => some o | false => _) = some o
      rw [beq_self_eq_true]
    · have m2 : a ∈ r := by
        rcases List.mem_cons.mp m with z | z
        · exact absurd z q
        · exact z
      have ih := frG_has h m2
      cases hb : g b with
      | none =>
        rw [List.filterMap_cons, hb]
        exact ih
      | some ob =>
        rw [List.filterMap_cons, hb]
        show (match a == b with | true => some ob | false => (He.frG g r).lookup a) = some o
        rw [beq_eq_false_iff_ne.mpr q]
        exact ih
theorem frG_sub {g : Addr → Option Obj} {as bs : List Addr} (h : ∀ a ∈ as, a ∈ bs) : L2.Sub (He.frG g as) (He.frG g bs) := fun a o e => frG_has (He.frG_at as e) (h a (frG_mem e))
theorem as_lt {r : ERow} (hb : r.b + 21 ≤ 1664) : ∀ a ∈ r.as, a ∈ List.range 1664 := fun a m => by
  rw [List.mem_range]
  unfold ERow.as at m
  rcases List.mem_append.mp m with z | z
  · have h4 : ∀ a ∈ ([3, 24, 23, 2] : List Nat), a < 1664 := by decide
    exact h4 a z
  · have h5 : ∀ (b n a : Nat), a ∈ List.range' b n → a < b + n := fun b n a z => (List.mem_range'_1.mp z).2
    exact Nat.lt_of_lt_of_le (h5 _ _ _ z) hb
abbrev PP : Program := PySem.Challenge.rw_heardsince_k00_errors_keep_what_they_are.prog
section
variable {g : Addr → Option Obj} {h : Heap} {mg : Str → Option Value} {r : ERow} {st : Stmt} {f : Str}
theorem row_bits (c : K00H.obsR g r = (true, erVal r.q (defArgs st) (defBody st) (defScope st))) : PySem.W.nsIn (He.frG g r.as) mainGlobals r.nm = some (some (.ref (r.b + 18))) ∧ ErrC (He.frG g r.as) (r.b + 18) (r.b + 15) ∧ IsC (He.frG g r.as) (r.b + 18) 24 ∧
    InitFn PP (He.frG g r.as) r.q (r.b + 18) (r.b + 15) (defArgs st) (defBody st) (defScope st) ∧ ∀ f ∈ r.fs, PySem.W.findIn (He.frG g r.as) (.ref (r.b + 18)) f = some none := by
  have c1 : r.bit PP.main.file (He.frG g r.as) = true := congrArg Prod.fst c
  have c2 : erObs (He.frG g r.as) (r.b + 15) = erVal r.q (defArgs st) (defBody st) (defScope st) := congrArg Prod.snd c
  unfold ERow.bit at c1
  simp only [Bool.and_eq_true] at c1
  obtain ⟨h1, h2, h3, h4, h5⟩ := c1
  exact ⟨He.eqO_ok h1, errBit_ok h2, isBit_ok h3, initFn_ok h4 c2, fun f m => He.eqO_ok (List.all_eq_true.mp h5 f m)⟩
theorem er1 (hg : ∀ a o, g a = some o → h.get? a = some o) (G : h.Ns mainGlobals mg) (c : K00H.obsR g r = (true, erVal r.q (defArgs st) (defBody st) (defScope st))) (t : Tx1 st f) (fo : FldOk f) (hf : f ∈ r.fs) : Er1 PP (He.frG g r.as) mg r.nm f (r.b + 18) := by
  obtain ⟨h1, h2, h3, h4, h5⟩ := row_bits c
  obtain ⟨p1, p2, a1, q1, q2, q3, q4, q5, r1, r2, r3, r4, hl, tA, tB, tS⟩ := t
  rw [tA, tB, tS] at h4
  exact ⟨PySem.W.mg_of (fun a o e => hg a o (He.frG_at _ e)) G h1, _, h2, h5 f hf, fo, _, p1, p2, a1, q1, q2, q3, q4, q5, r1, r2, r3, r4, hl, h4⟩
theorem kn1 (hg : ∀ a o, g a = some o → h.get? a = some o) (G : h.Ns mainGlobals mg) (c : K00H.obsR g r = (true, erVal r.q (defArgs st) (defBody st) (defScope st))) (hb : r.b + 21 ≤ 1664) (t : Tx1 st f) (fo : FldOk f) (hf : f ∈ r.fs) : Kn1 PP (K00H.kAll g) mg r.nm f :=
  ⟨He.frG g r.as, _, frG_sub (as_lt hb), er1 hg G c t fo hf, (row_bits c).2.2.1⟩
theorem kn2 (hg : ∀ a o, g a = some o → h.get? a = some o) (G : h.Ns mainGlobals mg) (c : K00H.obsR g r = (true, erVal r.q (defArgs st) (defBody st) (defScope st))) (hb : r.b + 21 ≤ 1664) (t : Tx2 st) (hf : ("one" : Str) ∈ r.fs) (hf2 : ("other" : Str) ∈ r.fs) : Kn2 PP (K00H.kAll g) mg r.nm := by
  obtain ⟨h1, h2, h3, h4, h5⟩ := row_bits c
  obtain ⟨p1, p2, p3, a1, a2, q1, q2, q3, q4, q5, r1, r2, r3, r4, r5, r6, r7, r8, hl, tA, tB, tS⟩ := t
  rw [tA, tB, tS] at h4
  exact ⟨He.frG g r.as, _, frG_sub (as_lt hb), ⟨PySem.W.mg_of (fun a o e => hg a o (He.frG_at _ e)) G h1, _, h2, h5 _ hf, h5 _ hf2, _, p1, p2, p3, a1, a2, q1, q2, q3, q4, q5, r1, r2, r3, r4, r5, r6, r7, r8, hl, h4⟩, h3⟩
theorem rowAt (c : K00H.rows.map (K00H.obsR g) = K00H.rows.map K00H.valR) {k : Nat} (e : K00H.rows[k]? = some r) : K00H.obsR g r = K00H.valR r := by
  have z := congrArg (fun l => l[k]?) c
  simp only [List.getElem?_map, e, Option.map_some, Option.some.injEq] at z
  exact z
end
theorem facts {w : World} {h : Heap} {mg : Str → Option Value} {f : Addr} (Y : K00H.hk.says w h) (G : h.Ns mainGlobals mg) (hfa : mg ("law" : Str) = some (.ref f)) :
    ∃ (K : PySem.W.Frag) (fd : FuncData), K.In h ∧ (∀ (s : Shared) (v : Value), BindsTo s fd ⟨[v], []⟩ [("script", v)]) ∧ ∀ base : Heap, K.In base → base.Ns mainGlobals mg → FnOk PP w K mg base CX0 4 f fd ["script"] (spLaw K) := by
  obtain ⟨g, hg, c⟩ := Y
  have c1 : He.SaysD K00H.faK K00H.fn (K00H.kAll g) := congrArg (fun z : K00H.AlK => z.1) c
  have c2 : K00H.xBit (K00H.kAll g) = true := congrArg (fun z : K00H.AlK => z.2.1) c
  have c3 : K00H.rows.map (K00H.obsR g) = K00H.rows.map K00H.valR := congrArg (fun z : K00H.AlK => z.2.2) c
  clear c
  have X : (K00H.kAll g).In h := fun a o e => hg a o (He.frG_at _ e)
  obtain ⟨fd_stream, F_stream⟩ := c1.def_ 0 (d := K00H.d_sL_stream) rfl
  have g_stream := He.glo_ok X G (c1.fact 0 (f := .glo "_law_stream") rfl)
  obtain ⟨fd_draw, F_draw⟩ := c1.def_ 1 (d := K00H.d_sL_draw) rfl
  have g_draw := He.glo_ok X G (c1.fact 1 (f := .glo "_law_draw") rfl)
  obtain ⟨fd_pick, F_pick⟩ := c1.def_ 2 (d := K00H.d_sL_pick) rfl
  have g_pick := He.glo_ok X G (c1.fact 2 (f := .glo "_law_pick") rfl)
  obtain ⟨fd_ea, F_ea⟩ := c1.def_ 3 (d := K00H.d_sL_errors_a) rfl
  have g_ea := He.glo_ok X G (c1.fact 3 (f := .glo "_law_errors_a") rfl)
  obtain ⟨fd_eb, F_eb⟩ := c1.def_ 4 (d := K00H.d_sL_errors_b) rfl
  have g_eb := He.glo_ok X G (c1.fact 4 (f := .glo "_law_errors_b") rfl)
  obtain ⟨fd_ra, F_ra⟩ := c1.def_ 5 (d := K00H.d_sL_refusals_a) rfl
  have g_ra := He.glo_ok X G (c1.fact 5 (f := .glo "_law_refusals_a") rfl)
  obtain ⟨fd_rb, F_rb⟩ := c1.def_ 6 (d := K00H.d_sL_refusals_b) rfl
  have g_rb := He.glo_ok X G (c1.fact 6 (f := .glo "_law_refusals_b") rfl)
  obtain ⟨fd_thing, F_thing⟩ := c1.def_ 7 (d := K00H.d_sL_some_thing) rfl
  have g_thing := He.glo_ok X G (c1.fact 7 (f := .glo "_law_some_thing") rfl)
  obtain ⟨fd_law, F_law⟩ := c1.def_ 8 (d := K00H.d_sLaw) rfl
  have g_law := He.glo_ok X G (c1.fact 8 (f := .glo "law") rfl)
  have n_abs := He.free_ok X G (c1.fact 9 (f := .free "abs") rfl)
  have n_int := He.free_ok X G (c1.fact 10 (f := .free "int") rfl)
  have n_len := He.free_ok X G (c1.fact 11 (f := .free "len") rfl)
  have n_list := He.free_ok X G (c1.fact 12 (f := .free "list") rfl)
  have n_range := He.free_ok X G (c1.fact 13 (f := .free "range") rfl)
  have n_isinstance := He.free_ok X G (c1.fact 14 (f := .free "isinstance") rfl)
  have n_dict := He.free_ok X G (c1.fact 15 (f := .free "dict") rfl)
  have n_ValueError := He.free_ok X G (c1.fact 16 (f := .free "ValueError") rfl)
  have n_super := He.free_ok X G (c1.fact 17 (f := .free "super") rfl)
  have T : Nm mg := ⟨n_abs, n_int, n_len, n_list, n_range⟩
  have T2 : Nm2 mg := ⟨n_isinstance, n_dict, n_ValueError⟩
  have U : SupOk PP mg := ⟨n_super, by kernel_rfl⟩
  have e := hfa.symm.trans g_law
  cases e
  unfold K00H.xBit at c2
  simp only [Bool.and_eq_true] at c2
  obtain ⟨b1, b2, b3, b4, b5, b6, b7, b8, b9⟩ := c2
  have i24 := isBit_ok b3
  have iN := isBit_ok b4
  have hd : Hd PP (K00H.kAll g) mg := ⟨PySem.W.mg_of X G (He.eqO_ok b8), ⟨K00H.kAll g, fun _ _ z => z, b1, b2, i24.ex, i24.ve⟩, ⟨_, K00H.kAll g, _, _, frG_sub (as_lt (r := ⟨"NoCount", "NoCount.__init__", ["number"], 75, 1540⟩) (by decide)), er1 (r := ⟨"NoCount", "NoCount.__init__", ["number"], 75, 1540⟩) hg G (rowAt c3 (k := 72) rfl) tx75 fo_number List.mem_cons_self, fun _ _ z => z, iN.ex, PySem.W.mg_of X G (He.eqO_ok b9), of_decide_eq_true b5, of_decide_eq_true b6, of_decide_eq_true b7⟩⟩
  have hNP : Kn1 PP (K00H.kAll g) mg "NoPerson" "person" := (kn1 (r := ⟨"NoPerson", "NoPerson.__init__", ["person"], 6, 112⟩) hg G (rowAt c3 (k := 4) rfl) (by decide) tx6 fo_person List.mem_cons_self)
  have b := FunD.bindsA (ps := ["script"]) F_law fun _ _ _ _ _ _ us hl => match us, hl with | [_], _ => rfl
  refine ⟨K00H.kAll g, fd_law, X, fun s v => b s [v] rfl, fun base _ _ => ?_⟩
  have G_ea : FnOk PP w (K00H.kAll g) mg base CX0 1 _ fd_ea ["one", "other"] (spErr (K00H.kAll g) 48) := ok_ea F_ea U
    (kn1 (r := ⟨"BadPeople", "BadPeople.__init__", ["index"], 2, 28⟩) hg G (rowAt c3 (k := 0) rfl) (by decide) tx2 fo_index List.mem_cons_self)
    (kn1 (r := ⟨"BadTies", "BadTies.__init__", ["index"], 3, 49⟩) hg G (rowAt c3 (k := 1) rfl) (by decide) tx3 fo_index List.mem_cons_self)
    (kn1 (r := ⟨"BadNews", "BadNews.__init__", ["index"], 4, 70⟩) hg G (rowAt c3 (k := 2) rfl) (by decide) tx4 fo_index List.mem_cons_self)
    (kn1 (r := ⟨"BadVillage", "BadVillage.__init__", ["thing"], 5, 91⟩) hg G (rowAt c3 (k := 3) rfl) (by decide) tx5 fo_thing List.mem_cons_self)
    (kn1 (r := ⟨"NoPerson", "NoPerson.__init__", ["person"], 6, 112⟩) hg G (rowAt c3 (k := 4) rfl) (by decide) tx6 fo_person List.mem_cons_self)
    (kn2 (r := ⟨"NotFriends", "NotFriends.__init__", ["one", "other"], 7, 133⟩) hg G (rowAt c3 (k := 5) rfl) (by decide) tx7 List.mem_cons_self (List.mem_cons_of_mem _ List.mem_cons_self))
    (kn1 (r := ⟨"BadCalendar", "BadCalendar.__init__", ["calendar"], 8, 154⟩) hg G (rowAt c3 (k := 6) rfl) (by decide) tx8 fo_calendar List.mem_cons_self)
    (kn1 (r := ⟨"BadSlates", "BadSlates.__init__", ["slates"], 9, 175⟩) hg G (rowAt c3 (k := 7) rfl) (by decide) tx9 fo_slates List.mem_cons_self)
    (kn1 (r := ⟨"BadMany", "BadMany.__init__", ["many"], 10, 196⟩) hg G (rowAt c3 (k := 8) rfl) (by decide) tx10 fo_many List.mem_cons_self)
    (kn1 (r := ⟨"BadTable", "BadTable.__init__", ["table"], 11, 217⟩) hg G (rowAt c3 (k := 9) rfl) (by decide) tx11 fo_table List.mem_cons_self)
    (kn1 (r := ⟨"BadNumber", "BadNumber.__init__", ["number"], 12, 238⟩) hg G (rowAt c3 (k := 10) rfl) (by decide) tx12 fo_number List.mem_cons_self)
    (kn1 (r := ⟨"BadSome", "BadSome.__init__", ["index"], 13, 259⟩) hg G (rowAt c3 (k := 11) rfl) (by decide) tx13 fo_index List.mem_cons_self)
    (kn1 (r := ⟨"BadLedger", "BadLedger.__init__", ["ledger"], 14, 280⟩) hg G (rowAt c3 (k := 12) rfl) (by decide) tx14 fo_ledger List.mem_cons_self)
    (kn1 (r := ⟨"BadFame", "BadFame.__init__", ["fame"], 15, 301⟩) hg G (rowAt c3 (k := 13) rfl) (by decide) tx15 fo_fame List.mem_cons_self)
    (kn1 (r := ⟨"BadBegun", "BadBegun.__init__", ["begun"], 16, 322⟩) hg G (rowAt c3 (k := 14) rfl) (by decide) tx16 fo_begun List.mem_cons_self)
    (kn1 (r := ⟨"BadLedgers", "BadLedgers.__init__", ["index"], 17, 343⟩) hg G (rowAt c3 (k := 15) rfl) (by decide) tx17 fo_index List.mem_cons_self)
    (kn1 (r := ⟨"BadGifts", "BadGifts.__init__", ["gifts"], 18, 364⟩) hg G (rowAt c3 (k := 16) rfl) (by decide) tx18 fo_gifts List.mem_cons_self)
    (kn1 (r := ⟨"BadTalks", "BadTalks.__init__", ["index"], 19, 385⟩) hg G (rowAt c3 (k := 17) rfl) (by decide) tx19 fo_index List.mem_cons_self)
    (kn1 (r := ⟨"BadPart", "BadPart.__init__", ["part"], 20, 406⟩) hg G (rowAt c3 (k := 18) rfl) (by decide) tx20 fo_part List.mem_cons_self)
    (kn1 (r := ⟨"BadBox", "BadBox.__init__", ["box"], 21, 427⟩) hg G (rowAt c3 (k := 19) rfl) (by decide) tx21 fo_box List.mem_cons_self)
    (kn1 (r := ⟨"BadPrices", "BadPrices.__init__", ["prices"], 22, 448⟩) hg G (rowAt c3 (k := 20) rfl) (by decide) tx22 fo_prices List.mem_cons_self)
    (kn1 (r := ⟨"BadMeeting", "BadMeeting.__init__", ["meeting"], 23, 469⟩) hg G (rowAt c3 (k := 21) rfl) (by decide) tx23 fo_meeting List.mem_cons_self)
    (kn1 (r := ⟨"SameMeeting", "SameMeeting.__init__", ["meeting"], 24, 490⟩) hg G (rowAt c3 (k := 22) rfl) (by decide) tx24 fo_meeting List.mem_cons_self)
    (kn1 (r := ⟨"BadStart", "BadStart.__init__", ["index"], 25, 511⟩) hg G (rowAt c3 (k := 23) rfl) (by decide) tx25 fo_index List.mem_cons_self)
  have G_eb : FnOk PP w (K00H.kAll g) mg base CX0 1 _ fd_eb ["one", "other"] (spErr (K00H.kAll g) 24) := ok_eb F_eb U
    (kn1 (r := ⟨"BadChooser", "BadChooser.__init__", ["thing"], 26, 532⟩) hg G (rowAt c3 (k := 24) rfl) (by decide) tx26 fo_thing List.mem_cons_self)
    (kn1 (r := ⟨"BadPlace", "BadPlace.__init__", ["place"], 27, 553⟩) hg G (rowAt c3 (k := 25) rfl) (by decide) tx27 fo_place List.mem_cons_self)
    (kn1 (r := ⟨"BadCosts", "BadCosts.__init__", ["index"], 28, 574⟩) hg G (rowAt c3 (k := 26) rfl) (by decide) tx28 fo_index List.mem_cons_self)
    (kn1 (r := ⟨"BadPlan", "BadPlan.__init__", ["plan"], 29, 595⟩) hg G (rowAt c3 (k := 27) rfl) (by decide) tx29 fo_plan List.mem_cons_self)
    (kn1 (r := ⟨"BadDays", "BadDays.__init__", ["days"], 30, 616⟩) hg G (rowAt c3 (k := 28) rfl) (by decide) tx30 fo_days List.mem_cons_self)
    (kn1 (r := ⟨"BadMost", "BadMost.__init__", ["most"], 31, 637⟩) hg G (rowAt c3 (k := 29) rfl) (by decide) tx31 fo_most List.mem_cons_self)
    (kn1 (r := ⟨"BadAway", "BadAway.__init__", ["away"], 32, 658⟩) hg G (rowAt c3 (k := 30) rfl) (by decide) tx32 fo_away List.mem_cons_self)
    (kn1 (r := ⟨"BadSpans", "BadSpans.__init__", ["spans"], 33, 679⟩) hg G (rowAt c3 (k := 31) rfl) (by decide) tx33 fo_spans List.mem_cons_self)
    (kn1 (r := ⟨"BadDates", "BadDates.__init__", ["dates"], 34, 700⟩) hg G (rowAt c3 (k := 32) rfl) (by decide) tx34 fo_dates List.mem_cons_self)
    (kn1 (r := ⟨"BadTruth", "BadTruth.__init__", ["heard"], 35, 721⟩) hg G (rowAt c3 (k := 33) rfl) (by decide) tx35 fo_heard List.mem_cons_self)
    (kn1 (r := ⟨"BadRounds", "BadRounds.__init__", ["rounds"], 36, 742⟩) hg G (rowAt c3 (k := 34) rfl) (by decide) tx36 fo_rounds List.mem_cons_self)
    (kn1 (r := ⟨"BadLot", "BadLot.__init__", ["index"], 37, 763⟩) hg G (rowAt c3 (k := 35) rfl) (by decide) tx37 fo_index List.mem_cons_self)
  have G_ra : FnOk PP w (K00H.kAll g) mg base CX0 1 _ fd_ra ["one", "other"] (spErr (K00H.kAll g) 48) := ok_ra F_ra U
    (kn1 (r := ⟨"BadWeek", "BadWeek.__init__", ["week"], 39, 784⟩) hg G (rowAt c3 (k := 36) rfl) (by decide) tx39 fo_week List.mem_cons_self)
    (kn1 (r := ⟨"BadTimetable", "BadTimetable.__init__", ["timetable"], 40, 805⟩) hg G (rowAt c3 (k := 37) rfl) (by decide) tx40 fo_timetable List.mem_cons_self)
    (kn1 (r := ⟨"BadDay", "BadDay.__init__", ["day"], 41, 826⟩) hg G (rowAt c3 (k := 38) rfl) (by decide) tx41 fo_day List.mem_cons_self)
    (kn1 (r := ⟨"BadMissed", "BadMissed.__init__", ["index"], 42, 847⟩) hg G (rowAt c3 (k := 39) rfl) (by decide) tx42 fo_index List.mem_cons_self)
    (kn1 (r := ⟨"BadGaps", "BadGaps.__init__", ["gaps"], 43, 868⟩) hg G (rowAt c3 (k := 40) rfl) (by decide) tx43 fo_gaps List.mem_cons_self)
    (kn1 (r := ⟨"BadSayings", "BadSayings.__init__", ["index"], 44, 889⟩) hg G (rowAt c3 (k := 41) rfl) (by decide) tx44 fo_index List.mem_cons_self)
    (kn1 (r := ⟨"NotOneListener", "NotOneListener.__init__", ["index"], 45, 910⟩) hg G (rowAt c3 (k := 42) rfl) (by decide) tx45 fo_index List.mem_cons_self)
    (kn1 (r := ⟨"BadView", "BadView.__init__", ["view"], 46, 931⟩) hg G (rowAt c3 (k := 43) rfl) (by decide) tx46 fo_view List.mem_cons_self)
    (kn1 (r := ⟨"BadSeam", "BadSeam.__init__", ["seam"], 47, 952⟩) hg G (rowAt c3 (k := 44) rfl) (by decide) tx47 fo_seam List.mem_cons_self)
    (kn1 (r := ⟨"BadMeetings", "BadMeetings.__init__", ["index"], 48, 973⟩) hg G (rowAt c3 (k := 45) rfl) (by decide) tx48 fo_index List.mem_cons_self)
    (kn1 (r := ⟨"BadKept", "BadKept.__init__", ["index"], 49, 994⟩) hg G (rowAt c3 (k := 46) rfl) (by decide) tx49 fo_index List.mem_cons_self)
    (kn1 (r := ⟨"BadBy", "BadBy.__init__", ["by"], 50, 1015⟩) hg G (rowAt c3 (k := 47) rfl) (by decide) tx50 fo_by List.mem_cons_self)
    (kn1 (r := ⟨"BadKnown", "BadKnown.__init__", ["index"], 51, 1036⟩) hg G (rowAt c3 (k := 48) rfl) (by decide) tx51 fo_index List.mem_cons_self)
    (kn1 (r := ⟨"BadMemory", "BadMemory.__init__", ["memory"], 52, 1057⟩) hg G (rowAt c3 (k := 49) rfl) (by decide) tx52 fo_memory List.mem_cons_self)
    (kn1 (r := ⟨"BadWishes", "BadWishes.__init__", ["index"], 53, 1078⟩) hg G (rowAt c3 (k := 50) rfl) (by decide) tx53 fo_index List.mem_cons_self)
    (kn1 (r := ⟨"BadPorch", "BadPorch.__init__", ["porch"], 54, 1099⟩) hg G (rowAt c3 (k := 51) rfl) (by decide) tx54 fo_porch List.mem_cons_self)
    (kn1 (r := ⟨"CommonPerson", "CommonPerson.__init__", ["name"], 55, 1120⟩) hg G (rowAt c3 (k := 52) rfl) (by decide) tx55 fo_name List.mem_cons_self)
    (kn1 (r := ⟨"BadName", "BadName.__init__", ["name"], 56, 1141⟩) hg G (rowAt c3 (k := 53) rfl) (by decide) tx56 fo_name List.mem_cons_self)
    (kn1 (r := ⟨"BadNumbers", "BadNumbers.__init__", ["numbers"], 57, 1162⟩) hg G (rowAt c3 (k := 54) rfl) (by decide) tx57 fo_numbers List.mem_cons_self)
    (kn1 (r := ⟨"BadSeating", "BadSeating.__init__", ["index"], 58, 1183⟩) hg G (rowAt c3 (k := 55) rfl) (by decide) tx58 fo_index List.mem_cons_self)
    (kn1 (r := ⟨"NotHeard", "NotHeard.__init__", ["index"], 59, 1204⟩) hg G (rowAt c3 (k := 56) rfl) (by decide) tx59 fo_index List.mem_cons_self)
    (kn1 (r := ⟨"BadCaller", "BadCaller.__init__", ["thing"], 60, 1225⟩) hg G (rowAt c3 (k := 57) rfl) (by decide) tx60 fo_thing List.mem_cons_self)
    (kn1 (r := ⟨"BadTelling", "BadTelling.__init__", ["thing"], 61, 1246⟩) hg G (rowAt c3 (k := 58) rfl) (by decide) tx61 fo_thing List.mem_cons_self)
    (kn1 (r := ⟨"BadWish", "BadWish.__init__", ["thing"], 62, 1267⟩) hg G (rowAt c3 (k := 59) rfl) (by decide) tx62 fo_thing List.mem_cons_self)
  have G_rb : FnOk PP w (K00H.kAll g) mg base CX0 1 _ fd_rb ["one", "other"] (spErr (K00H.kAll g) 30) := ok_rb F_rb U
    (kn1 (r := ⟨"BadAnswer", "BadAnswer.__init__", ["thing"], 63, 1288⟩) hg G (rowAt c3 (k := 60) rfl) (by decide) tx63 fo_thing List.mem_cons_self)
    (kn2 (r := ⟨"NoGoBetween", "NoGoBetween.__init__", ["one", "other"], 64, 1309⟩) hg G (rowAt c3 (k := 61) rfl) (by decide) tx64 List.mem_cons_self (List.mem_cons_of_mem _ List.mem_cons_self))
    (kn1 (r := ⟨"BadDeed", "BadDeed.__init__", ["thing"], 65, 1330⟩) hg G (rowAt c3 (k := 62) rfl) (by decide) tx65 fo_thing List.mem_cons_self)
    (kn1 (r := ⟨"TakenName", "TakenName.__init__", ["name"], 66, 1351⟩) hg G (rowAt c3 (k := 63) rfl) (by decide) tx66 fo_name List.mem_cons_self)
    (kn1 (r := ⟨"HasMet", "HasMet.__init__", ["person"], 67, 1372⟩) hg G (rowAt c3 (k := 64) rfl) (by decide) tx67 fo_person List.mem_cons_self)
    (kn1 (r := ⟨"NotOutmost", "NotOutmost.__init__", ["person"], 68, 1393⟩) hg G (rowAt c3 (k := 65) rfl) (by decide) tx68 fo_person List.mem_cons_self)
    (kn2 (r := ⟨"HaveMet", "HaveMet.__init__", ["one", "other"], 69, 1414⟩) hg G (rowAt c3 (k := 66) rfl) (by decide) tx69 List.mem_cons_self (List.mem_cons_of_mem _ List.mem_cons_self))
    (kn1 (r := ⟨"BadQuestion", "BadQuestion.__init__", ["thing"], 70, 1435⟩) hg G (rowAt c3 (k := 67) rfl) (by decide) tx70 fo_thing List.mem_cons_self)
    (kn1 (r := ⟨"IsWatched", "IsWatched.__init__", ["question"], 71, 1456⟩) hg G (rowAt c3 (k := 68) rfl) (by decide) tx71 fo_question List.mem_cons_self)
    (kn1 (r := ⟨"NotWatched", "NotWatched.__init__", ["question"], 72, 1477⟩) hg G (rowAt c3 (k := 69) rfl) (by decide) tx72 fo_question List.mem_cons_self)
    (kn1 (r := ⟨"InUse", "InUse.__init__", ["question"], 73, 1498⟩) hg G (rowAt c3 (k := 70) rfl) (by decide) tx73 fo_question List.mem_cons_self)
    (kn1 (r := ⟨"WouldChange", "WouldChange.__init__", ["question"], 74, 1519⟩) hg G (rowAt c3 (k := 71) rfl) (by decide) tx74 fo_question List.mem_cons_self)
    (kn1 (r := ⟨"NoCount", "NoCount.__init__", ["number"], 75, 1540⟩) hg G (rowAt c3 (k := 72) rfl) (by decide) tx75 fo_number List.mem_cons_self)
    (kn1 (r := ⟨"BadDesk", "BadDesk.__init__", ["thing"], 76, 1561⟩) hg G (rowAt c3 (k := 73) rfl) (by decide) tx76 fo_thing List.mem_cons_self)
    (kn1 (r := ⟨"BadText", "BadText.__init__", ["line"], 77, 1582⟩) hg G (rowAt c3 (k := 74) rfl) (by decide) tx77 fo_line List.mem_cons_self)
  exact ok_law F_law F_stream F_thing F_ea F_eb F_ra F_rb (ok_stream F_stream T) (ok_thing F_thing F_draw F_pick g_draw g_pick T U hNP) G_ea G_eb G_ra G_rb g_stream g_thing g_ea g_eb g_ra g_rb T T2 U hd
end K00
namespace K00H
open PySem PySem.Spec PyProof.Rows L2
open PySem.W HandSHeadRun
theorem run (w : World) : RunEq R qv hk ob (9605 + 10600) names w := by
  intro os
  rw [end_eq]
  have a := pa w os
  have b := pb w os
  have c := pc w os
  have d := pd w os
  have e := pe w os
  cases z : end2 w os with
  | none =>
    rw [z] at a
    cases a
  | some s =>
    rw [z] at a b c d e
    have a1 : looksF R.prog (boot_heap w.params) s.abs = true := Option.some.inj a
    have b1 : seenQ qv names (importedModules R.prog.main.body) (fun s => xlAt qv [] s && recOk R.toRowW.records s) s.abs = openGood qv names := Option.some.inj b
    have c1 : He.obsD faK fn (kAll (getT s)) = He.valD fn := Option.some.inj c
    have d1 : xBit (kAll (getT s)) = true := Option.some.inj d
    have e1 : rows.map (obsR (getT s)) = rows.map valR := Option.some.inj e
    have o1 : ob s = valK := by
      show (He.obsD faK fn (kAll (getT s)), xBit (kAll (getT s)), rows.map (obsR (getT s))) = (He.valD fn, true, rows.map valR)
      rw [c1, d1, e1]
    exact congrArg some (Prod.ext a1 (Prod.ext b1 o1))
end K00H
open PySem PySem.W PySem.Calls PyProof.Rows
theorem PySem.Challenge.cw_heardsince_k00_errors_keep_what_they_are_holds : PySem.Challenge.rw_heardsince_k00_errors_keep_what_they_are.Holds := by
  w_on; o_law
  refine HandSHeadRun.head_any (r := OpenLaw.row PySem.Challenge.rw_heardsince_k00_errors_keep_what_they_are) (q := view (OpenLaw.row PySem.Challenge.rw_heardsince_k00_errors_keep_what_they_are).prog [87]) (H := K00H.hk) (ob := K00H.ob) (M := 9605 + 10600) (loose := K00H.names) (d := HandSHeadRun.topDef (OpenLaw.row PySem.Challenge.rw_heardsince_k00_errors_keep_what_they_are).prog 87) (kwd := []) K00H.ob_eq
    (by kernel_rfl) (fun s => by kernel_rfl) K00H.run (by kernel_rfl) (by kernel_rfl) (by kernel_rfl) (by rfl) (by first | assumption | decide +kernel) (by decide +kernel) ⟨rfl, rfl, rfl, rfl, rfl, by decide +kernel⟩ ?hw ?hc
  case hw => w_witness2
  case hc =>
    refine L2.walk_ofE (l := PySem.Challenge.rw_heardsince_k00_errors_keep_what_they_are) (n := 63) (k := 4) (x := "script") (CX := L2.CX0) rfl (by decide) (by kernel_rfl) ⟨rfl, by decide, by decide⟩ ?F (fun _ _ _ _ z => z)
    intro w mg fa h Y G hmg0
    have hmg : mg ("law" : PySem.Str) = some (.ref fa) := by
      have e : (HandSHeadRun.topDef (OpenLaw.row PySem.Challenge.rw_heardsince_k00_errors_keep_what_they_are).prog 87).name = ("law" : PySem.Str) := by kernel_rfl
      rw [← e]
      exact hmg0
    obtain ⟨K, fd, KX, hb, hF⟩ := K00.facts (w := w) Y G hmg
    exact ⟨K, fd, K00.spLaw K, KX, hb, fun H a ns hl _ hS => ⟨a, ns, rfl, hS, fun _ => rfl⟩, hF⟩
