import PyProof.Rows.All
import Wide.All
import OpenK.AllK
import Wide.FinOn
import HandS.ForMost
import HandS.Exc
import KE.KExcSuper
import HandS.ExcValue
import HandS.ExcIs
import HandS.ExcField
import KE.KTryMore
import KE.KExcIs
import HandS.IsInst
import HandS.ExcOwn
import HandS.WordsExc
import HandS.Walk
import HandS.Wide
import HandS.TupAny
import HandS.TupMul
import HandS.Style
import HandS.Conv
import HandS.Star
import HandS.Zip
import KE.GoesNew
import HandS.Lambda
import PyProof.ReprLen
import HandS.SortRule
import PyProof.TupleOfSeq
import HandS.Defaults
import HandS.Dict
import HandS.Small
import KE.KDictZip
import HandS.HeadEnd
import HandS.Head0
import HandS.Head1
import HandS.Head2
import HandS.HeadHook1
import HandS.HeadHook2
import HandS.HeadHook4
import PySem.Challenge.RW_allstay_k51_errors_and_constants
set_option Elab.async false
set_option linter.all false
set_option maxRecDepth 100000
set_option maxHeartbeats 4000000
namespace MP
open PySem PySem.W PySem.Calls PyProof.Rows PySem.Spec Builtin Builtin.ObjectAttr

/-! ### the maker of an error class: it may be the base's base's (KeyError has none of its own) -/
structure NewF (O newId : String) (bmB : List Value) : Prop where
  ends : newId.endsWith ".__new__" = true
  owner : newId.dropRight 8 = O
  entry : entryFor table newId = some Builtin.«BaseException.__new__»
  split : splitId newId = some (O, "__new__")
  kind : builtinKind newId = some .builtinFn
  row : Manifest.signature? newId = some ⟨.any, O, O, .cls, [⟨"args", .varPos, false⟩, ⟨"kwargs", .varKw, false⟩]⟩
  hasO : bmB.contains (.type O) = true
  noA : bmB.contains (.type "AttributeError") = false
  noN : bmB.contains (.type "NameError") = false
  canon : Manifest.canonical newId = Manifest.canonical "BaseException.__new__"
  star : (O != "*") = true
  quiet : newId.startsWith "lifetime." = false
theorem NewF.of {B newId initId : String} {bmB : List Value} (F : ExcBaseFacts B newId initId bmB) : NewF B newId bmB :=
  ⟨F.ends, F.owner, F.entry, F.newSplit, F.newKind, F.newRow, F.hasB, F.noAttr, F.noName, F.canon, F.noStar, F.quiet⟩
/-- the base's __init__ -/
structure IniF (B initId : String) : Prop where
  kind : builtinKind initId = some .slot
  row : Manifest.signature? initId = some ⟨.positional, "*", B, .self, [⟨"args", .varPos, false⟩]⟩
  star : (B != "*") = true
  plain : plainId initId = true
  entry : entryFor table initId = some Builtin.«BaseException.__init__»
theorem IniF.of {B newId initId : String} (F : ExcCallFacts B newId initId) : IniF B initId := ⟨F.initKind, F.initRow, F.noStar, F.init.plain, F.initEntry⟩
structure ErrB (B newId initId : String) (bmB : List Value) : Prop where
  new : ∃ O, NewF O newId bmB
  ini : IniF B initId
theorem ErrB.of {B newId initId : String} {bmB : List Value} (F : ExcBaseFacts B newId initId bmB) : ErrB B newId initId bmB := ⟨⟨B, NewF.of F⟩, IniF.of F.toExcCallFacts⟩
abbrev keyM : List Value := [.type "KeyError", .type "LookupError", .type "Exception", .type "BaseException", .type "object"]
theorem newF_key : NewF "LookupError" "LookupError.__new__" keyM where
  ends := PySem.F.excBase_LookupError.ends
  owner := PySem.F.excBase_LookupError.owner
  entry := PySem.F.excBase_LookupError.entry
  split := PySem.F.excBase_LookupError.newSplit
  kind := PySem.F.excBase_LookupError.newKind
  row := PySem.F.excBase_LookupError.newRow
  hasO := by decide +kernel
  noA := by decide +kernel
  noN := by decide +kernel
  canon := PySem.F.excBase_LookupError.canon
  star := PySem.F.excBase_LookupError.noStar
  quiet := PySem.F.excBase_LookupError.quiet
theorem iniF_key : IniF "KeyError" "KeyError.__init__" where
  kind := by kernel_rfl
  row := by kernel_rfl
  star := by decide
  plain := by decide +kernel
  entry := entryFor_alias (id' := "BaseException.__init__") (by rw [fastTable_eq_tree] ; kernel_rfl) (by decide +kernel) (by decide +kernel) (by rw [fastTable_eq_tree] ; kernel_rfl)
theorem errB_key : ErrB "KeyError" "LookupError.__new__" "KeyError.__init__" keyM := ⟨⟨_, newF_key⟩, iniF_key⟩
theorem kxs_key : KxsFacts "KeyError" "KeyError.__init__" := ⟨by unfold typeOf; rw [builtinType_eq_fast]; kernel_rfl, by first | rfl | kernel_rfl⟩
theorem store_key : StoreFacts "KeyError" keyM "object.__setattr__" "object" where
  passes := fun self => by kernel_rfl
  args := fun a b c => by unfold argsOk; kernel_rfl
  hasOwner := by decide +kernel
  split := by decide +kernel
  kind := by decide +kernel
  entry := PySem.F.entry_object_sa
  mro := by kernel_rfl
  slot := Slot.of (n := "__setattr__") (owner := "object") (by rw [typeLookup_type] ; rw [builtinLookup_eq_fast] ; kernel_rfl) (by decide +kernel) (by decide +kernel) (by decide +kernel) (.inl (by decide +kernel)) (by rw [isSubtype_type] ; kernel_rfl)
section
variable {nm q : Str} {C N : Addr} {bs bm bmB : List Value} {hdct : Bool} {sn : List Str} {sub : List Value} {ab : Bool} {col : Option Bool} {dd : Option Addr} {k0 k1 k2 k3 k5 : Option Value} {O newId : String}
variable {prog : Program} {w : World} {A : Around} {E : Value → Shared → Prop} {R : Result → Shared → Prop} {h : Heap} {g : Array GenState} {d : Drawn} {t : Nat} {os : OsState}
theorem newF_check {M : Model} (F : NewF O newId bmB) (hT : ∀ Y : String, bm.contains (.type Y) = bmB.contains (.type Y)) {rest : List Value} {Q : Unit → Shared → Prop}
    (cl : h.get? C = some (excClassObj nm q C N bs bm hdct sn sub ab col dd k0 k1 k2 k3 k5 newId)) (z : Q () ⟨h, g, d, t, os⟩) : wpAny M A (checkBuiltinCall newId ⟨.ref C :: rest, []⟩) Q E ⟨h, g, d, t, os⟩ := by
  have c0 : (Value.ref C :: bm).contains (.type O) = true := by rw [List.contains_cons, hT, F.hasO, Bool.or_true]
  have c1 := F.star
  simp only [checkBuiltinCall, F.kind, F.split, F.row]
  repeat (first
    | refine wpAny_loadPart_at cl ?_
    | (refine wpAny_isSubtype_exc cl ?_; rw [c0])
    | refine wpAny_staticBase_exc cl ?_
    | refine wpAny_madeBy_exc cl ?_
    | simp only [bne_self_eq_false, Bool.false_eq_true, if_false]
    | wp_step)
  exact z
theorem newF_new (F : NewF O newId bmB) (hT : ∀ Y : String, bm.contains (.type Y) = bmB.contains (.type Y)) {rest : List Value}
    (cl : h.get? C = some (excClassObj nm q C N bs bm hdct sn sub ab col dd k0 k1 k2 k3 k5 newId)) (sz : rest.length ≤ sizeLine)
    (z : R (.ok (.ret (.ref (h.objs.size + 1)))) ⟨(h.push (kdv_tup rest)).push (HandSPX.excO C h.objs.size), g, d, t, os⟩) :
    codeAny (model prog w) A (.builtin newId ⟨.ref C :: rest, []⟩) R ⟨h, g, d, t, os⟩ := by
  have c0 : (Value.ref C :: bm).contains (.type O) = true := by rw [List.contains_cons, hT, F.hasO, Bool.or_true]
  have c1 : (Value.ref C :: bm).contains (.type "AttributeError") = false := by rw [List.contains_cons, hT, F.noA]; rfl
  have c2 : (Value.ref C :: bm).contains (.type "NameError") = false := by rw [List.contains_cons, hT, F.noN]; rfl
  have c3 := F.ends
  have hrest := sz
  refine codeAny_builtinAt F.entry ?_
  unfold Builtin.«BaseException.__new__»
  refine PySem.wpAt_bind ?_
  show PySem.wpAt _ _ _ (stack >>= _) _ _ _
  refine PySem.wpAt_bind (PySem.wpAt_stack fun p below => PySem.wpAt_of_wpAny ?_)
  wp_walk
  refine PySem.wpAt_of_wpAny ?_
  rw [F.owner]
  repeat (first
    | with_reducible refine wpAny_madeHere_exc F.canon cl ?_
    | with_reducible refine wpAny_loadPart_at cl ?_
    | (with_reducible refine wpAny_isSubtype_exc cl ?_; first | rw [c0] | rw [c1] | rw [c2])
    | wp_step)
  show R _ _
  rw [Heap.size_push]
  exact z
theorem newF_type (F : NewF O newId bmB) (hT : ∀ Y : String, bm.contains (.type Y) = bmB.contains (.type Y)) {rest : List Value} {fI : Addr} {Q : Fin → Shared → Prop}
    (cl : h.get? C = some (excClassObj nm q C N bs bm hdct sn sub ab col dd k0 k1 k2 k3 k5 newId))
    (hi : Looks (model prog w) h (typeLookup (.ref C) "__init__") (some (.ref fI))) (hb : ∀ self, Looks (model prog w) h (bindSpecial (.ref fI) self) (.ref fI, [self])) (sz : rest.length ≤ sizeLine)
    (z : codeAny (model prog w) A (.call (.ref fI) ⟨.ref (h.objs.size + 1) :: rest, []⟩)
      (fun r s' => match r with | .ok (.ret v) => v = .none ∧ Q (.done (.ret (.ref (h.objs.size + 1)))) s' | .ok _ => False | .error e => E e s')
      ⟨(h.push (kdv_tup rest)).push (HandSPX.excO C h.objs.size), g, d, t, os⟩) :
    wpAny (model prog w) A (Builtin.«type.__call__» ⟨.ref C :: rest, []⟩) Q E ⟨h, g, d, t, os⟩ := by
  repeat (first
    | with_reducible refine wpAny_loadPart_at cl ?_
    | with_reducible refine wpAny_madeBy_exc cl ?_
    | wp_step)
  refine codeAny_call_builtin_code (Code.quiet_builtin _ F.quiet) (newF_check F hT cl ?_)
  refine newF_new F hT cl sz ?_
  show wpAny _ _ _ _ _ _
  have kk : ∀ b o, h.get? b = some o → ((h.push (kdv_tup rest)).push (HandSPX.excO C h.objs.size)).get? b = some o := fun b o e => Heap.get?_push_of_some _ (Heap.get?_push_of_some _ e)
  have cl1 := kk _ _ cl
  have e1 : ((h.push (kdv_tup rest)).push (HandSPX.excO C h.objs.size)).get? (h.objs.size + 1) = some (HandSPX.excO C h.objs.size) := by heap_get
  have c4 : (Value.ref C :: bm).contains (.ref C) = true := by simp
  have i1 := hi.keeps kk
  have b1 := (hb (.ref (h.objs.size + 1))).keeps kk
  unfold isInstance
  repeat (first
    | with_reducible refine wpAny_loadPart_at e1 ?_
    | (with_reducible refine wpAny_isSubtype_exc cl1 ?_; rw [c4])
    | wp_step)
  show wpAny _ _ (typeLookup (.ref C) _) _ _ _
  refine i1.at ?_
  refine wpAny_holding (wpAny_bind (b1.at ?_))
  refine wpAny_bind (wpAny_call (codeAny_mono z fun r s' y => ?_))
  rcases r with e | (v | _ | _ | _) <;> first | exact y | exact y.elim | skip
  obtain ⟨rfl, y⟩ := y
  first
    | exact wpAny_pure (wpAny_pure y)
    | (wp_walk; exact y)
theorem newF_call (F : NewF O newId bmB) (hT : ∀ Y : String, bm.contains (.type Y) = bmB.contains (.type Y)) {rest : List Value} {fI : Addr}
    (cl : h.get? C = some (excClassObj nm q C N bs bm hdct sn sub ab col dd k0 k1 k2 k3 k5 newId))
    (hi : Looks (model prog w) h (typeLookup (.ref C) "__init__") (some (.ref fI))) (hb : ∀ self, Looks (model prog w) h (bindSpecial (.ref fI) self) (.ref fI, [self])) (sz : rest.length ≤ sizeLine)
    (z : codeAny (model prog w) (A.under (.builtin "type.__call__" ⟨.ref C :: rest, []⟩)) (.call (.ref fI) ⟨.ref (h.objs.size + 1) :: rest, []⟩) (InitBack (h.objs.size + 1) R)
      ⟨(h.push (kdv_tup rest)).push (HandSPX.excO C h.objs.size), g, d, t, os⟩) :
    codeAny (model prog w) A (.call (.ref C) ⟨rest, []⟩) R ⟨h, g, d, t, os⟩ := by
  have y1 := tc_lookup
  have y2 := tc_bind (.ref C)
  have y3 : (⟨h, g, d, t, os⟩ : Shared).TypeIs (.ref C) "type" := ⟨_, cl, rfl⟩
  refine codeAny_of_tree ?_
  show wpAny _ _ (callAny (.ref C) _) _ _ _
  repeat (any_goals (first
    | assumption
    | with_reducible refine wpAny_loadPart_at cl ?_
    | wp_step))
  refine ⟨rfl, ?_⟩
  refine codeAny_call_builtin_at (Code.quiet_builtin _ (by decide +kernel)) entry_typeCall (wpAny_check_type_call_sub cl (newF_type F hT cl hi hb sz ?_))
  refine codeAny_mono z fun r s' y => ?_
  rcases r with e | (v | _ | _ | _) <;> exact y
end
theorem iniF_check {B initId newId : String} (F : IniF B initId) {M : Model} {A : Around} {E : Value → Shared → Prop} {h : Heap} {g : Array GenState} {d : Drawn} {t : Nat} {os : OsState} {nm q : Str} {C N e : Addr} {oe : Obj} {bs bm : List Value} {hdct : Bool} {sn : List Str} {sub : List Value} {ab : Bool} {col : Option Bool} {dd : Option Addr} {k0 k1 k2 k3 k5 : Option Value} {rest : List Value} {Q : Unit → Shared → Prop}
    (cl : h.get? C = some (excClassObj nm q C N bs bm hdct sn sub ab col dd k0 k1 k2 k3 k5 newId)) (he : h.get? e = some oe) (hc : oe.cls = .ref C) (z : Q () ⟨h, g, d, t, os⟩) : wpAny M A (checkBoundCall initId ⟨.ref e :: rest, []⟩) Q E ⟨h, g, d, t, os⟩ := by
  have c1 := F.star
  simp only [checkBoundCall, F.kind, F.row]
  repeat (first
    | (with_reducible refine wpAny_loadPart_at he ?_; rw [hc])
    | with_reducible refine wpAny_loadPart_at cl ?_
    | wp_step)
  refine wpAny_onRaise ?_
  exact wpAny_of_eq (check_star_args _ _ _ _ _ _) z
end MP

set_option Elab.async false
set_option linter.all false
set_option maxRecDepth 100000
set_option maxHeartbeats 4000000
namespace MP
open PySem PySem.W PySem.Calls PyProof.Rows PySem.Spec Builtin Builtin.ObjectAttr

/-! ### an error of the program is made: its own __init__ says super().__init__(text), then stores one field -/
def iniScope (fld : Str) : Scope := { kind := .function, names := [("self", .local), (fld, .local), ("__class__", .free), ("super", .globalImplicit)], isGenerator := false, isCoroutine := false, more := [] }
abbrev iniBody (txt fld : Str) (j : Nat) (p0 p1 p2 p3 p4 p5 p6 p7 p8 p9 : Pos) : List Stmt :=
  [.Expr (.Call (.Attribute (.Call (.Name "super" p0) [] [] p1) "__init__" p2) [.Constant (.str txt) j p3] [] p4) p5, .Assign [.Attribute (.Name "self" p6) fld p7] (.Name fld p8) p9]
abbrev iniPar (fld : Str) (q1 q2 : Pos) : Arguments := { posonlyargs := [], args := [{ arg := "self", annotation := none, pos := q1 }, { arg := fld, annotation := none, pos := q2 }], vararg := none, kwonlyargs := [], kw_defaults := [], kwarg := none, defaults := [] }
/-- what the written part says of an error class C: its field, its built-in base -/
structure ErrC (P : Program) (K : Frag) (C : Addr) (fld : Str) (B newId initId : String) (bmB : List Value) : Prop where
  FB : ErrB B newId initId bmB
  KF : KxsFacts B initId
  SF : StoreFacts B bmB "object.__setattr__" "object"
  made : excInitIn K C bmB newId = true
  over : excOver K C bmB = true
  dict : hasDictIn K C = true
  sa : findIn K (.ref C) "__setattr__" = some (some (.builtin "object.__setattr__"))
  tk : takerIn K C fld = some none
  sub : subIn K (.ref C) (.type B) = some true
  own : mroIn K C (.ref C) = some true
  sup : ks_superIn K C C "__init__" = some (some (.builtin initId))
  opq : nsIn K cStatics "thirdparty.any" = some none
  top : (P.main.scope.names.lookup ("super" : Str)).isSome = false
  ne : fld ≠ "self" ∧ fld ≠ "__class__" ∧ fld ≠ "super"
  dbg : (fld == ("__debug__" : Str)) = false
  ini : ∃ (fI cc cda : Addr) (oc ccl cl : Value) (od cdd cld : Option Addr) (osl ccs csl : Array (Option Value)) (nm ql txt file : Str) (tf : Tok) (j : Nat) (q1 q2 p0 p1 p2 p3 p4 p5 p6 p7 p8 p9 : Pos) (dV kV doc pm ct : Value) (an : Option Addr) (vs : Array Value),
    findIn K (.ref C) "__init__" = some (some (.ref fI)) ∧ isFn K (.ref fI) = true ∧
    K.lookup fI = some ⟨oc, od, .func (ksFn nm ql (iniPar fld q1 q2) (iniBody txt fld j p0 p1 p2 p3 p4 p5 p6 p7 p8 p9) (iniScope fld) dV kV doc pm an (.ref cda) ct cc), osl⟩ ∧ codeIn K (.ref cda) ql = true ∧
    K.lookup cda = some ⟨ccl, cdd, .fields vs, ccs⟩ ∧ vs[2]? = some (.str file tf) ∧ (p2.endLine == p4.line) = true ∧ ((P.main.file : Str) == file) = true ∧ K.lookup cc = some ⟨cl, cld, .cell (some (.ref C)), csl⟩ ∧
    (∀ a b : Value, bindArgs (ksFn nm ql (iniPar fld q1 q2) (iniBody txt fld j p0 p1 p2 p3 p4 p5 p6 p7 p8 p9) (iniScope fld) dV kV doc pm an (.ref cda) ct cc) ⟨[a, b], []⟩ = pure [(("self" : Str), a), (fld, b)])

theorem sup_eval {txt : Str} {j : Nat} {p0 p1 p2 p3 p4 : Pos} (h : (p2.endLine == p4.line) = true) (env : Env) :
    eval (.Call (.Attribute (.Call (.Name "super" p0) [] [] p1) "__init__" p2) [.Constant (.str txt) j p3] [] p4) env = (do
      let ov ← attributeBase (.Call (.Name "super" p0) [] [] p1) "__init__" env (eval (.Call (.Name "super" p0) [] [] p1) env)
      standAt p2.atName
      let (f, first) ← holding [ov] (getMethod ov "__init__" (do return (← importBound (.Call (.Name "super" p0) [] [] p1) env).getD true))
      callWith p4 f first (backTo p4 (starEach [.Constant (.str txt) j p3] env)) []) := by
  have hpos : methodCallPos true (.Call (.Name "super" p0) [] [] p1) env p2 p4 = pure p4 := by unfold methodCallPos; simp [h]
  rw [arm_eval_Call]
  unfold methodCall
  show (attributeBase _ _ _ _ >>= fun ov => standAt _ >>= fun _ => (holding [ov] (calleeOf true _ _ ov _) >>= fun x => methodCallPos true (.Call (.Name "super" p0) [] [] p1) env p2 p4 >>= fun cp => callWith cp x.1 x.2 _ _)) = _
  rw [hpos]
  rfl
section
variable {P : Program} {w : World} {A : Around} {E : Value → Shared → Prop} {K : Frag} {C : Addr} {fld : Str} {B newId initId : String} {bmB : List Value}
/-- self.f = v, the first one -/
theorem err_store (T : ErrC P K C fld B newId initId bmB) {hp : Heap} {g : Array GenState} {d : Drawn} {t : Nat} {os : OsState} {x : Addr} {fv : Array Value} {v : Value} {Q : Unit → Shared → Prop}
    (X : K.In hp) (hx : hp.get? x = some { cls := .ref C, data := .fields fv })
    (hq : ∀ h' tk' dx, (∀ b o, b ≠ x → hp.get? b = some o → h'.get? b = some o) → hp.objs.size ≤ dx → dx ≠ x → h'.get? x = some { cls := .ref C, dict := some dx, data := .fields fv } →
      h'.Ns1 dx (fun y => if y = fld then some v else none) → Q () ⟨h', g, d, tk', os⟩) :
    wpAny (model P w) A (setAttr (.ref x) fld v) Q E ⟨hp, g, d, t, os⟩ := by
  have I : InstAt hp x { cls := .ref C, data := .fields fv } C none := ⟨hx, rfl, rfl, trivial⟩
  have hxs : x ≠ hp.objs.size := Nat.ne_of_lt (Heap.lt_size hx)
  refine set_plain X I T.sa (osa_openX T.SF X I T.over T.tk fun b => ?_)
  obtain ⟨cd, hcd, hh⟩ := any_some T.dict
  have hcls : Looks (model P w) hp (classData C) cd := looks_clsIn X hcd
  obtain ⟨nm, bs, mro, ns, qn, hd, sn, sb, ab, col, del⟩ := cd
  dsimp only at hh
  subst hh
  show wpAny _ _ (storeInOwnDict (.ref x) (.ref C) (.str fld _) fld v b) _ _ _
  unfold storeInOwnDict ownDictForStores
  repeat (first | with_reducible refine HandSPX.store_in_new ?_ ?_ | with_reducible refine wpAny_loadPart_at hx ?_ | with_reducible refine hcls.at ?_ | wp_step)
  · exact ⟨_, #[], _, (Heap.get?_update_ne _ _ _ _ hxs.symm).trans (Heap.get?_push_at rfl rfl), rfl, fun e he => absurd he (by simp), fun _ => rfl⟩
  · intro h' tk' hn' hs
    have hx1 : (hp.push { cls := .type "dict", data := .dict #[] }).get? x = some { cls := .ref C, data := .fields fv } := Heap.get?_push_of_some _ hx
    refine hq h' tk' hp.objs.size (fun b o hb ho => ?_) (Nat.le_refl _) hxs.symm ?_ hn'
    · exact (hs.2 b (Nat.ne_of_lt (Heap.lt_size ho))).trans ((Heap.get?_update_ne _ _ _ _ hb).trans (Heap.get?_push_of_some _ ho))
    · exact (hs.2 x hxs).trans (Heap.get?_update_self _ hx1 rfl)
/-- the bound __init__ of the base, called -/
theorem err_base (T : ErrC P K C fld B newId initId bmB) {h : Heap} {g : Array GenState} {d : Drawn} {t : Nat} {os : OsState} {u e t0 : Addr} {rest : List Value} {Q : Value → Shared → Prop} (X : K.In h) (hu : h.get? u = some (kxs_mw initId e))
    (he : h.get? e = some (HandSPX.excO C t0)) (hz : rest.length ≤ sizeLine)
    (hq : ∀ h' t1, (∀ b o, b ≠ e → h.get? b = some o → h'.get? b = some o) → h'.get? e = some (HandSPX.excO C t1) → Q .none ⟨h', g, d, t, os⟩) :
    wpAny (model P w) A (call (.ref u) rest) Q E ⟨h, g, d, t, os⟩ := by
  obtain ⟨nm, N', qn, bs, bm, hdct, sn, sub, ab, col, dd, k0, k1, k2, k3, k5, hC, hT⟩ := excInit_of X T.made
  refine wpAny_call (codeAny_of_tree ?_)
  show wpAny _ A.in1 (callAny (.ref u) ⟨rest, []⟩) _ _ _
  simp only [callAny]
  refine wpAny_bind (wpAny_load hu ?_)
  simp only [kxs_mw, show (Value.type "method-wrapper" == Value.type "method" || Value.type "method-wrapper" == Value.type "builtin_function_or_method" || Value.type "method-wrapper" == Value.type "method-wrapper") = true by decide, if_true]
  refine KFB.if_so (by decide) ?_
  refine wpAny_bind (iniF_check T.FB.ini hC he rfl ?_)
  refine wpAny_bind (wpAny_pure (wpAny_pure ?_))
  refine ⟨plainId_quiet T.FB.ini.plain _, codeAny_builtin T.FB.ini.entry ?_⟩
  exact exc_init_tree (cls := .ref C) (t0 := t0) (dv := none) (c2 := .none) (c3 := .none) (b4 := .bool false) he hz fun h' k e' _ => hq h' _ k e'
theorem err_init (T : ErrC P K C fld B newId initId bmB) {R : Result → Shared → Prop} {s : Shared} {mg mb : Str → Option Value} {e t0 : Addr} {u : Value} (X : K.In s.heap) (hroom : A.depth < recursionLimit) (lim : s.heap.NoLimit)
    (hg : s.heap.Ns mainGlobals mg) (hb : s.heap.Ns builtinsNs mb) (hbb : ∀ x : Str, x ≠ "__name__" → mb x = bootBuiltins x) (hsup : mg "super" = none) (he : s.heap.get? e = some (HandSPX.excO C t0)) (heK : K.lookup e = none)
    (h : ∀ h' tk' dx t1, (∀ b o, b ≠ e → s.heap.get? b = some o → h'.get? b = some o) → s.heap.objs.size ≤ dx → h'.get? e = some { cls := .ref C, dict := some dx, data := .fields #[.ref t1, .none, .none, .none, .bool false, .none] } →
      h'.Ns1 dx (fun y => if y = fld then some u else none) → R (.ok (.ret .none)) { s with heap := h', toks := tk' }) :
    ∃ fI, findIn K (.ref C) "__init__" = some (some (.ref fI)) ∧ isFn K (.ref fI) = true ∧ codeAny (model P w) A (.call (.ref fI) ⟨[.ref e, u], []⟩) R s := by
  obtain ⟨fI, cc, cda, oc, ccl, cl, od, cdd, cld, osl, ccs, csl, nm, ql, txt, file, tf, j, q1, q2, p0, p1, p2, p3, p4, p5, p6, p7, p8, p9, dV, kV, doc, pm, ct, an, vs, h1, h2, h3, h4, h5, h6, hln, h7, h8, h9⟩ := T.ini
  refine ⟨fI, h1, h2, ?_⟩
  obtain ⟨n1, n2, n3⟩ := T.ne
  have lkS : (iniScope fld).names.lookup ("self" : Str) = some .local := rfl
  have bne : ∀ {a b : Str}, a ≠ b → (a == b) = false := fun h => by simpa using h
  have lkF : (iniScope fld).names.lookup fld = some .local := by
    unfold iniScope
    simp [List.lookup, bne n1]
  have lkC : (iniScope fld).names.lookup ("__class__" : Str) = some .free := by
    unfold iniScope
    have e1 : (("__class__" : Str) == "self") = false := by decide
    have e2 : (("__class__" : Str) == fld) = false := bne (Ne.symm n2)
    simp [List.lookup, e1, e2]
  have lkG : (iniScope fld).names.lookup ("super" : Str) = some .globalImplicit := by
    unfold iniScope
    have e1 : (("super" : Str) == "self") = false := by decide
    have e2 : (("super" : Str) == fld) = false := bne (Ne.symm n3)
    have e3 : (("super" : Str) == "__class__") = false := by decide
    simp [List.lookup, e1, e2, e3]
  refine ks_codeAny_call_defAt (fd := ksFn nm ql (iniPar fld q1 q2) (iniBody txt fld j p0 p1 p2 p3 p4 p5 p6 p7 p8 p9) (iniScope fld) dV kV doc pm an (.ref cda) ct cc) (binds := [(("self" : Str), .ref e), (fld, u)]) hroom (X _ _ h3) rfl lim (codeRec_of X h4) rfl (BindsTo.of_eq (h9 _ _)) ?_ ?_ (fun h₀ hns kp => ?_)
  · intro x hx
    simp only [iniScope, List.mem_cons, List.not_mem_nil, or_false] at hx
    rcases hx with rfl | rfl | rfl | rfl <;> (intro z; cases z)
  · intro y hy
    simp only [List.mem_cons, List.not_mem_nil, or_false] at hy
    rcases hy with rfl | rfl
    · exact lkS
    · exact lkF
  have X0 : K.In h₀ := X.keeps kp
  have he0 := kp _ _ he
  have mS : ([(("self" : Str), Value.ref e), (fld, u)].reverse.lookup ("self" : Str)) = some (.ref e) := by simp [List.lookup, bne (Ne.symm n1)]
  have mF : ([(("self" : Str), Value.ref e), (fld, u)].reverse.lookup fld) = some u := by simp [List.lookup]
  obtain ⟨cd, hcd, _⟩ := any_some T.dict
  obtain ⟨oD, hD1, hD2⟩ : ∃ oD, h₀.get? C = some oD ∧ oD.data = .cls cd := by
    have hcd' := hcd
    unfold clsIn at hcd'
    split at hcd'
    · rename_i c dd' cd' sl ho
      cases hcd'
      exact ⟨_, X0 _ _ ho, rfl⟩
    · cases hcd'
  refine ks_wpAt_execs_cons (ks_wpAt_Expr_any (ks_wpAt_MethodCall (pl := do return (← importBound (.Call (.Name "super" p0) [] [] p1) (callEnv (ksFn nm ql (iniPar fld q1 q2) (iniBody txt fld j p0 p1 p2 p3 p4 p5 p6 p7 p8 p9) (iniScope fld) dV kV doc pm an (.ref cda) ct cc) s.heap.objs.size fI)).getD true) ?_ (sup_eval hln _)))
  refine ks_wpAt_super_base lkG lkC (by decide) rfl (X0 _ _ h3) rfl rfl rfl (X0 _ _ h5) rfl h6 h7 T.top ?_
  refine ks_loadName_global rfl lkG (loadGlobal_builtin (hg.keeps kp) hsup (hb.keeps kp) ((hbb _ (by decide +kernel)).trans PyProof.Rows.Boot.super) ⟨rfl, ?_⟩)
  refine wpAny_loadName_free rfl lkC rfl ⟨_, X0 _ _ h8, rfl⟩ ?_
  refine wpAny_loadName_local rfl lkS hns mS ?_
  refine ks_wpAny_isType_cls hD1 hD2 ⟨rfl, ?_⟩
  refine ks_wpAny_call_super hD1 hD2 he0 rfl (fun c z => by cases z) (looks_mroIn X0 T.own) (fun h₁ e1 k1 => ?_)
  have X1 : K.In h₁ := X0.keeps k1
  have I1 : InstAt h₁ e (HandSPX.excO C t0) C none := ⟨k1 _ _ he0, rfl, rfl, trivial⟩
  have hsu := T.sup
  unfold ks_superIn at hsu
  rw [hcd] at hsu
  refine kxs_getMethod T.KF e1 (looks_opaque X1 T.opq) (l₀ := cd.mro) (fun A Q E s k q => wpAny_bind ((looks_clsIn X1 hcd) A _ E s k (wpAny_pure q))) rfl X1 hsu (I1.type.andThen (looks_subIn X1 T.sub)) (ks_ne X1 I1 hcd) (by decide) ?_
  refine kxs_callWith (i := initId) (x := e) rfl ?_
  refine evalArgs_plain (spliced_cons (@Calls.Constant_str _ _ _ _ _ _ j p3 _ (spliced_nil ⟨Heap.get?_push_size _ rfl, ?_⟩)))
  have he2 : (h₁.push (kxs_mw initId e)).get? e = some (HandSPX.excO C t0) := Heap.get?_push_of_some _ (k1 _ _ he0)
  have X2 : K.In (h₁.push (kxs_mw initId e)) := X1.keeps fun b o z => Heap.get?_push_of_some _ z
  refine err_base T X2 (Heap.get?_push_size _ rfl) he2 (by show 1 ≤ sizeLine; decide) fun h₃ t1 k3 e3 => ?_
  have cne : C ≠ e := fun z => by
    rw [z, he0] at hD1
    cases hD1
    cases hD2
  have k03 : ∀ b o, b ≠ e → h₀.get? b = some o → h₃.get? b = some o := fun b o hb q => k3 b o hb (Heap.get?_push_of_some _ (k1 _ _ q))
  have X3 : K.In h₃ := fun b o q => k03 b o (fun z => by rw [z, heK] at q; cases q) (X0 _ _ q)
  obtain ⟨oL, esL, epL, hL, hLr⟩ := hns
  have lne : s.heap.objs.size ≠ e := Nat.ne_of_gt (Heap.lt_size he)
  have hns3 : h₃.Ns s.heap.objs.size fun x => [(("self" : Str), Value.ref e), (fld, u)].reverse.lookup x := ⟨oL, esL, epL, k03 _ _ lne hL, hLr⟩
  refine ks_wpAt_execs_cons (ks_wpAt_Assign_Attr (wpAt_of_wpAny (wpAny_Name (wpAny_loadName_local rfl lkF hns3 mF (wpAny_Name (wpAny_loadName_local rfl lkS hns3 mS ?_) (by decide))) T.dbg)))
  refine err_store T X3 e3 fun h₄ tk4 dx k4 hdx hne hx4 hn4 => ?_
  refine wpAt_of_wpAny (wpAny_execs_nil ?_)
  refine h h₄ tk4 dx t1 (fun b o hb q => k4 b o hb (k03 b o hb (kp b o q))) ?_ hx4 hn4
  have z1 : s.heap.objs.size < h₃.objs.size := Heap.lt_size (k03 _ _ lne hL)
  omega
/-- C(u): a new error -/
theorem err_make (T : ErrC P K C fld B newId initId bmB) {R : Result → Shared → Prop} {s : Shared} {mg mb : Str → Option Value} {u : Value} (X : K.In s.heap) (hroom : (A.under (.builtin "type.__call__" ⟨[.ref C, u], []⟩)).depth < recursionLimit) (lim : s.heap.NoLimit)
    (hg : s.heap.Ns mainGlobals mg) (hb : s.heap.Ns builtinsNs mb) (hbb : ∀ x : Str, x ≠ "__name__" → mb x = bootBuiltins x) (hsup : mg "super" = none)
    (h : ∀ h' tk' a dx t1, (∀ b o, s.heap.get? b = some o → h'.get? b = some o) → s.heap.objs.size ≤ a → s.heap.objs.size ≤ dx → h'.get? a = some { cls := .ref C, dict := some dx, data := .fields #[.ref t1, .none, .none, .none, .bool false, .none] } →
      h'.Ns1 dx (fun y => if y = fld then some u else none) → R (.ok (.ret (.ref a))) { s with heap := h', toks := tk' }) :
    codeAny (model P w) A (.call (.ref C) ⟨[u], []⟩) R s := by
  obtain ⟨nm, N', qn, bs, bm, hdct, sn, sub, ab, col, dd, k0, k1, k2, k3, k5, hC, hT⟩ := excInit_of X T.made
  obtain ⟨hp, g, d, t, os⟩ := s
  have kk : ∀ b o, hp.get? b = some o → ((hp.push (kdv_tup [u])).push (HandSPX.excO C hp.objs.size)).get? b = some o := fun b o e => Heap.get?_push_of_some _ (Heap.get?_push_of_some _ e)
  have hget : ((hp.push (kdv_tup [u])).push (HandSPX.excO C hp.objs.size)).get? (hp.objs.size + 1) = some (HandSPX.excO C hp.objs.size) := by heap_get
  have heK : K.lookup (hp.objs.size + 1) = none := by
    cases q : K.lookup (hp.objs.size + 1) with
    | none => rfl
    | some o =>
      have z : hp.objs.size + 1 < hp.objs.size := Heap.lt_size (X _ _ q)
      exact absurd (Nat.lt_of_succ_lt z) (Nat.lt_irrefl _)
  obtain ⟨fI, f1, f2, f3⟩ := err_init (w := w) (A := A.under (.builtin "type.__call__" ⟨[.ref C, u], []⟩)) (R := InitBack (hp.objs.size + 1) R) T (s := ⟨(hp.push (kdv_tup [u])).push (HandSPX.excO C hp.objs.size), g, d, t, os⟩) (mg := mg) (mb := mb) (u := u) (X.keeps kk) hroom (lim.keeps kk)
    (hg.keeps kk) (hb.keeps kk) hbb hsup hget heK (fun h' tk' dx t1 k hdx ha hn => ⟨rfl, h h' tk' (hp.objs.size + 1) dx t1 (fun b o e => k b o (fun z => by
      rw [z] at e
      have y : hp.objs.size + 1 < hp.objs.size := Heap.lt_size e
      exact absurd (Nat.lt_of_succ_lt y) (Nat.lt_irrefl _)) (kk b o e)) (Nat.le_succ _) (by
      have z : ((hp.push (kdv_tup [u])).push (HandSPX.excO C hp.objs.size)).objs.size ≤ dx := hdx
      rw [Heap.size_push, Heap.size_push] at z
      exact Nat.le_trans (Nat.le_add_right _ 2) z) ha hn⟩)
  obtain ⟨O, FN⟩ := T.FB.new
  exact newF_call FN hT hC (looks_findIn X f1) (fun self => bind_fn X self (beq_iff_eq.mp f2)) (by show 1 ≤ sizeLine; decide) f3
end
end MP

set_option Elab.async false
set_option linter.all false
set_option maxRecDepth 100000
set_option maxHeartbeats 4000000
namespace MP
open PySem PySem.Spec PyProof.Rows L2

/-- at a: an error object of the class cls, with its dict -/
def ErO (cls : Value) (d : Option Addr) (a : Addr) : HO := .ext fun h => ∃ (oe : Obj) (vs : Array Value), h.get? a = some oe ∧ Zc cls d oe ∧ oe.data = .fields vs
theorem erO_ok {P : Program} {w : World} {H : Hp} {h : Heap} {a : Addr} {cls : Value} {d : Option Addr} {oe : Obj} {vs : Array Value} (e : h.get? a = some oe) (z : Zc cls d oe) (f : oe.data = .fields vs) : ObjOk P w H h a (ErO cls d a) :=
  ⟨⟨oe, vs, e, z, f⟩, ⟨oe, e⟩, fun _ _ ⟨o, v, q, r⟩ k => ⟨o, v, k o q, r⟩⟩
theorem erO_at {P : Program} {w : World} {H : Hp} {h : Heap} {a : Addr} {cls : Value} {d : Option Addr} (hok : HOk P w H h) (he : H a = some (ErO cls d a)) : ∃ (oe : Obj) (vs : Array Value), h.get? a = some oe ∧ Zc cls d oe ∧ oe.data = .fields vs := by
  have x : ObjOk P w H h a (.ext fun h => ∃ (oe : Obj) (vs : Array Value), h.get? a = some oe ∧ Zc cls d oe ∧ oe.data = .fields vs) := hok a _ he
  exact x.1
section
variable {X : Cx} {pins : List (Addr × Obj)} {σ : L2.St} {H : Hp} {s : Shared}
/-- an object of ours that nobody tracks, a record, is tracked from now on -/
theorem track {a : Addr} {oe : Obj} {vs : Array Value} {o : HO} (I : Inv X pins σ H s) (ha : s.heap.get? a = some oe) (hd : oe.data = .fields vs) (hn : H a = none) (h0 : X.s_0.heap.get? a = none) (nL : a ≠ X.env.locals) (hp : ∀ p ∈ X.pn ++ pins, p.1 ≠ a)
    (new : ObjOk X.prog X.w (upd H a o) s.heap a o) : Inv X pins σ (upd H a o) s where
  ok := I.ok
  os := I.os
  bare := I.bare
  base := {
    keep := I.base.keep
    slot := I.base.slot
    free := fun b u e n hx => by rw [upd_ne (fun z => by rw [z, h0] at e; cases e)]; exact I.base.free b u e n hx
    there := I.base.there
    tups := fun b xs e => by have q := I.base.tups b xs e; rw [upd_ne (ne_of_none q hn)]; exact q
    frzs := fun b u v e => by have q := I.base.frzs b u v e; rw [upd_ne (ne_of_none q hn)]; exact q
    tbls := fun b ps e => by obtain ⟨m, q⟩ := I.base.tbls b ps e; exact ⟨m, by rw [upd_ne (ne_of_none q hn)]; exact q⟩ }
  loc := I.loc
  cell := I.cell
  free := by rw [upd_ne (Ne.symm nL)]; exact I.free
  freeC := fun x c e => by
    rw [upd_ne (fun z => by
      obtain ⟨v, ob, ho, hc⟩ := I.cell x c e
      rw [z, ha] at ho; cases ho
      rw [hd] at hc; cases hc)]
    exact I.freeC x c e
  pin := fun p q => by
    obtain ⟨h1, h2, h3⟩ := I.pin p q
    exact ⟨h1, by rw [upd_ne (hp p q)]; exact h2, h3⟩
  hok := fun b u e => by
    by_cases z : b = a
    · subst z; rw [upd_same] at e; cases e; exact new
    · rw [upd_ne z] at e
      exact (I.hok b u e).stay (fun _ _ _ q => q) (fun c q => by rw [upd_ne (ne_of_none q hn)]; exact q) fun c xs q => by rw [upd_ne (ne_of_none q hn)]; exact q
  len := I.len
end
/-! ### raise C(e) -/
theorem pmk_err {X : Cx} {C : Addr} {fld x : Str} {B newId initId : String} {bmB : List Value} {k : Nat} {e : Expr} {te : TE} {p pos : Pos} (T : ErrC X.prog X.K C fld B newId initId bmB) (exC : PySem.W.subIn X.K (.ref C) (.type "BaseException") = some true)
    (tyC : PySem.W.typeIn X.K (.ref C) = some (.type "type")) (kC : PySem.W.keepIn X.K (.ref C) = true) (hsup : X.mg "super" = none) (hr : Room k X.A) (hg : Gl X x) (hm : X.mg x = some (.ref C)) (he : PE X e te)
    (hs : starEach [e] X.env = (false, eval e X.env) :: starEach [] X.env := by rfl) (hdb : (x == ("__debug__" : Str)) = false := by decide) :
    PMk X (.Call (.Name x p) [e] [] pos) (fun σ H Q => te σ H fun v H1 => ∀ d, H1 d = none → Q (.ref C) (some d) (upd H1 d (.xd [(fld, v)]))) := by
  intro pins s σ H Q I h
  refine wpAny_Call_Name_kw (ld_glob I hg hm ?_ hdb)
  refine PySem.W.callWith_K (h₀ := X.base) I.ok.mod.kin kC ?_ hs (by rfl)
  rw [hs]
  show wpAny _ _ (spliced ((false, eval e X.env) :: backTo pos (starEach [] X.env))) _ _ s
  refine Calls.spliced_cons (thn (he.run pins s σ H _ I h) fun u s1 ⟨v, H1, I1, r1, q1⟩ => ?_)
  refine Calls.spliced_nil ⟨I1.kIn, ?_⟩
  show wpAny _ _ (call (.ref C) [u]) _ _ _
  obtain ⟨mb, b1, b2⟩ := I1.ok.mod.blt
  refine wpAny_call (err_make T I1.kIn (by rw [make_depth]; have := hr.dp; omega) I1.nolimit (I1.ok.mod.glob.keeps I1.bk) (b1.keeps I1.bk) b2 hsup fun h' tk' a dx t1 kp sa sd ha hn => ?_)
  obtain ⟨G, g1, g2⟩ := restrict h' fun b => decide (b ≠ a)
  have ga : G.get? a = none := g2 a (decide_eq_false fun z => z rfl)
  have gk : ∀ b, b ≠ a → G.get? b = h'.get? b := fun b hb => g1 b (decide_eq_true hb)
  have gs : ∀ b o, G.get? b = some o → h'.get? b = some o := fun b o e => by
    by_cases hb : b = a
    · rw [hb, ga] at e; cases e
    · rw [← gk b hb]; exact e
  have old : ∀ {b : Addr} {o : Obj}, s1.heap.get? b = some o → b ≠ a := fun {b o} e z => absurd (Heap.lt_size (z ▸ e)) (Nat.not_lt.mpr sa)
  have hda : dx ≠ a := fun z => by
    obtain ⟨o, es, ep, e1, e2, _⟩ := hn
    rw [z, ha] at e1
    cases e1
    cases e2
  have nd : H1 dx = none := I1.hok.fresh sd
  have J : Inv X pins σ (upd H1 dx (.xd [(fld, v)])) { s1 with heap := G, toks := tk' } := I1.laid (t' := tk') (fun b o e => by rw [gk b (old e)]; exact kp b o e) sd ⟨_, hn.at fun o y => (gk dx hda).trans y, fun y => by
    by_cases z : y = fld
    · subst z
      have e1 : [(y, v)].lookup y = some v := by simp [List.lookup]
      rw [e1, if_pos rfl]
      exact r1
    · have e1 : [(fld, v)].lookup y = none := by
        have : (y == fld) = false := by simpa using z
        simp [List.lookup, this]
      rw [e1, if_neg z]
      exact True.intro⟩
  exact ⟨a, _, _, { s1 with heap := G, toks := tk' }, _, .ref C, some dx, rfl, J, gs, ga, ha, ⟨rfl, rfl⟩, rfl, rfl, by rw [upd_ne (Ne.symm hda)]; exact I1.hok.fresh sa, rfl, I1.bare, raises_own exC tyC, q1 dx nd⟩
/-- C(e) as a value -/
theorem pe_err {X : Cx} {C : Addr} {fld x : Str} {B newId initId : String} {bmB : List Value} {k : Nat} {e : Expr} {te : TE} {p pos : Pos} (T : ErrC X.prog X.K C fld B newId initId bmB)
    (kC : PySem.W.keepIn X.K (.ref C) = true) (hsup : X.mg "super" = none) (hr : Room k X.A) (hg : Gl X x) (hm : X.mg x = some (.ref C)) (he : PE X e te)
    (hs : starEach [e] X.env = (false, eval e X.env) :: starEach [] X.env := by rfl) (hdb : (x == ("__debug__" : Str)) = false := by decide) :
    PE X (.Call (.Name x p) [e] [] pos) (fun σ H Q => te σ H fun v H1 => ∀ d a, H1 d = none → H1 a = none → a ≠ d → Q (.ref a) (upd (upd H1 d (.xd [(fld, v)])) a (ErO (.ref C) (some d) a))) := by
  refine ⟨fun pins s σ H Q I h => ?_⟩
  refine wpAny_Call_Name_kw (ld_glob I hg hm ?_ hdb)
  refine PySem.W.callWith_K (h₀ := X.base) I.ok.mod.kin kC ?_ hs (by rfl)
  rw [hs]
  show wpAny _ _ (spliced ((false, eval e X.env) :: backTo pos (starEach [] X.env))) _ _ s
  refine Calls.spliced_cons (thn (he.run pins s σ H _ I h) fun u s1 ⟨v, H1, I1, r1, q1⟩ => ?_)
  refine Calls.spliced_nil ⟨I1.kIn, ?_⟩
  show wpAny _ _ (call (.ref C) [u]) _ _ _
  obtain ⟨mb, b1, b2⟩ := I1.ok.mod.blt
  refine wpAny_call (err_make T I1.kIn (by rw [make_depth]; have := hr.dp; omega) I1.nolimit (I1.ok.mod.glob.keeps I1.bk) (b1.keeps I1.bk) b2 hsup fun h' tk' a dx t1 kp sa sd ha hn => ?_)
  obtain ⟨G, g1, g2⟩ := restrict h' fun b => decide (b ≠ a)
  have ga : G.get? a = none := g2 a (decide_eq_false fun z => z rfl)
  have gk : ∀ b, b ≠ a → G.get? b = h'.get? b := fun b hb => g1 b (decide_eq_true hb)
  have gs : ∀ b o, G.get? b = some o → h'.get? b = some o := fun b o e => by
    by_cases hb : b = a
    · rw [hb, ga] at e; cases e
    · rw [← gk b hb]; exact e
  have old : ∀ {b : Addr} {o : Obj}, s1.heap.get? b = some o → b ≠ a := fun {b o} e z => absurd (Heap.lt_size (z ▸ e)) (Nat.not_lt.mpr sa)
  have hda : dx ≠ a := fun z => by
    obtain ⟨o, es, ep, e1, e2, _⟩ := hn
    rw [z, ha] at e1
    cases e1
    cases e2
  have nd : H1 dx = none := I1.hok.fresh sd
  have na : H1 a = none := I1.hok.fresh sa
  have J : Inv X pins σ (upd H1 dx (.xd [(fld, v)])) { s1 with heap := G, toks := tk' } := I1.laid (t' := tk') (fun b o e => by rw [gk b (old e)]; exact kp b o e) sd ⟨_, hn.at fun o y => (gk dx hda).trans y, fun y => by
    by_cases z : y = fld
    · subst z
      have e1 : [(y, v)].lookup y = some v := by simp [List.lookup]
      rw [e1, if_pos rfl]
      exact r1
    · have e1 : [(fld, v)].lookup y = none := by
        have : (y == fld) = false := by simpa using z
        simp [List.lookup, this]
      rw [e1, if_neg z]
      exact True.intro⟩
  have na' : upd H1 dx (.xd [(fld, v)]) a = none := by rw [upd_ne (Ne.symm hda)]; exact na
  exact ⟨.ref a, _, J.laidN (t' := tk') gs ga na' (erO_ok ha ⟨rfl, rfl⟩ rfl), rfl, q1 dx a nd na (Ne.symm hda)⟩
end MP

set_option Elab.async false
set_option linter.all false
set_option maxRecDepth 100000
set_option maxHeartbeats 4000000
namespace MP
open PySem PySem.Spec PyProof.Rows L2 HandSPX

/-! ### an except clause's classes -/
def Tst (X : Cx) (ce : Expr) (cs : List Value) : Prop := ∀ (a : Addr) (pn : List (Addr × Obj)) (σ : L2.St) (H : Hp) (s : Shared) (cls : Value) (b : Bool) (Q E : Value → Shared → Prop), Inv (X.suite a pn) [] σ H s →
  PySem.W.Looks (model X.prog X.w) s.heap (typeOf (.ref a)) cls → PySem.W.exmAny X.K cls cs = some b →
  (∀ cv h' tk, (∀ b o, s.heap.get? b = some o → h'.get? b = some o) → PySem.W.Looks (model X.prog X.w) h' (excMatches (.ref a) cv) b → Q cv { s with heap := h', toks := tk }) →
  wpAny (model X.prog X.w) (X.A.mark (some (.ref a))) (eval ce X.env) Q E s
section
variable {X : Cx} {x y z : Str} {c c1 c2 c3 : Value} {np p1 p2 p3 p4 : Pos} {k : Nat}
theorem tst_name (hg : Gl X x) (hm : X.mg x = some c) (hd : (x == ("__debug__" : Str)) = false) : Tst X (.Name x np) [c] := fun a pn σ H s cls b Q E I LT hb q => by
  obtain ⟨b1, d1, e1, e2, e3⟩ := PySem.W.exmAny_cons hb
  have e2' : some false = some d1 := e2
  cases e2'
  rw [Bool.or_false] at e3
  subst e3
  exact ld_glob (X := X.suite a pn) I hg hm (q c s.heap s.toks (fun _ _ e => e) (PySem.W.exm_one I.kIn LT e1)) hd
theorem tst_two (hg1 : Gl X x) (hm1 : X.mg x = some c1) (hd1 : (x == ("__debug__" : Str)) = false) (hg2 : Gl X y) (hm2 : X.mg y = some c2) (hd2 : (y == ("__debug__" : Str)) = false) : Tst X (.Tuple [.Name x p1, .Name y p2] k p3) [c1, c2] := fun a pn σ H s cls b Q E I LT hb q => by
  refine wpAny_Tuple_spliced ?_
  show wpAny _ _ (spliced [(false, eval (.Name x p1) X.env), (false, eval (.Name y p2) X.env)]) _ _ s
  refine Calls.spliced_cons (ld_glob (X := X.suite a pn) I hg1 hm1 ?_ hd1)
  refine Calls.spliced_cons (ld_glob (X := X.suite a pn) I hg2 hm2 ?_ hd2)
  refine Calls.spliced_nil ⟨by show 2 ≤ sizeLine; decide, ?_⟩
  have kp : ∀ b o, s.heap.get? b = some o → (s.heap.push { cls := .type "tuple", data := .seq [c1, c2].toArray }).get? b = some o := fun b o e => Heap.get?_push_of_some _ e
  exact q _ _ s.toks kp (PySem.W.exm_tup2 (I.kIn.keeps kp) (LT.keeps kp) (Heap.get?_push_size _ rfl) hb)
theorem tst_three (hg1 : Gl X x) (hm1 : X.mg x = some c1) (hd1 : (x == ("__debug__" : Str)) = false) (hg2 : Gl X y) (hm2 : X.mg y = some c2) (hd2 : (y == ("__debug__" : Str)) = false) (hg3 : Gl X z) (hm3 : X.mg z = some c3) (hd3 : (z == ("__debug__" : Str)) = false) :
    Tst X (.Tuple [.Name x p1, .Name y p2, .Name z p3] k p4) [c1, c2, c3] := fun a pn σ H s cls b Q E I LT hb q => by
  refine wpAny_Tuple_spliced ?_
  show wpAny _ _ (spliced [(false, eval (.Name x p1) X.env), (false, eval (.Name y p2) X.env), (false, eval (.Name z p3) X.env)]) _ _ s
  refine Calls.spliced_cons (ld_glob (X := X.suite a pn) I hg1 hm1 ?_ hd1)
  refine Calls.spliced_cons (ld_glob (X := X.suite a pn) I hg2 hm2 ?_ hd2)
  refine Calls.spliced_cons (ld_glob (X := X.suite a pn) I hg3 hm3 ?_ hd3)
  refine Calls.spliced_nil ⟨by show 3 ≤ sizeLine; decide, ?_⟩
  have kp : ∀ b o, s.heap.get? b = some o → (s.heap.push { cls := .type "tuple", data := .seq [c1, c2, c3].toArray }).get? b = some o := fun b o e => Heap.get?_push_of_some _ e
  exact q _ _ s.toks kp (PySem.W.exm_tup3 (I.kIn.keeps kp) (LT.keeps kp) (Heap.get?_push_size _ rfl) hb)
end
theorem flying_keeps {B h h' : Heap} {l : List Env} {a : Addr} {Z : Obj → Prop} (f : FlyingZ B l a Z h) (kp : ∀ b o, h.get? b = some o → h'.get? b = some o) : FlyingZ B l a Z h' := by
  obtain ⟨f1, f2, f3, oe, vs, T, oT, ts, he, hz, hd, h1, hnT, hTe, hT, hdT, h3⟩ := f
  exact ⟨fun b o e => kp b o (f1 b o e), f2, f3.of_keeps fun b o e _ => ⟨o, kp b o e, rfl⟩, oe, vs, T, oT, ts, kp _ _ he, hz, hd, h1, hnT, hTe, kp _ _ hT, hdT, h3⟩
/-- what «except cs as n: m = n» wishes of an error of the body -/
def wEr (K : PySem.W.Frag) (cs : List Value) (i j : Nat) (Wout : WX) (D : Ends) : WX := fun cls d σ H =>
  ∃ b, PySem.W.exmAny K cls cs = some b ∧ (b = true → ∀ a, H a = none → D.nx (((σ.set i (some (.ref a))).set j (some (.ref a))).set i none) (upd H a (ErO cls d a))) ∧ (b = false → Wout cls d σ H)
section
variable {X : Cx} {ce : Expr} {cs : List Value} {n m : Str} {i j : Nat} {body : List Stmt} {q1 q2 q3 pos pos' : Pos} {tb : WX → TS} {Wout : WX}
theorem ps_try_err (hs : X.stack = X.env :: X.outer) (hf : X.env.frame = some X.env.locals) (hex : X.ex = []) (hN : X.N.Nodup) (hi : X.N[i]? = some n) (hln : X.env.kindOf n = some .local) (hj : X.N[j]? = some m) (hlm : X.env.kindOf m = some .local) (hij : i < X.N.length)
    (hdn : (n == ("__debug__" : Str)) = false) (hcn : (n == ("__classdict__" : Str)) = false) (hc : Tst X ce cs) (tk : Takes X Wout)
    (hb : ∀ (W : WX) (pn : List (Addr × Obj)) (xe : Value → Shared → Prop), Takes (X.tr pn xe) W → PassesOwn (model X.prog X.w) X.A X.env xe → PSs (X.tr pn xe) body (tb W)) :
    PS X (.Try body [.ExceptHandler (some ce) (some n) [.Assign [.Name m q1] (.Name n q2) q3] pos'] [] [] pos) (fun D σ H => tb (wEr X.K cs i j Wout D) D σ H) := by
  refine ⟨fun pins s σ H D I h => ?_⟩
  have ok := I.ok
  have fr0 : X.A.frames = some (X.env :: X.outer) := by rw [ok.frames, hs]
  have locn : Loc X.env.scope n := .inl hln
  have locm : Loc X.env.scope m := .inl hlm
  refine wpAny_Try_except ?_
  refine wpAny_mono ((hb (wEr X.K cs i j Wout D) (X.pn ++ pins) (fun e s1 => wpAny (model X.prog X.w) X.A (noteFrame e X.env) (fun _ s2 => wpAny (model X.prog X.w) X.A (setFlight e none) (fun _ s3 =>
    wpAny (model X.prog X.w) X.A (handleBy e X.env [.ExceptHandler (some ce) (some n) [.Assign [.Name m q1] (.Name n q2) q3] pos']) (SP X pins D) X.xe s3) X.xe s2) X.xe s1) (fun u s' xx => ?_) PassesOwn.looking).run [] s σ H D (I.toTry _) h) (fun f s1 hsp => ?_) (fun e s1 he => he)
  · obtain ⟨a, B, sI, pins', τ, G, cls, d, rfl, J0, nb, up, sky, na, os, ag, b, hb1, hyes, hno⟩ := xx
    have J : Inv X pins τ G sI := J0.ofTry ok
    have sky1 : Sky B (X.env :: X.outer) a (Zc cls d) X.env.locals s'.heap := hs ▸ sky
    show wpAny (model X.prog X.w) X.A (noteFrame (.ref a) X.env) _ _ _
    refine Sky.land Zc.steady fr0 hf sky1 fun h3 fl3 up3 => ?_
    have J3 : Inv X pins τ G { s' with heap := h3 } := J.landed nb fl3.1 (up.trans up3) os ag
    obtain ⟨oe3, vs3, he3, hz3, hd3⟩ := fl3.there
    have nfr : a ∉ frs (X.env :: X.outer) := fun hm => by
      obtain ⟨_, o', e', hnf⟩ := fl3.2.2.1.mem hm
      rw [he3] at e'; cases e'
      exact hnf _ hd3
    have nL : a ≠ X.env.locals := fun z => nfr (List.mem_filterMap.mpr ⟨X.env, List.mem_cons_self, by rw [hf, z]⟩)
    have nsI : sI.heap.get? a = none := by
      cases e : sI.heap.get? a with
      | none => rfl
      | some o =>
        have z := nb a o e (by rw [hs]; exact nfr)
        rw [fl3.2.1] at z; cases z
    have n0 : X.s_0.heap.get? a = none := by
      cases e : X.s_0.heap.get? a with
      | none => rfl
      | some o =>
        obtain ⟨o', z⟩ := J.base.there a o e (by rw [hex]; simp)
        rw [nsI] at z; cases z
    have npin : ∀ p ∈ X.pn ++ pins, p.1 ≠ a := fun p hp z => by
      have e := (J.pin p hp).1
      rw [z, nsI] at e; cases e
    -- the error tracked, in the suite's context
    have suite : ∀ {h' : Heap} {tk' : Nat} {oe : Obj} {vs : Array Value}, Inv X pins τ G { s' with heap := h', toks := tk' } → h'.get? a = some oe → Zc cls d oe → oe.data = .fields vs → Inv (X.suite a (X.pn ++ pins)) [] τ (upd G a (ErO cls d a)) { s' with heap := h', toks := tk' } := fun {h' tk' oe vs} K e z f => by
      have T := track K (o := ErO cls d a) e f na n0 nL npin (erO_ok e z f)
      exact ⟨T.ok.suite _ _, T.os, T.bare, T.base, T.loc, T.cell, T.free, T.freeC, fun p hp => T.pin p (by rw [List.append_nil] at hp; exact hp), T.hok, T.len⟩
    refine wpAny_handleBy_cons (codeAny_handlers_test ?_) (by intro q; cases q)
    have LT : PySem.W.Looks (model X.prog X.w) h3 (typeOf (.ref a)) cls := fun A Q E s k q => wpAny_typeOf_ref (k _ _ he3) (by rw [hz3.1]; exact q)
    refine hc a (X.pn ++ pins) τ _ { s' with heap := h3 } cls b _ _ (suite (tk' := s'.toks) J3 he3 hz3 hd3) LT hb1 fun cv h5 tk5 kp5 LM => LM.here ?_
    have fl5 : FlyingZ B (X.env :: X.outer) a (Zc cls d) h5 := flying_keeps fl3 kp5
    have up5 : sI.heap.UpToSlots h5 := (up.trans up3).trans (Heap.UpToSlots.of_keeps kp5)
    cases b with
    | true =>
      refine codeAny_handlers_suite_as ?_
      refine HandSPX.lands_againZ fl5 fun h4 fl4 up4 => ?_
      have J4 : Inv X pins τ G { s' with heap := h4, toks := tk5 } := J.landed nb fl4.1 (up5.trans up4) os ag
      obtain ⟨oe4, vs4, he4, hz4, hd4⟩ := fl4.there
      refine store_ok (X := X.suite a (X.pn ++ pins)) (v := .ref a) (suite J4 he4 hz4 hd4) hN hi locn rfl (fun s5 S5 => ?_) (.inr hln)
      have hiτ : i < τ.length := by rw [J.len]; exact hij
      have asg : PSs (X.suite a (X.pn ++ pins)) [.Assign [.Name m q1] (.Name n q2) q3] (tSeq (tAsg (tVar i) (gName j)) tNext) := pss_cons (ps_set (X := X.suite a (X.pn ++ pins)) (i := j) hN hj locm (pe_var (X := X.suite a (X.pn ++ pins)) hi (.inl hln) hdn hcn) rfl (.inr hlm)) pss_nil
      refine wpAny_mono (asg.run [] s5 _ _ { nx := fun σ' H' => D.nx (σ'.set i none) H', rt := fun _ _ => False } S5 ⟨.ref a, List.getElem?_set_self hiτ, hyes rfl a na⟩) (fun f s6 hsp => ?_) (fun _ _ z => False.elim z)
      cases f with
      | next =>
        obtain ⟨σ6, H6, S6, q6⟩ := hsp
        have U6 : Inv X pins σ6 H6 s6 := ⟨ok, S6.os, S6.bare, S6.base, S6.loc, S6.cell, S6.free, S6.freeC, fun p hp => S6.pin p (List.mem_append_left _ hp), S6.hok, S6.len⟩
        exact gone_ok U6 hN hi hln fun s7 J7 => ⟨_, _, J7, q6⟩
      | brk =>
        obtain ⟨σ6, H6, S6, q6⟩ := hsp
        exact False.elim q6
      | cont =>
        obtain ⟨σ6, H6, S6, q6⟩ := hsp
        exact False.elim q6
      | ret u =>
        obtain ⟨v6, σ6, H6, S6, r6, q6⟩ := hsp
        exact False.elim q6
    | false =>
      show wpAny _ X.A (handleBy (.ref a) X.env []) _ _ _
      refine wpAny_handleBy_nil ?_
      obtain ⟨k1, k2, k3, oe, vs, T, oT, ts', he, hz, hd, h1, hr⟩ := id fl5
      unfold PySem.passOn
      refine wpAny_bind (wpAny_field he hd h1 ?_)
      rw [if_neg (show ¬ ((Value.ref T == Value.none) = true) from by simp)]
      have fin : wpAny (model X.prog X.w) X.A (setFlight (.ref a) X.env.frame) (fun _ s4 => wpAny (model X.prog X.w) X.A (throw (.ref a) : Sem Flow) (SP X pins D) X.xe s4) X.xe { s' with heap := h5, toks := tk5 } := by
        rw [hf]
        refine HandSPX.setFlight_upZ fl5 fun h4 hh4 up4 => wpAny_throw (tk _ _ ?_)
        exact ⟨a, B, sI, pins, τ, G, cls, d, rfl, J, nb, up5.trans up4, .inr (.inr (by rw [hs]; exact hh4)), na, os, ag, hno rfl⟩
      first
        | exact wpAny_bind (wpAny_pure (wpAny_bind fin))
        | exact wpAny_bind fin
  · cases f with
    | next =>
      obtain ⟨τ, G, J, q⟩ := hsp
      exact wpAny_execs_nil ⟨τ, G, J.ofTry ok, q⟩
    | brk =>
      obtain ⟨τ, G, J, q⟩ := hsp
      exact ⟨τ, G, J.ofTry ok, q⟩
    | cont =>
      obtain ⟨τ, G, J, q⟩ := hsp
      exact ⟨τ, G, J.ofTry ok, q⟩
    | ret u =>
      obtain ⟨v, τ, G, J, r, q⟩ := hsp
      exact ⟨v, τ, G, J.ofTry ok, r, q⟩
end
end MP

set_option Elab.async false
set_option linter.all false
set_option maxRecDepth 100000
set_option maxHeartbeats 4000000
namespace MP
open PySem PySem.Spec PyProof.Rows L2

/-- what an error class says, so that isinstance asks its instances and their fields are read -/
structure ErF (K : PySem.W.Frag) (D : Addr) : Prop where
  ga : PySem.W.findIn K (.ref D) "__getattribute__" = some (some (.builtin "BaseException.__getattribute__"))
  gg : PySem.W.findIn K (.ref D) "__getattr__" = some none
  ex : PySem.W.subIn K (.ref D) (.type "BaseException") = some true
  hd : PySem.W.hasDictIn K D = true
  hc : PySem.W.findIn K (.ref D) "__class__" = some (some (.builtin "object.__class__"))
  sp : PySem.W.specialIn K (.builtin "object.__class__") "__get__" = some (some (.builtin "getset_descriptor.__get__"))
  tk : PySem.W.takesIn K (.builtin "object.__class__") = some true
  ob : PySem.W.mroIn K D (.type "object") = some true
theorem ErF.cl {K : PySem.W.Frag} {D : Addr} (T : ErF K D) : (PySem.W.clsIn K D).isSome = true := by
  obtain ⟨cd, hc, _⟩ := PySem.W.any_some T.hd
  rw [hc]; rfl
def rIsx (K : PySem.W.Frag) : List V → Hp → VK → Prop := fun xs H Q => ∃ (a D dd : Addr) (fs : List (Str × V)) (c : V) (u : Value) (b : Bool), xs = [.ref a, c] ∧ H a = some (ErO (.ref D) (some dd) a) ∧ H dd = some (.xd fs) ∧ ClsV c u ∧ ErF K D ∧ PySem.W.kitOne K (.ref D) u = some b ∧ Q (.bl b) H
section
variable {X : Cx} {pins : List (Addr × Obj)} {σ : L2.St} {H : Hp} {s : Shared}
theorem er_inst {a D dd : Addr} {fs : List (Str × V)} (I : Inv X pins σ H s) (ha : H a = some (ErO (.ref D) (some dd) a)) (hd : H dd = some (.xd fs)) : ∃ oe od mA, PySem.W.InstAt s.heap a oe D (some od) ∧ s.heap.Ns1 dd mA ∧ (∀ f, RelO (fs.lookup f) (mA f)) ∧ s.heap.get? dd = some od := by
  obtain ⟨oe, vs, h1, hz, hf⟩ := erO_at I.hok ha
  have hx : ObjOk X.prog X.w H s.heap dd (.xd fs) := I.hok dd _ hd
  obtain ⟨mA, hns, hr⟩ := hx
  obtain ⟨od, es, ep, ho, _⟩ := id hns
  exact ⟨oe, od, mA, ⟨h1, hz.1, by unfold PySem.W.notCls; rw [hf] <;> rfl, by rw [hz.2]; exact ho⟩, hns, hr, ho⟩
theorem call_isx : CallR X (.builtin "isinstance") (rIsx X.K) := by
  intro pins s σ H xs us Q I r h
  obtain ⟨a, D, dd, fs, c, u, b, rfl, ha, hd, k, T, e, q⟩ := h
  obtain ⟨u1, u2, rfl, r1, r2⟩ := vals2 r
  have e2 := k.eq r2
  subst e2
  obtain rfl : u1 = Value.ref a := r1
  obtain ⟨oe, od, mA, J, _⟩ := er_inst I ha hd
  exact PySem.W.kia_one (PySem.W.kitx_exc T.cl T.ga T.gg T.ex T.hc T.sp T.tk T.ob) I.kIn J e (fun z => nomatch z) fun tk => ⟨.bl b, H, I.tok tk, rfl, q⟩
/-- x.f of an error -/
theorem pe_erf {e : Expr} {te : TE} {pos : Pos} {n : Str} (he : PE X e te) (hb : attributeBase e n X.env (eval e X.env) = eval e X.env := by rfl) :
    PE X (.Attribute e n pos) (fun σ H Q => te σ H fun x H1 => ∃ (a C dd : Addr) (fs : List (Str × V)) (v : V), x = .ref a ∧ H1 a = some (ErO (.ref C) (some dd) a) ∧ H1 dd = some (.xd fs) ∧ ErF X.K C ∧ PySem.W.findIn X.K (.ref C) n = some none ∧ fs.lookup n = some v ∧ Q v H1) := by
  refine ⟨fun pins s σ H Q I h => ?_⟩
  refine attr_of hb (thn (he.run pins s σ H _ I h) fun u s1 hh => ?_)
  obtain ⟨x, H1, I1, rx, a, C, dd, fs, v, rfl, ha, hd, T, hno, l, q⟩ := hh
  obtain rfl : u = Value.ref a := rx
  obtain ⟨oe, od, mA, J, hns, hr, ho⟩ := er_inst I1 ha hd
  obtain ⟨od', ho', hl⟩ := lookIn_ns hns
  rw [ho] at ho'
  cases ho'
  obtain ⟨u, hu, ru⟩ := RelO.some_of (v := v) (o := mA n) (by rw [← l]; exact hr n)
  exact HandSPX.exc_get I1.kIn J T.ga T.gg T.ex (PySem.W.findObj_own T.hd hno rfl (by rw [hl, hu])) (handed_of ru) ⟨v, H1, I1.tok _, ru, q⟩
end
/-- an error of a class without own __init__, asked -/
def rIsx0 (K : PySem.W.Frag) : List V → Hp → VK → Prop := fun xs H Q => ∃ (a D : Addr) (c : V) (u : Value) (b : Bool), xs = [.ref a, c] ∧ H a = some (ExO (.ref D) a) ∧ ClsV c u ∧ ErF K D ∧ PySem.W.kitOne K (.ref D) u = some b ∧ Q (.bl b) H
theorem call_isx0 {X : Cx} : CallR X (.builtin "isinstance") (rIsx0 X.K) := by
  intro pins s σ H xs us Q I r h
  obtain ⟨a, D, c, u, b, rfl, ha, k, T, e, q⟩ := h
  obtain ⟨u1, u2, rfl, r1, r2⟩ := vals2 r
  have e2 := k.eq r2
  subst e2
  obtain rfl : u1 = Value.ref a := r1
  have hx : ObjOk X.prog X.w H s.heap a (ExO (.ref D) a) := I.hok a _ ha
  obtain ⟨⟨oe, vs, h1, hz, hf, _⟩, _, _⟩ := hx
  have J : PySem.W.InstAt s.heap a oe D none := ⟨h1, hz.1, by unfold PySem.W.notCls; rw [hf] <;> rfl, by rw [hz.2]; trivial⟩
  exact PySem.W.kia_one (PySem.W.kitx_exc T.cl T.ga T.gg T.ex T.hc T.sp T.tk T.ob) I.kIn J e (fun z => nomatch z) fun tk => ⟨.bl b, H, I.tok tk, rfl, q⟩
end MP

set_option Elab.async false
set_option linter.all false
set_option maxRecDepth 100000
namespace MP
open PySem

/-! ### values -/
inductive D where
  | non | bl (b : Bool) | int (i : Int) | str (s : Str)
  | tup (xs : List D) | lst (xs : List D) | emp | ref (n : Nat) | fn (n : Nat) | scr (ns : List Int) | err (c : Nat) (p : D)

inductive Ob where
  | lst (xs : List D) | dct (kvs : List (Str × D)) | gone
abbrev Sto := List Ob
def Ob.live : Ob → Bool
  | .gone => false
  | _ => true

/-- a result: data, or a list that nobody else holds -/
inductive W where
  | dat (d : D) | own (xs : List D)
def W.d : W → D
  | .dat d => d
  | .own xs => .lst xs

inductive R (α : Type) where
  | ok (a : α) (st : Sto) | exc (c : Nat) (p : D) (st : Sto) | bad
def R.bind {α β : Type} (r : R α) (f : α → Sto → R β) : R β := match r with
  | .ok a st => f a st
  | .exc c p st => .exc c p st
  | .bad => .bad
theorem bind_ok {α β : Type} {r : R α} {f : α → Sto → R β} {b : β} {st : Sto} (h : r.bind f = .ok b st) : ∃ a s1, r = .ok a s1 ∧ f a s1 = .ok b st := by
  cases r with
  | ok a s1 => exact ⟨a, s1, rfl, h⟩
  | exc c p s => cases h
  | bad => cases h

inductive Slot where
  | un | dat (d : D) | mut (xs : List D)
abbrev Fr := List Slot

inductive Bop where | add | sub | mul | fdiv | mod | pow
inductive Cop where | eq | ne | lt | le | gt | ge | inn | nin | is | isnot
inductive B1 where | len | sum | all | any | list | tuple | sorted | int | abs | min | max | repr | str | tupZ
inductive B2 where | min | max
inductive Ty where | int | bool | tuple | str | list | dict
mutual
inductive G where
  | nm (i : Nat) | tp (gs : Gs)
inductive Gs where
  | nil | cons (g : G) (r : Gs)
end
/-- a def whose last parameter is keyword-only: its name, its default -/
def kwId (f : Nat) : Option (Str × Int) := if f = 75 then some ("times", 1) else none
mutual
inductive E where
  | var (i : Nat)
  | con (d : D)
  | glo (x : Str) (d : D)
  | tup (es : A) | lst (es : A)
  | bin (o : Bop) (a b : E)
  | neg (a : E)
  | cmp (o : Cop) (a b : E)
  | chain (o o' : Cop) (a b c : E)
  | not (a : E) | and (a b : E) | or (a b : E)
  | ite (c a b : E)
  | idx (a i : E)
  | idxM (m : Nat) (i : E)
  | lenM (m : Nat)
  | slc (a : E) (lo hi : O)
  | rev (a : E)
  | call (f : Nat) (x : Str) (es : A)
  | gfn (f : Nat) (x : Str)
  | callv (i : Nat) (fs : List (Nat × Str)) (es : A)
  | b1 (f : B1) (a : E)
  | b2 (f : B2) (a b : E)
  | isi (a : E) (t : Ty)
  | lrng (tp : Bool) (it : It)
  | comp (elt : E) (g : G) (own : List Nat) (it : It) (c : C)
  | get (a : E) (x : Str)
  | obi (a i : E)
  | obl (a : E)
  | obe (a : E)
  | new (a : E)
  | isx (a : E) (c : Nat) (x : Str)
  | fld (a : E) (x : Str)
  | lamc (f : Nat) (x : Str) (e : E)
  | cnt (a e : E)
  | dic
  | call0 (f : Nat) (x : Str)
  | calld (f : Nat) (x : Str) (es : A)
  | callk (f : Nat) (x : Str) (es : A) (e : E)
  | mke (q : Nat) (x : Str) (e : E)
  | mk0 (x : Str) (e : E)
  | isb (a : E) (n : Nat)
inductive A where
  | nil | cons (e : E) (r : A) | star (e : E) (r : A)
inductive O where
  | none | some (e : E)
inductive It where
  | seq (e : E) | mut (i : Nat) | rng1 (a : E) | rng2 (a b : E) | zip (a b : E) | enum (a : E) | enumz (a b : E)
inductive C where
  | yes | one (e : E)
end
mutual
inductive S where
  | asg (g : G) (e : E)
  | own (i : Nat) (e : E)
  | par (gs : List (Bool × Nat)) (es : A)
  | setm (i : Nat) (k e : E)
  | augm (i : Nat) (o : Bop) (k e : E)
  | appm (i : Nat) (e : E) | extm (i : Nat) (e : E)
  | ife (c : E) (a b : Ss)
  | for_ (g : G) (it : It) (b : Ss)
  | whl (c : E) (b : Ss)
  | ret (e : E)
  | exp (e : E)
  | mk (a b c : E)
  | put (a : E) (x : Str) (e : E)
  | obs (a i e : E)
  | ppar (a : E) (x : Str) (i : Nat) (e1 e2 : E)
  | dead
  | rais (c : Nat) (x : Str) (e : E)
  | tryc (t : Option Nat) (e : E) (cs : List (Nat × Str)) (i j : Nat)
  | told (ns : List Nat) (t : Option Nat) (cs : List (Nat × Str)) (i j : Nat)
inductive Ss where
  | nil | cons (s : S) (r : Ss) | frz (i : Nat) (r : Ss) | melt (i : Nat) (r : Ss)
end

/-! ### data -/
def toPy : Nat → D → PyData
  | _, .non => .none
  | _, .bl b => .bool b
  | _, .int i => .int i
  | _, .str s => .str s
  | 0, _ => .none
  | n + 1, .tup xs => .tuple (xs.map (toPy n))
  | n + 1, .lst xs => .list (xs.map (toPy n))
  | _ + 1, .emp => .dict []
  | _ + 1, .ref _ => .none
  | _ + 1, .fn _ => .none
  | _ + 1, .scr _ => .none
  | _ + 1, .err _ _ => .none
/-- data of at most so deep a nesting, without dicts and objects -/
def okD : Nat → D → Bool
  | _, .non => true
  | _, .bl _ => true
  | _, .int _ => true
  | _, .str s => PyData.strOk s
  | 0, _ => false
  | n + 1, .tup xs => xs.all (okD n)
  | n + 1, .lst xs => xs.all (okD n)
  | _ + 1, .emp => false
  | _ + 1, .ref _ => false
  | _ + 1, .fn _ => false
  | _ + 1, .scr _ => false
  | _ + 1, .err _ _ => false
/-- the same, but an empty dict may stand in it -/
def okR : Nat → D → Bool
  | _, .non => true
  | _, .bl _ => true
  | _, .int _ => true
  | _, .str s => PyData.strOk s
  | 0, _ => false
  | n + 1, .tup xs => xs.all (okR n)
  | n + 1, .lst xs => xs.all (okR n)
  | _ + 1, .emp => true
  | _ + 1, .ref _ => false
  | _ + 1, .fn _ => false
  | _ + 1, .scr _ => false
  | _ + 1, .err _ _ => false
theorem okR_of : ∀ {n : Nat} {d : D}, okD n d = true → okR n d = true
  | n, .non, _ => by cases n <;> rfl
  | n, .bl _, _ => by cases n <;> rfl
  | n, .int _, _ => by cases n <;> rfl
  | n, .str _, h => by cases n <;> exact h
  | 0, .tup _, h => by cases h
  | 0, .lst _, h => by cases h
  | 0, .emp, h => by cases h
  | 0, .ref _, h => by cases h
  | 0, .fn _, h => by cases h
  | 0, .scr _, h => by cases h
  | 0, .err _ _, h => by cases h
  | n + 1, .emp, h => by cases h
  | n + 1, .ref _, h => by cases h
  | n + 1, .fn _, h => by cases h
  | n + 1, .scr _, h => by cases h
  | n + 1, .err _ _, h => by cases h
  | n + 1, .tup xs, h => List.all_eq_true.mpr fun x hx => okR_of (List.all_eq_true.mp h x hx)
  | n + 1, .lst xs, h => List.all_eq_true.mpr fun x hx => okR_of (List.all_eq_true.mp h x hx)
/-- == -/
def eqD (d e : D) : Bool := PyData.eqv (toPy 60 d) (toPy 60 e)
def scalar : D → Bool
  | .non => true
  | .bl _ => true
  | .int _ => true
  | .str _ => true
  | _ => false
/-- a text of at most so many signs shows it -/
def wt : Nat → D → Nat
  | _, .non => 4
  | _, .bl _ => 5
  | _, .int i => if i.natAbs < 10 ^ 18 then 20 else 2000
  | _, .str s => 10 * s.length + 2
  | 0, _ => 0
  | n + 1, .tup xs => 3 + (xs.map fun x => wt n x + 2).sum
  | n + 1, .lst xs => 3 + (xs.map fun x => wt n x + 2).sum
  | _ + 1, .emp => 2
  | _ + 1, .ref _ => 0
  | _ + 1, .fn _ => 0
  | _ + 1, .scr _ => 0
  | _ + 1, .err _ _ => 0
def showD : Nat → D → Bool
  | _, .int i => decide (i.natAbs.log2 < 1920)
  | n + 1, .tup xs => xs.all (showD n)
  | n + 1, .lst xs => xs.all (showD n)
  | _, _ => true
def shown (d : D) : Str := (toPy 60 d).shown

def items : D → Option (List D)
  | .tup xs => some xs
  | .lst xs => some xs
  | .scr ns => some (ns.map .int)
  | _ => none
def intsOf : List D → Option (List Int)
  | [] => some []
  | .int i :: r => (intsOf r).map (i :: ·)
  | _ => none
def bools : List D → Option (List Bool)
  | [] => some []
  | .bl b :: r => (bools r).map (b :: ·)
  | _ => none

/-! ### operations -/
abbrev big : Nat := 400000
def mulOk (i j : Int) : Bool := decide (i.natAbs < 2 ^ 63) || decide (j.natAbs < 2 ^ 63) || decide (i.natAbs < 2 ^ big) && decide (j.natAbs < 2 ^ big)
def divOk (j : Int) : Bool := decide (0 < j) && decide (j.natAbs < 2 ^ 9000)
def rep (k : Int) (xs : List D) : List D := (List.replicate k.toNat xs).flatten
def binD (o : Bop) (a b : D) : Option W := match o, a, b with
  | .add, .int i, .int j => some (.dat (.int (i + j)))
  | .add, .str x, .str y => if x.length + y.length ≤ sizeLine then some (.dat (.str (x ++ y))) else none
  | .add, .tup xs, .tup ys => if xs.length + ys.length ≤ sizeLine then some (.dat (.tup (xs ++ ys))) else none
  | .add, .lst xs, .lst ys => if xs.length + ys.length ≤ sizeLine then some (.own (xs ++ ys)) else none
  | .sub, .int i, .int j => some (.dat (.int (i - j)))
  | .mul, .int i, .int j => if mulOk i j then some (.dat (.int (i * j))) else none
  | .mul, .lst xs, .int k => if decide (-(2 ^ 63) ≤ k) && decide (k < 2 ^ 63) && decide (xs.length * k.toNat ≤ sizeLine) then some (.own (rep k xs)) else none
  | .mul, .tup xs, .int k => if decide (-1000 ≤ k) && decide (k ≤ 1000) && decide (xs.length ≤ 1000) then some (.dat (.tup (rep k xs))) else none
  | .fdiv, .int i, .int j => if divOk j then some (.dat (.int (i / j))) else none
  | .mod, .int i, .int j => if decide (0 < j) then some (.dat (.int (i % j))) else none
  | .pow, .int i, .int j => if decide (0 ≤ j) && decide (j ≤ 1000) && decide (i.natAbs < 2 ^ 64) then some (.dat (.int (i ^ j.toNat))) else none
  | _, _, _ => none
def inD (x : D) (ys : List D) : Bool := ys.any fun y => eqD y x
def cmpD (o : Cop) (a b : D) : Option Bool := match o, a, b with
  | .lt, .int i, .int j => some (decide (i < j))
  | .le, .int i, .int j => some (decide (i ≤ j))
  | .gt, .int i, .int j => some (decide (j < i))
  | .ge, .int i, .int j => some (decide (j ≤ i))
  | .eq, .str x, .str y => some (decide (x = y))
  | .ne, .str x, .str y => some (!decide (x = y))
  | .eq, .tup xs, .tup [] => some xs.isEmpty
  | .eq, a, b => if okD 60 a && okD 60 b then some (eqD a b) else none
  | .ne, a, b => if okD 60 a && okD 60 b then some (!eqD a b) else none
  | .is, a, .non => some (match a with | .non => true | _ => false)
  | .isnot, a, .non => some (match a with | .non => false | _ => true)
  | .is, .bl a, .bl b => some (decide (a = b))
  | .isnot, .bl a, .bl b => some (!decide (a = b))
  | .inn, x, .tup ys => if scalar x && ys.all scalar then some (inD x ys) else none
  | .inn, x, .lst ys => if scalar x && ys.all scalar then some (inD x ys) else none
  | .nin, x, .tup ys => if scalar x && ys.all scalar then some (!inD x ys) else none
  | .nin, x, .lst ys => if scalar x && ys.all scalar then some (!inD x ys) else none
  | _, _, _ => none
/-- the place that an index means -/
def ixD (n : Nat) (i : Int) : Option Nat := if 0 ≤ i then (if i < n then some i.toNat else none) else if -(n : Int) ≤ i then some (i + n).toNat else none
def atD (xs : List D) (i : Int) : Option D := (ixD xs.length i).bind fun j => xs[j]?
def sIxD (n d : Nat) : Option Int → Nat
  | none => d
  | some i => if 0 ≤ i then min i.toNat n else (i + n).toNat
def cutD (xs : List D) (lo hi : Option Int) : List D := (xs.drop (sIxD xs.length 0 lo)).take (sIxD xs.length xs.length hi - sIxD xs.length 0 lo)
def slcD (x : D) (l h : Option Int) : Option W := match x with
  | .tup xs => some (.dat (.tup (cutD xs l h)))
  | .lst xs => some (.own (cutD xs l h))
  | _ => none
def revD (x : D) : Option W := match x with
  | .tup xs => some (.dat (.tup xs.reverse))
  | .lst xs => some (.own xs.reverse)
  | _ => none
def isiD (d : D) (t : Ty) : Option Bool := match d, t with
  | .ref _, _ => none
  | .fn _, _ => none
  | .scr _, _ => none
  | .err _ _, _ => none
  | .int _, .int => some true
  | .bl _, .int => some true
  | .bl _, .bool => some true
  | .tup _, .tuple => some true
  | .str _, .str => some true
  | .lst _, .list => some true
  | .emp, .dict => some true
  | _, _ => some false
def mx (a : Int) (r : List Int) : Int := r.foldl (fun m x => if m < x then x else m) a
def mn (a : Int) (r : List Int) : Int := r.foldl (fun m x => if x < m then x else m) a
/-- sorted of intsOf: a plain insertion -/
def insI (i : Int) : List Int → List Int
  | [] => [i]
  | j :: r => if i ≤ j then i :: j :: r else j :: insI i r
def sortI : List Int → List Int
  | [] => []
  | i :: r => insI i (sortI r)
/-- pairs of ints, sorted -/
def pairsOf : List D → Option (List (Int × Int))
  | [] => some []
  | .tup [.int i, .int j] :: r => (pairsOf r).map ((i, j) :: ·)
  | _ => none
def ltP2 (p q : Int × Int) : Bool := if p.1 = q.1 then decide (p.2 < q.2) else decide (p.1 < q.1)
def insP (p : Int × Int) : List (Int × Int) → List (Int × Int)
  | [] => [p]
  | q :: r => if ltP2 q p then q :: insP p r else p :: q :: r
def sortP : List (Int × Int) → List (Int × Int)
  | [] => []
  | p :: r => insP p (sortP r)
def pairD (p : Int × Int) : D := .tup [.int p.1, .int p.2]
def sortD (xs : List D) : Option W := match intsOf xs with
  | some is => if is.length < 64 then some (.own ((sortI is).map .int)) else none
  | none => (pairsOf xs).map fun ps => .own ((sortP ps).map pairD)
/-- of a tuple: pairs alone, or nothing at all -/
def sortT (xs : List D) : Option W := match intsOf xs with
  | some is => if is.length = 0 then some (.own []) else none
  | none => (pairsOf xs).map fun ps => .own ((sortP ps).map pairD)
def b1D (f : B1) (d : D) : Option W := match f, d with
  | .len, .tup xs => some (.dat (.int xs.length))
  | .len, .lst xs => some (.dat (.int xs.length))
  | .len, .scr ns => some (.dat (.int ns.length))
  | .len, .str s => if s.length ≤ sizeLine then some (.dat (.int s.length)) else none
  | .sum, .lst xs => (intsOf xs).map fun is => .dat (.int is.sum)
  | .all, .lst xs => (bools xs).map fun bs => .dat (.bl (bs.all id))
  | .any, .lst xs => (bools xs).map fun bs => .dat (.bl (bs.any id))
  | .list, .tup xs => some (.own xs)
  | .list, .lst xs => some (.own xs)
  | .tuple, .lst xs => some (.dat (.tup xs))
  | .tuple, .tup xs => some (.dat (.tup xs))
  | .sorted, .lst xs => sortD xs
  | .sorted, .tup xs => sortT xs
  | .int, .int i => some (.dat (.int i))
  | .int, .bl b => some (.dat (.int (if b then 1 else 0)))
  | .abs, .int i => some (.dat (.int (if i < 0 then -i else i)))
  | .max, .lst xs => match intsOf xs with
    | some (a :: r) => some (.dat (.int (mx a r)))
    | _ => none
  | .min, .lst xs => match intsOf xs with
    | some (a :: r) => some (.dat (.int (mn a r)))
    | _ => none
  | .repr, d => if okR 60 d && showD 60 d && decide (wt 60 d ≤ sizeLine) then some (.dat (.str (shown d))) else none
  | _, _ => none
def augD (o : Bop) (a b : D) : Option D := match o, a, b with
  | .add, .int i, .int j => some (.int (i + j))
  | .sub, .int i, .int j => some (.int (i - j))
  | _, _, _ => none
def b2D (f : B2) (a b : D) : Option W := match f, a, b with
  | .min, .int i, .int j => some (.dat (.int (if j < i then j else i)))
  | .max, .int i, .int j => some (.dat (.int (if j > i then j else i)))
  | _, _, _ => none
def rng (a b : Int) : List D := (List.range (b - a).toNat).map fun i => .int (a + (i : Nat))
def rngOk (a b : Int) : Bool := decide (-(2 ^ 62) ≤ a) && decide (a < 2 ^ 62) && decide (-(2 ^ 62) ≤ b) && decide (b < 2 ^ 62) && decide ((b - a).toNat ≤ 2 ^ 24)
def enumF (xs : List D) : List D := xs.zipIdx.map fun (x, i) => .tup [.int (i : Nat), x]
def zipF (xs ys : List D) : List D := (xs.zip ys).map fun (x, y) => .tup [x, y]

/-! ### errors: 0 StayError, 1 BadBook, 2 BadText, 3 BadSum, 4 BadNumber, 5 BadRule, 6 BadScript, 7 BadPaper, 8 BadDeed, 9 Quarrel, 10 Missing, 11 TooMany -/
def subC (k c : Nat) : Bool := k == c || (c == 0 && decide (k ≤ 9))
/-- built-in classes above ours -/
def bxN : Nat → Str
  | 0 => "ValueError" | 1 => "KeyError" | 2 => "LookupError" | _ => "OverflowError"
def bxS : Nat → String
  | 0 => "ValueError" | 1 => "KeyError" | 2 => "LookupError" | _ => "OverflowError"
def subB (k : Nat) : Nat → Bool
  | 0 => decide (k ≤ 9) | 1 => k == 10 | 2 => k == 10 | _ => k == 11
def fldC : Nat → Str
  | 1 => "place" | 2 => "place" | 3 => "value" | 4 => "value" | 5 => "value" | 6 => "at" | 7 => "word" | 8 => "word" | 9 => "weights" | 10 => "name" | 11 => "most"
  | _ => ""
/-! ### objects -/
def valD (x : Str) : List (Str × D) → Option D
  | [] => none
  | (y, d) :: r => if y = x then some d else valD x r
def putD (x : Str) (d : D) : List (Str × D) → Option (List (Str × D))
  | [] => none
  | (y, e) :: r => if y = x then some ((y, d) :: r) else (putD x d r).map ((y, e) :: ·)
def keysOk : List Str → Bool
  | [] => true
  | x :: r => !r.contains x && keysOk r
def getF (x : Str) (d : D) (st : Sto) : Option D := match d with
  | .ref n => match st[n]? with
    | some (.dct kvs) => valD x kvs
    | _ => none
  | _ => none
def lstF (d : D) (st : Sto) : Option (List D) := match d with
  | .ref n => match st[n]? with
    | some (.lst xs) => some xs
    | _ => none
  | _ => none
def putF (x : Str) (d e : D) (st : Sto) : Option Sto := match d with
  | .ref n => match st[n]? with
    | some (.dct kvs) => if keysOk (kvs.map (·.1)) && decide (kvs.length < 100) then (putD x e kvs).map fun q => st.set n (.dct q) else none
    | _ => none
  | _ => none
def setF (d : D) (k : Int) (e : D) (st : Sto) : Option Sto := match d with
  | .ref n => match st[n]? with
    | some (.lst xs) => (ixD xs.length k).map fun j => st.set n (.lst (xs.set j e))
    | _ => none
  | _ => none
/-- lists of the store become data -/
def meltD : List D → Sto → Option (List D × Sto)
  | [], st => some ([], st)
  | .ref n :: r, st => match st[n]? with
    | some (.lst xs) => (meltD r (st.set n .gone)).map fun q => (.lst xs :: q.1, q.2)
    | _ => none
  | _, _ => none

def opt (o : Option α) (st : Sto) : R α := match o with
  | some a => .ok a st
  | none => .bad

/-! ### targets -/
mutual
def putG : G → D → Fr → Option Fr
  | .nm i, d, env => if i < env.length then some (env.set i (.dat d)) else none
  | .tp gs, .tup xs, env => putGs gs xs env
  | .tp _, _, _ => none
def putGs : Gs → List D → Fr → Option Fr
  | .nil, [], env => some env
  | .cons g r, x :: xs, env => (putG g x env).bind fun env' => putGs r xs env'
  | _, _, _ => none
end
def wipeE (env : Fr) : List Nat → Fr
  | [] => env
  | v :: vs => (wipeE env vs).set v .un
def getD (env : Fr) (i : Nat) : Option D := match env[i]? with
  | some (.dat d) => some d
  | _ => none
def getM (env : Fr) (i : Nat) : Option (List D) := match env[i]? with
  | some (.mut xs) => some xs
  | _ => none

/-- None in some slots -/
def nons : List Nat → Fr → Fr
  | [], env => env
  | n :: r, env => nons r (env.set n (.dat .non))
/-! ### loops -/
def compL (f : D → Sto → R (Option D)) : List D → Sto → R (List D)
  | [], st => .ok [] st
  | x :: xs, st => match f x st with
    | .ok o s1 => match compL f xs s1 with
      | .ok r s2 => .ok (match o with | some d => d :: r | none => r) s2
      | _ => .bad
    | _ => .bad

section
variable (cf : Nat → List D → Sto → R W)
mutual
def ev : E → Fr → Sto → R W
  | .var i, env, st => opt ((getD env i).map .dat) st
  | .con d, _, st => .ok (.dat d) st
  | .glo _ d, _, st => .ok (.dat d) st
  | .tup es, env, st => (evA es env st).bind fun ds s1 => if ds.length ≤ sizeLine then .ok (.dat (.tup ds)) s1 else .bad
  | .lst es, env, st => (evA es env st).bind fun ds s1 => if ds.length ≤ sizeLine then .ok (.own ds) s1 else .bad
  | .bin o a b, env, st => (ev a env st).bind fun x s1 => (ev b env s1).bind fun y s2 => opt (binD o x.d y.d) s2
  | .neg a, env, st => (ev a env st).bind fun x s1 => match x.d with
    | .int i => .ok (.dat (.int (-i))) s1
    | _ => .bad
  | .cmp o a b, env, st => (ev a env st).bind fun x s1 => (ev b env s1).bind fun y s2 => opt ((cmpD o x.d y.d).map fun k => .dat (.bl k)) s2
  | .chain o o' a b c, env, st => (ev a env st).bind fun x s1 => (ev b env s1).bind fun y s2 => match cmpD o x.d y.d with
    | some true => (ev c env s2).bind fun z s3 => opt ((cmpD o' y.d z.d).map fun k => .dat (.bl k)) s3
    | some false => .ok (.dat (.bl false)) s2
    | none => .bad
  | .not a, env, st => (ev a env st).bind fun x s1 => match x.d with
    | .bl k => .ok (.dat (.bl (!k))) s1
    | _ => .bad
  | .and a b, env, st => (ev a env st).bind fun x s1 => match x.d with
    | .bl true => ev b env s1
    | .bl false => .ok (.dat (.bl false)) s1
    | _ => .bad
  | .or a b, env, st => (ev a env st).bind fun x s1 => match x.d with
    | .bl true => .ok (.dat (.bl true)) s1
    | .bl false => ev b env s1
    | _ => .bad
  | .ite c a b, env, st => (ev c env st).bind fun x s1 => match x.d with
    | .bl true => ev a env s1
    | .bl false => ev b env s1
    | _ => .bad
  | .idx a i, env, st => (ev a env st).bind fun x s1 => (ev i env s1).bind fun y s2 => match items x.d, y.d with
    | some xs, .int k => opt ((atD xs k).map .dat) s2
    | _, _ => .bad
  | .idxM m i, env, st => match getM env m with
    | some xs => (ev i env st).bind fun y s1 => match y.d with
      | .int k => opt ((atD xs k).map .dat) s1
      | _ => .bad
    | none => .bad
  | .lenM m, env, st => opt ((getM env m).map fun xs => .dat (.int xs.length)) st
  | .slc a lo hi, env, st => (ev a env st).bind fun x s1 => (evO lo env s1).bind fun l s2 => (evO hi env s2).bind fun h s3 => opt (slcD x.d l h) s3
  | .rev a, env, st => (ev a env st).bind fun x s1 => opt (revD x.d) s1
  | .call f _ es, env, st => (evA es env st).bind fun ds s1 => cf f ds s1
  | .gfn f _, _, st => .ok (.dat (.fn f)) st
  | .callv i fs es, env, st => match getD env i with
    | some (.fn f) => if fs.any fun p => decide (p.1 = f) then (evA es env st).bind fun ds s1 => cf f ds s1 else .bad
    | _ => .bad
  | .b1 f a, env, st => (ev a env st).bind fun x s1 => opt (b1D f x.d) s1
  | .b2 f a b, env, st => (ev a env st).bind fun x s1 => (ev b env s1).bind fun y s2 => opt (b2D f x.d y.d) s2
  | .isi a t, env, st => (ev a env st).bind fun x s1 => opt ((isiD x.d t).map fun k => .dat (.bl k)) s1
  | .lrng tp it, env, st => (evI it env st).bind fun xs s1 => .ok (if tp then .dat (.tup xs) else .own xs) s1
  | .comp e g own it c, env, st => (evI it env st).bind fun xs s1 => if own.any fun i => (getM env i).isSome then .bad else
    (compL (fun x s2 => (opt (putG g x (wipeE env own)) s2).bind fun env' s2 => (evC c env' s2).bind fun k s3 =>
      if k then (ev e env' s3).bind fun y s4 => .ok (some y.d) s4 else .ok none s3) xs s1).bind fun ys s5 => if ys.length ≤ sizeLine then .ok (.own ys) s5 else .bad
  | .get a x, env, st => (ev a env st).bind fun d s1 => opt ((getF x d.d s1).map .dat) s1
  | .obi a i, env, st => (ev a env st).bind fun d s1 => (ev i env s1).bind fun y s2 => match lstF d.d s2, y.d with
    | some xs, .int k => opt ((atD xs k).map .dat) s2
    | _, _ => .bad
  | .obl a, env, st => (ev a env st).bind fun d s1 => opt ((lstF d.d s1).map fun xs => .dat (.int xs.length)) s1
  | .obe a, env, st => (ev a env st).bind fun d s1 => match lstF d.d s1 with
    | some xs => if okD 60 (.lst xs) then .ok (.dat (.bl (!xs.isEmpty))) s1 else .bad
    | none => .bad
  | .new a, env, st => (ev a env st).bind fun d s1 => match d with
    | .own xs => .ok (.dat (.ref s1.length)) (s1 ++ [.lst xs])
    | .dat _ => .bad
  | .isx a c _, env, st => (ev a env st).bind fun x s1 => match x.d with
    | .err k _ => .ok (.dat (.bl (subC k c))) s1
    | .non => .ok (.dat (.bl false)) s1
    | _ => .bad
  | .fld a x, env, st => (ev a env st).bind fun y s1 => match y.d with
    | .err k p => if fldC k = x then .ok (.dat p) s1 else .bad
    | _ => .bad
  | .lamc f _ e, env, st => match ev e env st with
    | .ok w s1 => cf f [.tup [w.d]] s1
    | .exc c p s1 => cf f [.err c p] s1
    | .bad => .bad
  | .dic, _, st => .ok (.dat .emp) st
  | .call0 f _, _, st => cf f [] st
  | .calld f _ es, env, st => (evA es env st).bind fun ds s1 => match kwId f with
    | some p => cf f (ds ++ [.int p.2]) s1
    | none => .bad
  | .callk f _ es e, env, st => (evA es env st).bind fun ds s1 => (ev e env s1).bind fun z s2 => cf f (ds ++ [z.d]) s2
  | .mke q _ e, env, st => (ev e env st).bind fun x s1 => .ok (.dat (.err q x.d)) s1
  | .mk0 _ e, env, st => (ev e env st).bind fun x s1 => .ok (.dat (.err 0 x.d)) s1
  | .isb a n, env, st => (ev a env st).bind fun y s1 => match y.d with
    | .err k _ => .ok (.dat (.bl (subB k n))) s1
    | _ => .bad
  | .cnt a e, env, st => (ev a env st).bind fun x s1 => match x.d with
    | .lst xs => (ev e env s1).bind fun y s2 => if scalar y.d && xs.all scalar then .ok (.dat (.int (xs.countP fun z => eqD z y.d))) s2 else .bad
    | _ => .bad
def evA : A → Fr → Sto → R (List D)
  | .nil, _, st => .ok [] st
  | .cons e r, env, st => (ev e env st).bind fun x s1 => (evA r env s1).bind fun xs s2 => .ok (x.d :: xs) s2
  | .star e r, env, st => (ev e env st).bind fun x s1 => match items x.d with
    | some ys => (evA r env s1).bind fun xs s2 => .ok (ys ++ xs) s2
    | none => .bad
def evO : O → Fr → Sto → R (Option Int)
  | .none, _, st => .ok none st
  | .some e, env, st => (ev e env st).bind fun x s1 => match x.d with
    | .int i => .ok (some i) s1
    | _ => .bad
def evI : It → Fr → Sto → R (List D)
  | .seq e, env, st => (ev e env st).bind fun x s1 => opt (items x.d) s1
  | .mut i, env, st => opt (getM env i) st
  | .rng1 a, env, st => (ev a env st).bind fun x s1 => match x.d with
    | .int n => if rngOk 0 n then .ok (rng 0 n) s1 else .bad
    | _ => .bad
  | .rng2 a b, env, st => (ev a env st).bind fun x s1 => (ev b env s1).bind fun y s2 => match x.d, y.d with
    | .int m, .int n => if rngOk m n then .ok (rng m n) s2 else .bad
    | _, _ => .bad
  | .zip a b, env, st => (ev a env st).bind fun x s1 => (ev b env s1).bind fun y s2 => match items x.d, items y.d with
    | some xs, some ys => .ok (zipF xs ys) s2
    | _, _ => .bad
  | .enum a, env, st => (ev a env st).bind fun x s1 => opt ((items x.d).map enumF) s1
  | .enumz a b, env, st => (ev a env st).bind fun x s1 => (ev b env s1).bind fun y s2 => match x.d, y.d with
    | .lst xs, .lst ys => .ok (enumF (zipF xs ys)) s2
    | _, _ => .bad
def evC : C → Fr → Sto → R Bool
  | .yes, _, st => .ok true st
  | .one e, env, st => (ev e env st).bind fun x s1 => match x.d with
    | .bl k => .ok k s1
    | _ => .bad
end
/-- the items as they come: an own list stays one -/
def evW : A → Fr → Sto → R (List W)
  | .nil, _, st => .ok [] st
  | .cons e r, env, st => (ev cf e env st).bind fun x s1 => (evW r env s1).bind fun xs s2 => .ok (x :: xs) s2
  | .star _ _, _, _ => .bad

inductive Out where
  | nx (env : Fr) (st : Sto) | rt (w : W) (st : Sto) | exc (c : Nat) (p : D) (env : Fr) (st : Sto) | bad
def R.out (r : R α) (env : Fr) (f : α → Sto → Out) : Out := match r with
  | .ok a st => f a st
  | .exc c p st => .exc c p env st
  | .bad => .bad
def Out.andThen (o : Out) (f : Fr → Sto → Out) : Out := match o with
  | .nx env st => f env st
  | o => o
def forL (body : D → Fr → Sto → Out) : List D → Fr → Sto → Out
  | [], env, st => .nx env st
  | x :: xs, env, st => (body x env st).andThen fun env' s1 => forL body xs env' s1
def whileL (c : Fr → Sto → R Bool) (body : Fr → Sto → Out) : Nat → Fr → Sto → Out
  | 0, _, _ => .bad
  | n + 1, env, st => (c env st).out env fun k s1 => if k then (body env s1).andThen fun env' s2 => whileL c body n env' s2 else .nx env s1
/-- several names at once -/
def putP : List (Bool × Nat) → List W → Fr → Option Fr
  | [], [], env => some env
  | (false, i) :: r, w :: ws, env => if i < env.length then putP r ws (env.set i (.dat w.d)) else none
  | (true, i) :: r, .own xs :: ws, env => if i < env.length then putP r ws (env.set i (.mut xs)) else none
  | _, _, _ => none
variable (wf : Nat)
mutual
def ex : S → Fr → Sto → Out
  | .asg g e, env, st => (ev cf e env st).out env fun x s1 => match putG g x.d env with
    | some env' => .nx env' s1
    | none => .bad
  | .own i e, env, st => (ev cf e env st).out env fun x s1 => match x with
    | .own xs => if i < env.length then .nx (env.set i (.mut xs)) s1 else .bad
    | _ => .bad
  | .par gs es, env, st => (evW cf es env st).out env fun ws s1 => match putP gs ws env with
    | some env' => .nx env' s1
    | none => .bad
  | .setm i k e, env, st => match getM env i with
    | some xs => (ev cf e env st).out env fun x s1 => (ev cf k env s1).out env fun y s2 => match y.d with
      | .int n => match ixD xs.length n with
        | some j => .nx (env.set i (.mut (xs.set j x.d))) s2
        | none => .bad
      | _ => .bad
    | none => .bad
  | .augm i o k e, env, st => match getM env i with
    | some xs => (ev cf k env st).out env fun y s1 => match y.d with
      | .int n => match ixD xs.length n with
        | some j => match xs[j]? with
          | some z => (ev cf e env s1).out env fun x s2 => match augD o z x.d with
            | some q => .nx (env.set i (.mut (xs.set j q))) s2
            | none => .bad
          | none => .bad
        | none => .bad
      | _ => .bad
    | none => .bad
  | .appm i e, env, st => match getM env i with
    | some xs => (ev cf e env st).out env fun x s1 => if xs.length < sizeLine then .nx (env.set i (.mut (xs ++ [x.d]))) s1 else .bad
    | none => .bad
  | .extm i e, env, st => match getM env i with
    | some xs => (ev cf e env st).out env fun x s1 => match x.d with
      | .lst ys => if xs.length + ys.length ≤ sizeLine then .nx (env.set i (.mut (xs ++ ys))) s1 else .bad
      | _ => .bad
    | none => .bad
  | .ife c a b, env, st => (ev cf c env st).out env fun x s1 => match x.d with
    | .bl true => exs a env s1
    | .bl false => exs b env s1
    | _ => .bad
  | .for_ g it b, env, st => (evI cf it env st).out env fun xs s1 => forL (fun x env s2 => match putG g x env with
    | some env' => exs b env' s2
    | none => .bad) xs env s1
  | .whl c b, env, st => whileL (fun env st => (ev cf c env st).bind fun x s1 => match x.d with
    | .bl k => .ok k s1
    | _ => .bad) (fun env st => exs b env st) wf env st
  | .ret e, env, st => (ev cf e env st).out env fun x s1 => .rt x s1
  | .exp e, env, st => (ev cf e env st).out env fun _ s1 => .nx env s1
  | .mk a b c, env, st => (ev cf a env st).out env fun x s1 => (ev cf b env s1).out env fun y s2 => (ev cf c env s2).out env fun z s3 => match x.d, y, z.d with
    | .int m, .own xs, .int t => .rt (.dat (.ref (s3.length + 1))) (s3 ++ [.lst xs, .dct [("mixed", .int m), ("great", .ref s3.length), ("turn", .int t)]])
    | _, _, _ => .bad
  | .put a x e, env, st => (ev cf e env st).out env fun y s1 => (ev cf a env s1).out env fun d s2 => match putF x d.d y.d s2 with
    | some s3 => .nx env s3
    | none => .bad
  | .obs a i e, env, st => (ev cf e env st).out env fun y s1 => (ev cf a env s1).out env fun d s2 => (ev cf i env s2).out env fun z s3 => match z.d with
    | .int k => match setF d.d k y.d s3 with
      | some s4 => .nx env s4
      | none => .bad
    | _ => .bad
  | .ppar a x i e1 e2, env, st => (ev cf e1 env st).out env fun y s1 => (ev cf e2 env s1).out env fun z s2 => (ev cf a env s2).out env fun d s3 => match putF x d.d y.d s3 with
    | some s4 => if i < env.length then .nx (env.set i (.dat z.d)) s4 else .bad
    | none => .bad
  | .dead, _, _ => .bad
  | .rais c _ e, env, st => (ev cf e env st).out env fun x s1 => .exc c x.d env s1
  | .tryc t e cs i j, env, st => match ev cf e env st with
    | .ok w s1 => (match t with
      | none => .nx env s1
      | some k => match putG (.nm k) w.d env with
        | some env' => .nx env' s1
        | none => .bad)
    | .exc c p s1 => if cs.any fun q => subC c q.1 then .nx ((env.set j (.dat (.err c p))).set i .un) s1 else .exc c p env s1
    | .bad => .bad
  | .told ns t cs i j, env, st => match getD env 0 with
    | some (.tup [d]) => (match t with
      | none => .nx (nons ns (env.set 0 .un)) st
      | some k => .nx ((nons ns (env.set 0 .un)).set k (.dat d)) st)
    | some (.err c p) => if cs.any fun q => subC c q.1 then .nx (((nons ns (env.set 0 .un)).set j (.dat (.err c p))).set i .un) st else .exc c p (nons ns (env.set 0 .un)) st
    | _ => .bad
def exs : Ss → Fr → Sto → Out
  | .nil, env, st => .nx env st
  | .cons s r, env, st => (ex s env st).andThen fun env' s1 => exs r env' s1
  | .frz i r, env, st => match getM env i with
    | some xs => exs r (env.set i (.dat (.lst xs))) st
    | none => .bad
  | .melt i r, env, st => match getD env i with
    | some (.lst xs) => match meltD xs st with
      | some q => exs r (env.set i (.dat (.lst q.1))) q.2
      | none => .bad
    | _ => .bad
end
end

/-! ### defs -/
structure Fn where
  np : Nat
  nN : Nat
  body : Ss
/-- a table of defs; natives: what they do is told from outside -/
structure Tab where
  fn : Nat → Option Fn
  nat : Nat → (Nat → List D → Sto → R W) → List D → Sto → R W
def st0 (f : Fn) (ds : List D) : Fr := ds.map .dat ++ List.replicate (f.nN - ds.length) .un
def done (o : Out) : R W := match o with
  | .nx _ st => .ok (.dat .non) st
  | .rt w st => .ok w st
  | .exc c p _ st => .exc c p st
  | .bad => .bad
def run (T : Tab) (wf : Nat) : Nat → Nat → List D → Sto → R W
  | 0, _, _, _ => .bad
  | k + 1, f, ds, st => match T.fn f with
    | some F => if ds.length = F.np then done (exs (run T wf k) wf F.body (st0 F ds) st) else .bad
    | none => T.nat f (run T wf k) ds st
end MP

set_option Elab.async false
set_option linter.all false
set_option maxRecDepth 100000
namespace MP
open PySem PySem.Spec L2

structure Gb where
  P : Program
  w : World
  K : PySem.W.Frag
  mg : Str → Option Value
  base : Heap
  fa : Nat → Addr
  ca : Nat → Addr
  kn : Nat → Bool
  k0 : Bool
  T : List (Addr × Str)
abbrev Rho := List Addr
abbrev sh (ρ : Rho) : List Addr := ρ

mutual
inductive VR (g : Gb) (F : Hp) (ρ : Rho) : D → V → Prop
  | non : VR g F ρ .non .non
  | bl (b : Bool) : VR g F ρ (.bl b) (.bl b)
  | int (i : Int) : VR g F ρ (.int i) (.int i)
  | str (s : Str) : VR g F ρ (.str s) (.str s)
  | tup {a : Addr} {vs : List V} {ds : List D} : SqT g.K F a vs → VRs g F ρ ds vs → VR g F ρ (.tup ds) (.ref a)
  | lst {a : Addr} {vs : List V} {ds : List D} : F a = some (.lst vs) → VRs g F ρ ds vs → VR g F ρ (.lst ds) (.ref a)
  | emp {a : Addr} : F a = some (.dK []) → VR g F ρ .emp (.ref a)
  | ref {n : Nat} {p : Addr} : ρ[n]? = some p → VR g F ρ (.ref n) (.ref p)
  | fn {n : Nat} : VR g F ρ (.fn n) (.ref (g.fa n))
  | scr {a : Addr} {ns : List Int} : SqL g.K F a (ns.map V.int) → VR g F ρ (.scr ns) (.ref a)
  | err {a d : Addr} {c : Nat} {p : D} {v : V} : g.kn c = true → F a = some (ErO (.ref (g.ca c)) (some d) a) → F d = some (.xd [(fldC c, v)]) → VR g F ρ p v → VR g F ρ (.err c p) (.ref a)
  | er0 {a : Addr} {p : D} : g.k0 = true → F a = some (ExO (.ref (g.ca 0)) a) → VR g F ρ (.err 0 p) (.ref a)
inductive VRs (g : Gb) (F : Hp) (ρ : Rho) : List D → List V → Prop
  | nil : VRs g F ρ [] []
  | cons {d : D} {v : V} {ds : List D} {vs : List V} : VR g F ρ d v → VRs g F ρ ds vs → VRs g F ρ (d :: ds) (v :: vs)
end

section
variable {g : Gb} {F : Hp} {ρ : Rho} {v : V}
theorem VR.tupI {ds : List D} (h : VR g F ρ (.tup ds) v) : ∃ a vs, v = .ref a ∧ SqT g.K F a vs ∧ VRs g F ρ ds vs := by
  cases h with
  | tup a b => exact ⟨_, _, rfl, a, b⟩
theorem VR.lstI {ds : List D} (h : VR g F ρ (.lst ds) v) : ∃ a vs, v = .ref a ∧ F a = some (.lst vs) ∧ VRs g F ρ ds vs := by
  cases h with
  | lst a b => exact ⟨_, _, rfl, a, b⟩
theorem VR.scrI {ns : List Int} (h : VR g F ρ (.scr ns) v) : ∃ a, v = .ref a ∧ SqL g.K F a (ns.map V.int) := by
  cases h with
  | scr a => exact ⟨_, rfl, a⟩
theorem VR.errI {c : Nat} {p : D} (h : VR g F ρ (.err c p) v) : (∃ a d u, v = .ref a ∧ g.kn c = true ∧ F a = some (ErO (.ref (g.ca c)) (some d) a) ∧ F d = some (.xd [(fldC c, u)]) ∧ VR g F ρ p u) ∨ (c = 0 ∧ ∃ a, v = .ref a ∧ g.k0 = true ∧ F a = some (ExO (.ref (g.ca 0)) a)) := by
  cases h with
  | err k a b c => exact .inl ⟨_, _, _, rfl, k, a, b, c⟩
  | er0 k a => exact .inr ⟨rfl, _, rfl, k, a⟩
theorem VR.empI (h : VR g F ρ .emp v) : ∃ a, v = .ref a ∧ F a = some (.dK []) := by
  cases h with
  | emp a => exact ⟨_, rfl, a⟩
theorem VR.nonI (h : VR g F ρ .non v) : v = .non := by cases h; rfl
theorem VR.blI {b : Bool} (h : VR g F ρ (.bl b) v) : v = .bl b := by cases h; rfl
theorem VR.intI {i : Int} (h : VR g F ρ (.int i) v) : v = .int i := by cases h; rfl
theorem VR.strI {s : Str} (h : VR g F ρ (.str s) v) : v = .str s := by cases h; rfl
end
theorem same_seqT {K : PySem.W.Frag} {F F' : Hp} {a : Addr} {xs : List V} (e : Same F F') (h : SqT K F a xs) : SqT K F' a xs := by
  rcases h with (h | ⟨o, h⟩) | h
  · exact .inl (.inl (e _ _ h))
  · exact .inl (.inr ⟨o, e _ _ h⟩)
  · exact .inr h
section
variable {g : Gb} {F F' : Hp} {ρ ρ' : Rho}
mutual
theorem VR.mono (e : Same F F') (r : ρ <+: ρ') : ∀ {d : D} {v : V}, VR g F ρ d v → VR g F' ρ' d v
  | .non, _, h => by cases h; exact .non
  | .bl b, _, h => by cases h; exact .bl b
  | .int i, _, h => by cases h; exact .int i
  | .str s, _, h => by cases h; exact .str s
  | .tup ds, _, h => by
    cases h with
    | tup a b => exact .tup (same_seqT e a) (VRs.mono e r b)
  | .lst ds, _, h => by
    cases h with
    | lst a b => exact .lst (e _ _ a) (VRs.mono e r b)
  | .emp, _, h => by
    cases h with
    | emp a => exact .emp (e _ _ a)
  | .ref n, _, h => by
    cases h with
    | ref a =>
      obtain ⟨t, rfl⟩ := r
      exact .ref (by rw [List.getElem?_append_left (List.getElem?_eq_some_iff.mp a).1]; exact a)
  | .fn n, _, h => by cases h; exact .fn
  | .scr ns, _, h => by
    cases h with
    | scr a => exact .scr (e.seq a)
  | .err c p, _, h => by
    cases h with
    | err k a b c => exact .err k (e _ _ a) (e _ _ b) (VR.mono e r c)
    | er0 k a => exact .er0 k (e _ _ a)
theorem VRs.mono (e : Same F F') (r : ρ <+: ρ') : ∀ {ds : List D} {vs : List V}, VRs g F ρ ds vs → VRs g F' ρ' ds vs
  | [], _, h => by cases h; exact .nil
  | d :: ds, _, h => by
    cases h with
    | cons a b => exact .cons (VR.mono e r a) (VRs.mono e r b)
end
theorem VRs.length : ∀ {ds : List D} {vs : List V}, VRs g F ρ ds vs → ds.length = vs.length
  | [], _, h => by cases h; rfl
  | d :: ds, _, h => by
    cases h with
    | cons a b => simp [VRs.length b]
theorem VRs.get : ∀ {ds : List D} {vs : List V} {i : Nat} {d : D}, VRs g F ρ ds vs → ds[i]? = some d → ∃ v, vs[i]? = some v ∧ VR g F ρ d v
  | [], _, _, _, _, e => by simp at e
  | x :: ds, _, 0, d, h, e => by
    cases h with
    | cons a b => simp at e; subst e; exact ⟨_, rfl, a⟩
  | x :: ds, _, i + 1, d, h, e => by
    cases h with
    | cons a b =>
      obtain ⟨v, h1, h2⟩ := VRs.get (i := i) (d := d) b (by simpa using e)
      exact ⟨v, by simpa using h1, h2⟩
theorem VRs.get' : ∀ {ds : List D} {vs : List V} {i : Nat} {v : V}, VRs g F ρ ds vs → vs[i]? = some v → ∃ d, ds[i]? = some d ∧ VR g F ρ d v := fun {ds vs i v} h e => by
  have h1 : i < ds.length := by rw [h.length]; exact (List.getElem?_eq_some_iff.mp e).1
  obtain ⟨v', h2, h3⟩ := h.get (List.getElem?_eq_getElem h1)
  rw [e] at h2; cases h2
  exact ⟨_, List.getElem?_eq_getElem h1, h3⟩
theorem VRs.append : ∀ {ds es : List D} {vs us : List V}, VRs g F ρ ds vs → VRs g F ρ es us → VRs g F ρ (ds ++ es) (vs ++ us)
  | [], _, _, _, h, s => by cases h; exact s
  | d :: ds, _, _, _, h, s => by
    cases h with
    | cons a b => exact .cons a (VRs.append b s)
theorem VRs.take : ∀ {ds : List D} {vs : List V} (n : Nat), VRs g F ρ ds vs → VRs g F ρ (ds.take n) (vs.take n)
  | _, _, 0, _ => by simpa using VRs.nil
  | [], _, n + 1, h => by cases h; exact .nil
  | d :: ds, _, n + 1, h => by
    cases h with
    | cons a b => exact .cons a (VRs.take n b)
theorem VRs.drop : ∀ {ds : List D} {vs : List V} (n : Nat), VRs g F ρ ds vs → VRs g F ρ (ds.drop n) (vs.drop n)
  | _, _, 0, h => h
  | [], _, n + 1, h => by cases h; exact .nil
  | d :: ds, _, n + 1, h => by
    cases h with
    | cons a b => exact VRs.drop n b
theorem VRs.set : ∀ {ds : List D} {vs : List V} (n : Nat) {d : D} {v : V}, VRs g F ρ ds vs → VR g F ρ d v → VRs g F ρ (ds.set n d) (vs.set n v)
  | [], _, n, _, _, h, r => by cases h; simpa using VRs.nil
  | x :: ds, _, 0, _, _, h, r => by
    cases h with
    | cons a b => exact .cons r b
  | x :: ds, _, n + 1, _, _, h, r => by
    cases h with
    | cons a b => exact .cons a (VRs.set n b r)
theorem VRs.one {d : D} {v : V} (h : VR g F ρ d v) : VRs g F ρ [d] [v] := .cons h .nil
theorem VRs.reverse : ∀ {ds : List D} {vs : List V}, VRs g F ρ ds vs → VRs g F ρ ds.reverse vs.reverse
  | [], _, h => by cases h; exact .nil
  | d :: ds, _, h => by
    cases h with
    | cons a b => simpa using VRs.append (VRs.reverse b) (.one a)
theorem VRs.rep {ds : List D} {vs : List V} (h : VRs g F ρ ds vs) : ∀ n : Nat, VRs g F ρ (List.replicate n ds).flatten (List.replicate n vs).flatten
  | 0 => .nil
  | n + 1 => by
    rw [List.replicate_succ, List.replicate_succ, List.flatten_cons, List.flatten_cons]
    exact h.append (VRs.rep h n)
theorem VRs.ints : ∀ {ds : List D} {vs : List V} {is : List Int}, VRs g F ρ ds vs → intsOf ds = some is → vs = is.map V.int
  | [], _, _, h, e => by cases h; simp [intsOf] at e; subst e; rfl
  | .int i :: ds, _, is, h, e => by
    cases h with
    | cons a b =>
      cases a
      simp only [intsOf] at e
      cases q : intsOf ds with
      | none => rw [q] at e; cases e
      | some js =>
        rw [q] at e
        simp at e; subst e
        rw [VRs.ints b q]; rfl
  | .non :: ds, _, _, h, e => by simp [intsOf] at e
  | .bl _ :: ds, _, _, h, e => by simp [intsOf] at e
  | .str _ :: ds, _, _, h, e => by simp [intsOf] at e
  | .tup _ :: ds, _, _, h, e => by simp [intsOf] at e
  | .lst _ :: ds, _, _, h, e => by simp [intsOf] at e
  | .emp :: ds, _, _, h, e => by simp [intsOf] at e
  | .ref _ :: ds, _, _, h, e => by simp [intsOf] at e
  | .fn _ :: ds, _, _, h, e => by simp [intsOf] at e
  | .scr _ :: ds, _, _, h, e => by simp [intsOf] at e
  | .err _ _ :: ds, _, _, h, e => by simp [intsOf] at e
theorem VRs.bools : ∀ {ds : List D} {vs : List V} {is : List Bool}, VRs g F ρ ds vs → bools ds = some is → vs = is.map V.bl
  | [], _, _, h, e => by cases h; simp [MP.bools] at e; subst e; rfl
  | .bl i :: ds, _, is, h, e => by
    cases h with
    | cons a b =>
      cases a
      simp only [MP.bools] at e
      cases q : MP.bools ds with
      | none => rw [q] at e; cases e
      | some js =>
        rw [q] at e
        simp at e; subst e
        rw [VRs.bools b q]; rfl
  | .non :: ds, _, _, h, e => by simp [MP.bools] at e
  | .int _ :: ds, _, _, h, e => by simp [MP.bools] at e
  | .str _ :: ds, _, _, h, e => by simp [MP.bools] at e
  | .tup _ :: ds, _, _, h, e => by simp [MP.bools] at e
  | .lst _ :: ds, _, _, h, e => by simp [MP.bools] at e
  | .emp :: ds, _, _, h, e => by simp [MP.bools] at e
  | .ref _ :: ds, _, _, h, e => by simp [MP.bools] at e
  | .fn _ :: ds, _, _, h, e => by simp [MP.bools] at e
  | .scr _ :: ds, _, _, h, e => by simp [MP.bools] at e
  | .err _ _ :: ds, _, _, h, e => by simp [MP.bools] at e
theorem VRs.of_ints : ∀ is : List Int, VRs g F ρ (is.map D.int) (is.map V.int)
  | [] => .nil
  | i :: is => .cons (.int i) (VRs.of_ints is)
end

/-! ### objects -/
def ObR (g : Gb) (F : Hp) (ρ : Rho) (H : Hp) : Ob → Addr → Prop
  | .lst xs, a => ∃ vs, H a = some (.lst vs) ∧ VRs g F ρ xs vs
  | .dct kvs, a => ∃ vs, H a = some (.dK ((kvs.map fun kv => (Sum.inr kv.1 : Key)).zip vs)) ∧ VRs g F ρ (kvs.map (·.2)) vs
  | .gone, a => ∃ o, F a = some o
structure StR (g : Gb) (F : Hp) (ρ : Rho) (H : Hp) (st : Sto) : Prop where
  len : ρ.length = st.length
  at_ : ∀ (n : Nat) o p, st[n]? = some o → ρ[n]? = some p → ObR g F ρ H o p
  nd : (sh ρ).Nodup
section
variable {g : Gb} {F F' : Hp} {ρ ρ' : Rho} {H H' : Hp} {st : Sto}
theorem ObR.some {o : Ob} {p : Addr} (h : ObR g F ρ H o p) (s : Same F H) : ∃ x, H p = some x := by
  cases o with
  | lst xs => obtain ⟨vs, h, _⟩ := h; exact ⟨_, h⟩
  | dct kvs => obtain ⟨vs, h, _⟩ := h; exact ⟨_, h⟩
  | gone => obtain ⟨o, h⟩ := h; exact ⟨_, s _ _ h⟩
theorem ObR.of {o : Ob} {p : Addr} (h : ObR g F ρ H o p) (h1 : H' p = H p) : ObR g F ρ H' o p := by
  cases o with
  | lst xs => obtain ⟨vs, h, r⟩ := h; exact ⟨vs, h1.trans h, r⟩
  | dct kvs => obtain ⟨vs, h, r⟩ := h; exact ⟨vs, h1.trans h, r⟩
  | gone => exact h
theorem ObR.mono {o : Ob} {p : Addr} (h : ObR g F ρ H o p) (s : Same F F') (q : ρ <+: ρ') : ObR g F' ρ' H o p := by
  cases o with
  | lst xs => obtain ⟨vs, h, r⟩ := h; exact ⟨vs, h, r.mono s q⟩
  | dct kvs => obtain ⟨vs, h, r⟩ := h; exact ⟨vs, h, r.mono s q⟩
  | gone => obtain ⟨o, h⟩ := h; exact ⟨o, s _ _ h⟩
theorem StR.some (h : StR g F ρ H st) (s : Same F H) {a : Addr} (ha : a ∈ sh ρ) : ∃ x, H a = some x := by
  obtain ⟨n, hn, q⟩ := List.getElem_of_mem ha
  have h1 : n < st.length := by rw [← h.len]; exact hn
  exact (h.at_ n _ a (List.getElem?_eq_getElem h1) (by rw [List.getElem?_eq_getElem hn, q])).some s
theorem StR.of (h : StR g F ρ H st) (k : ∀ a ∈ sh ρ, H' a = H a) : StR g F ρ H' st :=
  ⟨h.len, fun n o p e1 e2 => (h.at_ n o p e1 e2).of (k _ (List.mem_of_getElem? e2)), h.nd⟩
theorem StR.mono (h : StR g F ρ H st) (s : Same F F') : StR g F' ρ H st := ⟨h.len, fun n o p e1 e2 => (h.at_ n o p e1 e2).mono s (List.prefix_refl _), h.nd⟩
end

/-! ### a body's state -/
structure Bs where
  H0 : Hp
  F0 : Hp
  ρ0 : Rho
  P : List (Addr × HO)
/-- tables of code objects -/
def notT (o : HO) : Prop := ∀ ps, o ≠ .tbl ps
structure TB (g : Gb) (b : Bs) (F H : Hp) : Prop where
  tabs : LamX.Tabs g.T H
  ntb : ∀ a o, F a = some o → notT o
  kpt : ∀ a ps, b.H0 a = some (.tbl ps) → ∃ ps', H a = some (.tbl ps')
  pnt : ∀ q ∈ b.P, notT q.2
section
variable {g : Gb} {b : Bs} {F H : Hp}
theorem nt_lst (xs : List V) : notT (.lst xs) := fun _ z => by cases z
theorem nt_tup (xs : List V) : notT (.tup xs) := fun _ z => by cases z
theorem nt_dK (kvs : List (Key × V)) : notT (.dK kvs) := fun _ z => by cases z
theorem nt_ext (φ : Heap → Prop) : notT (.ext φ) := fun _ z => by cases z
theorem nt_xd (fs : List (Str × V)) : notT (.xd fs) := fun _ z => by cases z
theorem TB.alloc (t : TB g b F H) {p : Addr} {o : HO} (hp : H p = none) : TB g b F (upd H p o) where
  tabs := t.tabs.ext fun c x e => by rw [upd_ne (ne_of_none e hp)]; exact e
  ntb := t.ntb
  kpt := fun a ps e => by
    obtain ⟨ps', h⟩ := t.kpt a ps e
    exact ⟨ps', by rw [upd_ne (ne_of_none h hp)]; exact h⟩
  pnt := t.pnt
theorem TB.frz (t : TB g b F H) {p : Addr} {o : HO} (h : notT o) : TB g b (upd F p o) H where
  tabs := t.tabs
  ntb := fun a x e => by
    by_cases z : a = p
    · subst z; rw [upd_same] at e; cases e; exact h
    · rw [upd_ne z] at e; exact t.ntb a x e
  kpt := t.kpt
  pnt := t.pnt
/-- an object that is no table and no code object is changed -/
theorem TB.write (t : TB g b F H) {p : Addr} {o o' : HO} (hp : H p = some o) (h1 : notT o) (h2 : ∀ φ, o ≠ .ext φ) : TB g b F (upd H p o') where
  tabs := fun q hq => by
    obtain ⟨ps, e1, e2, e3⟩ := t.tabs q hq
    refine ⟨ps, by rw [upd_ne (ne_of e1 hp (fun z => h1 ps z.symm))]; exact e1, e2, fun pos cv hc => ?_⟩
    obtain ⟨c, e4, e5⟩ := e3 pos cv hc
    exact ⟨c, e4, by rw [upd_ne (ne_of e5 hp (fun z => h2 _ z.symm))]; exact e5⟩
  ntb := t.ntb
  kpt := fun a ps e => by
    obtain ⟨ps', h⟩ := t.kpt a ps e
    exact ⟨ps', by rw [upd_ne (ne_of h hp (fun z => h1 ps' z.symm))]; exact h⟩
  pnt := t.pnt
theorem TB.pin (t : TB g b F H) {q : Addr × HO} (h : notT q.2) : TB g { b with P := q :: b.P } F H := ⟨t.tabs, t.ntb, t.kpt, fun x hx => by
  rcases List.mem_cons.mp hx with rfl | hx
  · exact h
  · exact t.pnt x hx⟩
theorem TB.unpin {q : Addr × HO} (t : TB g { b with P := q :: b.P } F H) : TB g b F H := ⟨t.tabs, t.ntb, t.kpt, fun x hx => t.pnt x (List.mem_cons_of_mem _ hx)⟩
end
structure Ab (g : Gb) (b : Bs) (F : Hp) (ρ : Rho) (σ : St) (H : Hp) (fr : Fr) (st : Sto) : Prop where
  sub : Same F H
  ext : Same b.F0 F
  new : ∀ a o, F a = some o → b.F0 a = some o ∨ b.H0 a = none ∨ a ∈ sh b.ρ0
  rho : ∃ more, ρ = b.ρ0 ++ more ∧ ∀ a ∈ sh more, b.H0 a = none
  keep : ∀ a o, b.H0 a = some o → a ∉ sh b.ρ0 → notT o → H a = some o
  fsh : ∀ (n : Nat) a o, ρ[n]? = some a → st[n]? = some o → o.live = true → F a = none
  sto : StR g F ρ H st
  len : fr.length = σ.length
  dat : ∀ (i : Nat) d, fr[i]? = some (.dat d) → ∃ v, σ[i]? = some (some v) ∧ VR g F ρ d v
  mu : ∀ (i : Nat) xs, fr[i]? = some (.mut xs) → ∃ a vs, σ[i]? = some (some (.ref a)) ∧ H a = some (.lst vs) ∧ VRs g F ρ xs vs ∧ F a = none ∧ a ∉ sh ρ ∧ b.H0 a = none
  apart : ∀ (i j : Nat) a xs ys, fr[i]? = some (.mut xs) → fr[j]? = some (.mut ys) → σ[i]? = some (some (.ref a)) → σ[j]? = some (some (.ref a)) → i = j
  pin : ∀ q ∈ b.P, H q.1 = some q.2 ∧ F q.1 = none ∧ q.1 ∉ sh ρ ∧ b.H0 q.1 = none ∧ ∀ (i : Nat) ys, fr[i]? = some (.mut ys) → σ[i]? ≠ some (some (.ref q.1))
  tb : TB g b F H
/-- a result stands so -/
def WR (g : Gb) (b : Bs) (F : Hp) (ρ : Rho) (H : Hp) (σ : St) (fr : Fr) : W → V → Prop
  | .dat d, v => VR g F ρ d v
  | .own xs, v => ∃ a vs, v = .ref a ∧ H a = some (.lst vs) ∧ VRs g F ρ xs vs ∧ F a = none ∧ a ∉ sh ρ ∧ b.H0 a = none ∧ (∀ (i : Nat) ys, fr[i]? = some (.mut ys) → σ[i]? ≠ some (some (.ref a))) ∧ ∀ q ∈ b.P, q.1 ≠ a
def DR (g : Gb) (_ : Bs) (F : Hp) (ρ : Rho) (_ : Hp) (_ : St) (_ : Fr) (w : W) (v : V) : Prop := VR g F ρ w.d v
def BR (_ : Gb) (_ : Bs) (_ : Hp) (_ : Rho) (_ : Hp) (_ : St) (_ : Fr) (a b : Bool) : Prop := a = b
def LR (g : Gb) (_ : Bs) (F : Hp) (ρ : Rho) (_ : Hp) (_ : St) (_ : Fr) (ds : List D) (vs : List V) : Prop := VRs g F ρ ds vs
def IR (_ : Gb) (_ : Bs) (_ : Hp) (_ : Rho) (_ : Hp) (_ : St) (_ : Fr) (a b : Option Int) : Prop := a = b
/-- an exception in the air -/
structure XR (g : Gb) (F : Hp) (ρ : Rho) (H : Hp) (c : Nat) (p : D) (cls : Value) (d : Option Addr) : Prop where
  kn : g.kn c = true
  cls : cls = .ref (g.ca c)
  fld : ∃ a v, d = some a ∧ F a = some (.xd [(fldC c, v)]) ∧ VR g F ρ p v
abbrev Rel (α β : Type) := Gb → Bs → Hp → Rho → Hp → St → Fr → α → β → Prop
def Po {α β : Type} (g : Gb) (b : Bs) (wx : WX) (Rl : Rel α β) (r : R α) (F : Hp) (ρ : Rho) (σ : St) (fr : Fr) (Q : β → Hp → Prop) : Prop := match r with
  | .ok a st => ∀ F' ρ' H' v, Same F F' → ρ <+: ρ' → Ab g b F' ρ' σ H' fr st → Rl g b F' ρ' H' σ fr a v → Q v H'
  | .exc c p st => ∀ F' ρ' H' cls d, Same F F' → ρ <+: ρ' → Ab g b F' ρ' σ H' fr st → XR g F' ρ' H' c p cls d → wx cls d σ H'
  | .bad => False
def T {α β : Type} (g : Gb) (b : Bs) (wx : WX) (Rl : Rel α β) (f : Fr → Sto → R α) : St → Hp → (β → Hp → Prop) → Prop := fun σ H Q =>
  ∃ F ρ fr st, Ab g b F ρ σ H fr st ∧ Po g b wx Rl (f fr st) F ρ σ fr Q
section
variable {g : Gb} {b : Bs} {wx : WX} {F F' : Hp} {ρ ρ' : Rho} {σ : St} {H : Hp} {fr : Fr} {st : Sto}
theorem Po.mono {α β : Type} {Rl : Rel α β} {r : R α} {Q : β → Hp → Prop} (h : Po g b wx Rl r F ρ σ fr Q) (e : Same F F') (q : ρ <+: ρ') : Po g b wx Rl r F' ρ' σ fr Q := by
  cases r with
  | ok a st => exact fun F2 ρ2 H2 v s p => h F2 ρ2 H2 v (e.trans s) (q.trans p)
  | exc c p st => exact fun F2 ρ2 H2 cls d s p => h F2 ρ2 H2 cls d (e.trans s) (q.trans p)
  | bad => exact h
/-- one part after another -/
theorem Po.seq {α β γ δ : Type} {R1 : Rel α β} {R2 : Rel γ δ} {r : R α} {k : α → Sto → R γ} {Q : δ → Hp → Prop} {Q1 : β → Hp → Prop} (h : Po g b wx R2 (r.bind k) F ρ σ fr Q)
    (hk : ∀ a s1 F1 ρ1 H1 v, r = .ok a s1 → Same F F1 → ρ <+: ρ1 → Ab g b F1 ρ1 σ H1 fr s1 → R1 g b F1 ρ1 H1 σ fr a v → Po g b wx R2 (k a s1) F1 ρ1 σ fr Q → Q1 v H1) : Po g b wx R1 r F ρ σ fr Q1 := by
  cases r with
  | ok a st => exact fun F2 ρ2 H2 v s p A rl => hk a st F2 ρ2 H2 v rfl s p A rl (Po.mono (r := k a st) h s p)
  | exc c p st => exact h
  | bad => exact h.elim
theorem Ab.fresh0 (A : Ab g b F ρ σ H fr st) {p : Addr} (hp : H p = none) : b.H0 p = none := by
  cases e : b.H0 p with
  | none => rfl
  | some o =>
    by_cases m : p ∈ sh b.ρ0
    · obtain ⟨more, rfl, _⟩ := A.rho
      obtain ⟨x, q⟩ := A.sto.some A.sub (show p ∈ sh (b.ρ0 ++ more) from List.mem_append_left _ m)
      rw [hp] at q; cases q
    · cases o with
      | tbl ps =>
        obtain ⟨ps', h⟩ := A.tb.kpt p ps e
        rw [hp] at h; cases h
      | _ =>
        have h := A.keep p _ e m (fun _ z => by cases z)
        rw [hp] at h; cases h
theorem Ab.nsh (A : Ab g b F ρ σ H fr st) {p : Addr} (hp : H p = none) : p ∉ sh ρ := fun m => by
  obtain ⟨x, q⟩ := A.sto.some A.sub m
  rw [hp] at q; cases q
theorem Ab.nF (A : Ab g b F ρ σ H fr st) {p : Addr} (hp : H p = none) : F p = none := A.sub.free hp
theorem same_upd {H : Hp} {p : Addr} {o : HO} (h : H p = none) : Same H (upd H p o) := fun c x e => by
  rw [upd_ne (ne_of_none e h)]
  exact e
theorem Ab.npin (A : Ab g b F ρ σ H fr st) {p : Addr} (hp : H p = none) {q : Addr × HO} (hq : q ∈ b.P) : q.1 ≠ p := fun z => by
  have h := (A.pin q hq).1
  rw [z, hp] at h; cases h
/-- something new, owned -/
theorem Ab.alloc (A : Ab g b F ρ σ H fr st) {p : Addr} (o : HO) (hp : H p = none) : Ab g b F ρ σ (upd H p o) fr st where
  sub := A.sub.trans (same_upd hp)
  ext := A.ext
  new := A.new
  rho := A.rho
  keep := fun a x e m nt => same_upd hp _ _ (A.keep a x e m nt)
  tb := A.tb.alloc hp
  fsh := A.fsh
  sto := A.sto.of fun a ha => upd_ne fun z => A.nsh hp (z ▸ ha)
  len := A.len
  dat := A.dat
  mu := fun i xs e => by
    obtain ⟨a, vs, h1, h2, h3⟩ := A.mu i xs e
    exact ⟨a, vs, h1, same_upd hp _ _ h2, h3⟩
  apart := A.apart
  pin := fun q hq => by
    obtain ⟨h1, h2⟩ := A.pin q hq
    exact ⟨same_upd hp _ _ h1, h2⟩
/-- something that is owned (or tracked by nobody) becomes data -/
theorem Ab.frzAt (A : Ab g b F ρ σ H fr st) {p : Addr} {o : HO} (nt : notT o) (hp : H p = some o) (h1 : F p = none) (h2 : p ∉ sh ρ) (h3 : b.H0 p = none) (h4 : ∀ (i : Nat) ys, fr[i]? = some (.mut ys) → σ[i]? ≠ some (some (.ref p))) (h5 : ∀ q ∈ b.P, q.1 ≠ p) :
    Ab g b (upd F p o) ρ σ H fr st ∧ Same F (upd F p o) := by
  have s : Same F (upd F p o) := same_upd h1
  refine ⟨?_, s⟩
  exact {
    sub := fun a x e => by
      by_cases z : a = p
      · subst z; rw [upd_same] at e; cases e; exact hp
      · rw [upd_ne z] at e; exact A.sub _ _ e
    ext := A.ext.trans s
    new := fun a x e => by
      by_cases z : a = p
      · subst z; exact .inr (.inl h3)
      · rw [upd_ne z] at e; exact A.new _ _ e
    rho := A.rho
    keep := A.keep
    tb := A.tb.frz nt
    fsh := fun n a o' ha hs hl => by
      rw [upd_ne (show a ≠ p from fun z => h2 (z ▸ List.mem_of_getElem? ha))]
      exact A.fsh n a o' ha hs hl
    sto := A.sto.mono s
    len := A.len
    dat := fun i d e => by
      obtain ⟨v, q1, q2⟩ := A.dat i d e
      exact ⟨v, q1, q2.mono s (List.prefix_refl _)⟩
    mu := fun i xs e => by
      obtain ⟨a, vs, q1, q2, q3, q4, q5, q6⟩ := A.mu i xs e
      refine ⟨a, vs, q1, q2, q3.mono s (List.prefix_refl _), ?_, q5, q6⟩
      rw [upd_ne (show a ≠ p from fun z => h4 i xs e (z ▸ q1))]
      exact q4
    apart := A.apart
    pin := fun q hq => by
      obtain ⟨q1, q2, q3⟩ := A.pin q hq
      refine ⟨q1, ?_, q3⟩
      rw [upd_ne (h5 q hq)]
      exact q2 }
/-- something new as data -/
theorem Ab.allocF (A : Ab g b F ρ σ H fr st) {p : Addr} (o : HO) (nt : notT o) (hp : H p = none) : Ab g b (upd F p o) ρ σ (upd H p o) fr st ∧ Same F (upd F p o) :=
  (A.alloc o hp).frzAt nt upd_same (A.nF hp) (A.nsh hp) (A.fresh0 hp) (fun i ys e z => by
    obtain ⟨a, vs, q1, q2, _⟩ := A.mu i ys e
    rw [z] at q1; cases q1
    rw [hp] at q2; cases q2) fun q hq => A.npin hp hq
theorem WR.frz {w : W} {v : V} (A : Ab g b F ρ σ H fr st) (h : WR g b F ρ H σ fr w v) : ∃ F', Same F F' ∧ Ab g b F' ρ σ H fr st ∧ VR g F' ρ w.d v := by
  cases w with
  | dat d => exact ⟨F, .refl _, A, (show VR g F ρ d v from h)⟩
  | own xs =>
    obtain ⟨a, vs, rfl, h1, h2, h3, h4, h5, h6, h7⟩ := h
    obtain ⟨A', s⟩ := A.frzAt (nt_lst _) h1 h3 h4 h5 h6 h7
    exact ⟨_, s, A', .lst upd_same (h2.mono s (List.prefix_refl _))⟩
/-- a new list is an owned result -/
theorem Ab.own (A : Ab g b F ρ σ H fr st) {p : Addr} (hp : H p = none) {xs : List D} {vs : List V} (h : VRs g F ρ xs vs) : WR g b F ρ (upd H p (.lst vs)) σ fr (.own xs) (.ref p) :=
  ⟨p, vs, rfl, upd_same, h, A.nF hp, A.nsh hp, A.fresh0 hp, (fun i ys e z => by
    obtain ⟨a, vs, q1, q2, _⟩ := A.mu i ys e
    rw [z] at q1; cases q1
    rw [hp] at q2; cases q2), fun q hq => A.npin hp hq⟩
end
theorem PE.by {X : Cx} {e : Expr} {t' : TE} (h : ∀ σ H Q, t' σ H Q → ∃ t, PE X e t ∧ t σ H Q) : PE X e t' := ⟨fun pins s σ H Q I q => by
  obtain ⟨t, p, q'⟩ := h σ H Q q
  exact p.run pins s σ H Q I q'⟩
theorem PT.by {X : Cx} {e : Expr} {t' : TT} (h : ∀ σ H Q, t' σ H Q → ∃ t, PT X e t ∧ t σ H Q) : PT X e t' := ⟨fun pins s σ H Q I q => by
  obtain ⟨t, p, q'⟩ := h σ H Q q
  exact p.run pins s σ H Q I q'⟩
theorem PA.by {X : Cx} {e : List Expr} {t' : TA} (h : ∀ σ H Q, t' σ H Q → ∃ t, PA X e t ∧ t σ H Q) : PA X e t' := ⟨fun pos pins s σ H Q I q => by
  obtain ⟨t, p, q'⟩ := h σ H Q q
  exact p.run pos pins s σ H Q I q'⟩
theorem PSs.by {X : Cx} {e : List Stmt} {t' : TS} (h : ∀ D σ H, t' D σ H → ∃ t, PSs X e t ∧ t D σ H) : PSs X e t' := ⟨fun pins s σ H D I q => by
  obtain ⟨t, p, q'⟩ := h D σ H q
  exact p.run pins s σ H D I q'⟩
theorem PS.by {X : Cx} {e : Stmt} {t' : TS} (h : ∀ D σ H, t' D σ H → ∃ t, PS X e t ∧ t D σ H) : PS X e t' := ⟨fun pins s σ H D I q => by
  obtain ⟨t, p, q'⟩ := h D σ H q
  exact p.run pins s σ H D I q'⟩
section
variable {g : Gb} {b : Bs} {wx : WX} {X : Cx}
/-- as data -/
theorem _root_.L2.PE.dat {e : Expr} {f : Fr → Sto → R W} (h : PE X e (T g b wx WR f)) : PE X e (T g b wx DR f) := PE.by fun σ H Q q => by
  refine ⟨_, h, ?_⟩
  obtain ⟨F, ρ, fr, st, A, p⟩ := q
  refine ⟨F, ρ, fr, st, A, ?_⟩
  cases r : f fr st with
  | ok w s1 =>
    rw [r] at p
    intro F1 ρ1 H1 v s q A1 rl
    obtain ⟨F2, s2, A2, rv⟩ := rl.frz A1
    exact p F2 ρ1 H1 v (s.trans s2) q A2 rv
  | exc c p' s1 => rw [r] at p; exact p
  | bad => rw [r] at p; exact p.elim
end
end MP

set_option Elab.async false
set_option linter.all false
set_option maxRecDepth 100000
set_option maxHeartbeats 8000000
namespace MP
open PySem PySem.Spec PyProof.Rows L2
theorem tuple_mulS (l : Addr) (items : Array Value) (n : Nat) (dd : Option Addr) (sl : Array (Option Value)) (x : Int) (u : Tok) (c0 : (decide (x < -(2 ^ 63)) || decide (x ≥ 2 ^ 63)) = false) (c1 : (items.isEmpty || x == 1) = true) :
    Meets (Builtin.«tuple.__mul__» ⟨[.ref l, .int x u], []⟩) (fun _ R s => s.heap.get? l = some { cls := .type "tuple", dict := dd, data := .seq items n, slots := sl } ∧ R (.ok (.ret (Value.ref l))) s) :=
  .of_wp fun prog w A R s h => by
    obtain ⟨hp, g, d, tk, os⟩ := s
    obtain ⟨hl, h⟩ := h
    have f1 := AutoSeq1.idx_int
    wp_walk using wpAny_loadPart' hl
    repeat (first
      | (refine wpAny_ite_false (decide_eq_false (by rw [c0]; exact Bool.false_ne_true)) ?_; wp_walk using wpAny_loadPart' hl)
      | (refine wpAny_ite_true (decide_eq_true (by rw [c1])) ?_; wp_walk using wpAny_loadPart' hl))
    exact ⟨_, rfl, h⟩
theorem tuple_mulZ (l : Addr) (items : Array Value) (n : Nat) (dd : Option Addr) (sl : Array (Option Value)) (x : Int) (u : Tok) (c0 : (decide (x < -(2 ^ 63)) || decide (x ≥ 2 ^ 63)) = false) (c1 : (items.isEmpty || x == 1) = false) (c2 : (decide (x ≤ 0) || items.isEmpty) = true) :
    Meets (Builtin.«tuple.__mul__» ⟨[.ref l, .int x u], []⟩) (fun _ R s => s.heap.get? l = some { cls := .type "tuple", dict := dd, data := .seq items n, slots := sl } ∧
      R (.ok (.ret (Value.ref s.heap.objs.size))) { s with heap := s.heap.push { cls := Value.type "tuple", data := Data.seq #[] }, toks := s.toks }) :=
  .of_wp fun prog w A R s h => by
    obtain ⟨hp, g, d, tk, os⟩ := s
    obtain ⟨hl, h⟩ := h
    have f1 := AutoSeq1.idx_int
    wp_walk using wpAny_loadPart' hl
    repeat (first
      | (refine wpAny_ite_false (decide_eq_false (by rw [c0]; exact Bool.false_ne_true)) ?_; wp_walk using wpAny_loadPart' hl)
      | (refine wpAny_ite_false (decide_eq_false (by rw [c1]; exact Bool.false_ne_true)) ?_; wp_walk using wpAny_loadPart' hl)
      | (refine wpAny_ite_true (decide_eq_true (by rw [c2])) ?_; wp_walk using wpAny_loadPart' hl))
    exact ⟨_, rfl, h⟩
/-- a tuple times a number -/
theorem op_repAny {X : Cx} : OpR X (binaryOp .Mult) (fun x y H Q => ∃ l k xs, x = .ref l ∧ y = .int k ∧ SqT X.K H l xs ∧ -1000 ≤ k ∧ k ≤ 1000 ∧ xs.length ≤ 1000 ∧
    ((List.replicate k.toNat xs).flatten = xs → Q (.ref l) H) ∧ ∀ p, H p = none → Q (.ref p) (upd H p (.tup (List.replicate k.toNat xs).flatten))) := by
  intro pins s σ H x y v u Q I rx ry h
  obtain ⟨l, k, xs, rfl, rfl, hT, h1, h2, hz, q1, q2⟩ := h
  by_cases e1 : xs ≠ [] ∧ 2 ≤ k
  · exact op_repT pins s σ H _ _ v u Q I rx ry ⟨l, k, xs, rfl, rfl, hT, e1.1, e1.2, h2, hz, q2⟩
  cases rx
  obtain ⟨t, rfl⟩ := ry
  obtain ⟨its, r, ⟨⟨cls, dd, data, sl⟩, ho, hc, n, hd⟩, hs⟩ := I.tuple hT
  simp only at hc hd
  subst hc hd
  have hle : its.length = xs.length := r.length.symm
  have c0 : (decide (k < -(2 ^ 63)) || decide (k ≥ 2 ^ 63)) = false := by
    rw [decide_eq_false (by omega), decide_eq_false (by omega)] <;> rfl
  cases c1 : (its.toArray.isEmpty || k == 1) with
  | true =>
    refine wpAny_binaryOp_repeat_ref (T := "tuple") (U := "int") (by decide) ⟨_, ho, rfl⟩ (fun s' => typeIs_int s' k t) noFill_tuple_mul F.fills_int_mul F.slot_int_rmul repeat_tuple F.slot_int_index.lookup
      (call_meets F.slot_int_rmul (typeIs_int s k t) F.entry_int_rmul (F.args_int_rmul_2 _ _) (int_rmul_tuple k t l its.toArray n dd sl)
        ⟨ho, rfl, ⟨_, ho, rfl⟩, call_meets F.slot_tuple_mul ⟨_, ho, rfl⟩ F.entry_tuple_mul (F.args_tuple_mul_2 _ _) (tuple_mulS l its.toArray n dd sl k t c0 c1) ⟨ho, ?_⟩⟩)
    refine ⟨.ref l, H, I, rfl, q1 ?_⟩
    rcases Bool.or_eq_true _ _ ▸ c1 with e | e
    · have : its = [] := by simpa using e
      rw [this] at hle
      have : xs = [] := List.eq_nil_of_length_eq_zero hle.symm
      rw [this]; simp
    · have : k = 1 := eq_of_beq e
      rw [this]; simp
  | false =>
    have c1' := c1
    rw [Bool.or_eq_false_iff] at c1'
    have hne : xs ≠ [] := fun e => by
      rw [e] at hle
      have : its = [] := List.eq_nil_of_length_eq_zero hle
      rw [this] at c1'; cases c1'.1
    have hk1 : k ≠ 1 := fun e => by rw [e] at c1'; cases c1'.2
    have hk : k ≤ 0 := by
      have : ¬ 2 ≤ k := fun e => e1 ⟨hne, e⟩
      omega
    refine wpAny_binaryOp_repeat_ref (T := "tuple") (U := "int") (by decide) ⟨_, ho, rfl⟩ (fun s' => typeIs_int s' k t) noFill_tuple_mul F.fills_int_mul F.slot_int_rmul repeat_tuple F.slot_int_index.lookup
      (call_meets F.slot_int_rmul (typeIs_int s k t) F.entry_int_rmul (F.args_int_rmul_2 _ _) (int_rmul_tuple k t l its.toArray n dd sl)
        ⟨ho, rfl, ⟨_, ho, rfl⟩, call_meets F.slot_tuple_mul ⟨_, ho, rfl⟩ F.entry_tuple_mul (F.args_tuple_mul_2 _ _) (tuple_mulZ l its.toArray n dd sl k t c0 c1 (by rw [decide_eq_true hk]; rfl)) ⟨ho, ?_⟩⟩)
    have ek : k.toNat = 0 := by omega
    rw [ek] at q2
    refine ⟨.ref s.heap.objs.size, _, I.laid (t' := s.toks) (o := .tup (List.replicate 0 xs).flatten) (fun b ob q => Heap.get?_push_of_some _ q) (Nat.le_refl _) ?_, rfl, q2 _ (I.hok.fresh (Nat.le_refl _))⟩
    exact ⟨Nat.zero_le _, [], .nil, IsTup.new _ _⟩
theorem shownAll_map (n : Nat) : ∀ xs : List D, PyData.shownAll (xs.map (toPy n)) = xs.map fun x => (toPy n x).shown
  | [] => rfl
  | x :: xs => by
    show (toPy n x).shown :: PyData.shownAll (xs.map (toPy n)) = _
    rw [shownAll_map n xs]; rfl
theorem sum_le {f h : D → Nat} : ∀ xs : List D, (∀ x ∈ xs, f x ≤ h x) → (xs.map f).sum + 2 * xs.length ≤ (xs.map fun x => h x + 2).sum
  | [], _ => by simp
  | x :: xs, q => by
    have h1 := q x (by simp)
    have h2 := sum_le xs fun y hy => q y (by simp [hy])
    simp only [List.map_cons, List.sum_cons, List.length_cons]
    omega
theorem int_wt (i : Int) (h : i.natAbs.log2 < 1920) : (PyData.shown (.int i)).length ≤ (if i.natAbs < 10 ^ 18 then 20 else 2000) := by
  have e : (PyData.shown (.int i)).length = (toString i).length := by
    show (Str.ofString (toString i)).length = _
    rw [PySem.ofString_length]
  rw [e]
  split
  · rename_i q
    have := int_text_length_le10 (k := 18) (by decide) q
    omega
  · have := int_text_length_le (k := 1920) (by decide) h
    omega
theorem str_wt (s : Str) (h : PyData.strOk s = true) : (PyData.shown (.str s)).length ≤ 10 * s.length + 2 := by
  have e := StrLaws.reprText_len s (by
    intro c hc
    have := Array.all_eq_true'.mp h c (Array.mem_toList_iff.mp hc)
    have h2 : c < 0x110000 := of_decide_eq_true this
    omega)
  show (reprText s).length ≤ _
  omega
theorem wt_py : ∀ (n : Nat) (d : D), okR n d = true → showD n d = true → (toPy n d).shown.length ≤ wt n d
  | 0, .non, _, _ => by decide
  | 0, .bl b, _, _ => by cases b <;> decide
  | 0, .int i, _, q => int_wt i (by simpa [showD] using q)
  | 0, .str s, h, _ => str_wt s h
  | n + 1, .non, _, _ => show (PyData.shown .none).length ≤ 4 by decide
  | n + 1, .bl b, _, _ => show (PyData.shown (.bool b)).length ≤ 5 by cases b <;> decide
  | n + 1, .int i, _, q => int_wt i (by simpa [showD] using q)
  | n + 1, .str s, h, _ => str_wt s h
  | 0, .tup _, h, _ => by cases h
  | 0, .lst _, h, _ => by cases h
  | 0, .emp, h, _ => by cases h
  | 0, .ref _, h, _ => by cases h
  | 0, .fn _, h, _ => by cases h
  | 0, .scr _, h, _ => by cases h
  | 0, .err _ _, h, _ => by cases h
  | n + 1, .emp, _, _ => show (PyData.shown (.dict [])).length ≤ 2 by decide
  | n + 1, .ref _, h, _ => by cases h
  | n + 1, .fn _, h, _ => by cases h
  | n + 1, .scr _, h, _ => by cases h
  | n + 1, .err _ _, h, _ => by cases h
  | n + 1, .tup xs, h, q => by
    show (tupleText (PyData.shownAll (xs.map (toPy n)))).length ≤ 3 + (xs.map fun x => wt n x + 2).sum
    have h2 := tupleText_len_le (PyData.shownAll (xs.map (toPy n)))
    rw [shownAll_map] at h2 ⊢
    have h3 := sum_le (f := fun x => (toPy n x).shown.length) (h := wt n) xs fun x hx => wt_py n x (List.all_eq_true.mp h x hx) (List.all_eq_true.mp q x hx)
    rw [List.map_map, List.length_map] at h2
    have e : ((fun x => Str.length x) ∘ fun x => (toPy n x).shown) = fun x => (toPy n x).shown.length := rfl
    rw [e] at h2
    omega
  | n + 1, .lst xs, h, q => by
    show (listText (PyData.shownAll (xs.map (toPy n)))).length ≤ 3 + (xs.map fun x => wt n x + 2).sum
    have h2 := listText_len_le (PyData.shownAll (xs.map (toPy n)))
    rw [shownAll_map] at h2 ⊢
    have h3 := sum_le (f := fun x => (toPy n x).shown.length) (h := wt n) xs fun x hx => wt_py n x (List.all_eq_true.mp h x hx) (List.all_eq_true.mp q x hx)
    rw [List.map_map, List.length_map] at h2
    have e : ((fun x => Str.length x) ∘ fun x => (toPy n x).shown) = fun x => (toPy n x).shown.length := rfl
    rw [e] at h2
    omega
end MP

set_option Elab.async false
set_option linter.all false
set_option maxRecDepth 100000
namespace SrtO
open PySem PyProof.Rows Srt
/-- sorted(..) of a list or a tuple of pairs -/
theorem sortedS {prog : Program} {w : World} {A : Around} {E : Value → Shared → Prop} {s : Shared} {it : Addr} {T : String} {vs : List Value} {k : Value → Int × Int} {Q : Value → Shared → Prop} (hT : T = "list" ∨ T = "tuple")
    (ho : ∃ o n, s.heap.get? it = some o ∧ o.cls = .type T ∧ o.data = .seq vs.toArray n) (hz : vs.length ≤ sizeLine) (hp : ∀ v ∈ vs, Srt.IsPair s.heap v (k v).1 (k v).2)
    (h : ∀ (h' : Heap) (d : Addr) (out : List Value), Srtd (fun v u => lexB (k v) (k u)) out → Stb (fun v u => lexB (k v) (k u)) out vs → (∀ b o, s.heap.get? b = some o → h'.get? b = some o) → s.heap.get? d = none → (∃ n, h'.get? d = some (seqObj "list" out.toArray n)) → Q (.ref d) { s with heap := h' }) :
    wpAny (model prog w) A (call (.builtin "sorted") [.ref it]) Q E s := by
  obtain ⟨o, n, ho, hc, hd⟩ := ho
  refine Calls.call_function_entry kind_sorted plain_sorted entry_sorted (args_sorted1 _) ?_
  unfold Builtin.«sorted»
  refine wpAny_bind (m := checkCount "sorted" 1 1 _) (wpAny_pure ?_)
  refine wpAny_bind (wpAny_collect_seq it hT ho hc hd (fun h1 k1 => ?_) (by rw [List.size_toArray]; exact hz))
  refine wpAny_bind (wpAny_newList ?_ hz)
  have hoL : (h1.push (seqObj "list" vs.toArray 0)).get? h1.objs.size = some (seqObj "list" vs.toArray 0) := Heap.get?_push_size _ rfl
  have kk : ∀ b o, s.heap.get? b = some o → b ≠ h1.objs.size ∧ (h1.push (seqObj "list" vs.toArray 0)).get? b = some o := fun b o q => ⟨Nat.ne_of_lt (Heap.lt_size (k1 b o q)), Heap.get?_push_of_some _ (k1 b o q)⟩
  show wpAny _ _ _ _ _ { s with heap := h1.push (seqObj "list" vs.toArray 0) }
  refine wpAny_bind (wpAny_holding (wpAny_call_entry slot_list_sort ⟨_, hoL, rfl⟩ entry_list_sort (list_sort_ord (swo_lex k) hoL hz (fun h2 => ?_) fun out hs hb => ⟨_, rfl, ?_⟩) (args_list_sort _)))
  · refine pairs_sortableO (by omega) (fun v hm => (hp v hm).keeps fun b o e _ => (kk b o e).2) fun o' e => ?_
    have e' : some o' = some (seqObj "list" vs.toArray 0) := e.symm.trans hoL
    cases e'
    intro c
    exact absurd (Value.type.inj c) (by decide)
  · refine wpAny_pure ⟨_, rfl, h _ _ out hs hb (fun b o e => ?_) ?_ ?_⟩
    · rw [sortedHeap_old (kk b o e).1 (by rw [size_push']; exact Nat.lt_succ_of_lt (Heap.lt_size (k1 b o e)))]
      exact (kk b o e).2
    · cases e : s.heap.get? h1.objs.size with
      | none => rfl
      | some o' => exact absurd rfl (kk _ _ e).1
    · exact sortedHeap_at (n := 0) hoL
end SrtO

set_option Elab.async false
set_option linter.all false
set_option maxRecDepth 100000
namespace MP
open PySem PySem.Spec L2

/-- the context in which a body runs -/
structure Gd (g : Gb) (wx : WX) (k : Nat) (X : Cx) : Prop where
  hP : X.prog = g.P
  hw : X.w = g.w
  hK : X.K = g.K
  hmg : X.mg = g.mg
  hbase : X.base = g.base
  calm : X.calm = true
  nd : X.N.Nodup
  room : Room (3 * k) X.A
  guards : X.A.guards = some []
  takes : Takes X wx
  own : PassesOwn (model X.prog X.w) X.A X.env X.xe
  sm : ∃ o es n, g.K.lookup sysModules = some o ∧ o.data = .dict es n
section
variable {g : Gb} {b : Bs} {wx : WX} {k : Nat} {X : Cx} {F : Hp} {ρ : Rho} {σ : L2.St} {H : Hp} {fr : Fr} {st : Sto} {Q : VK} {x y : D} {v u : V}
theorem pfx (ρ : Rho) : ρ <+: ρ := List.prefix_refl _
/-- a plain answer -/
theorem Po.dat {d : D} {v : V} (p : Po g b wx WR (.ok (.dat d) st) F ρ σ fr Q) (A : Ab g b F ρ σ H fr st) (r : VR g F ρ d v) : Q v H := p F ρ H v (.refl _) (pfx _) A r
/-- a new tuple, a new list -/
theorem Po.tup {xs : List D} {vs : List V} (p : Po g b wx WR (.ok (.dat (.tup xs)) st) F ρ σ fr Q) (A : Ab g b F ρ σ H fr st) (r : VRs g F ρ xs vs) : ∀ q, H q = none → Q (.ref q) (upd H q (.tup vs)) := fun q hq => by
  obtain ⟨A', s⟩ := A.allocF (.tup vs) (nt_tup _) hq
  exact p _ ρ _ _ s (pfx _) A' (.tup (.inl (.inl upd_same)) (r.mono s (pfx _)))
theorem Po.lst {xs : List D} {vs : List V} (p : Po g b wx WR (.ok (.own xs) st) F ρ σ fr Q) (A : Ab g b F ρ σ H fr st) (r : VRs g F ρ xs vs) : ∀ q, H q = none → Q (.ref q) (upd H q (.lst vs)) := fun q hq =>
  p F ρ _ _ (.refl _) (pfx _) (A.alloc _ hq) (A.own hq r)
theorem Ab.sqT (A : Ab g b F ρ σ H fr st) {K : PySem.W.Frag} {a : Addr} {vs : List V} (h : SqT K F a vs) : SqT K H a vs := same_seqT A.sub h

def opOf : Bop → Operator
  | .add => .Add
  | .sub => .Sub
  | .mul => .Mult
  | .fdiv => .FloorDiv
  | .mod => .Mod
  | .pow => .Pow
theorem lt_log {n m : Nat} (h0 : 0 < m) (h : n < 2 ^ m) : n.log2 < m := PySem.Flt.log2_lt_of h0 h
theorem bin_ok (G : Gd g wx k X) (o : Bop) (A : Ab g b F ρ σ H fr st) (rv : VR g F ρ x v) (ru : VR g F ρ y u) (p : Po g b wx WR (opt (binD o x y) st) F ρ σ fr Q) : ∃ r, OpR X (binaryOp (opOf o)) r ∧ r v u H Q := by
  unfold binD at p
  split at p
  · cases rv; cases ru
    exact ⟨_, op_add, _, _, rfl, rfl, p.dat A (.int _)⟩
  · cases rv; cases ru
    split at p
    · exact ⟨_, op_add_str, _, _, rfl, rfl, by assumption, p.dat A (.str _)⟩
    · exact p.elim
  · rename_i xs ys
    obtain ⟨a, vs, rfl, a1, a2⟩ := rv.tupI
    obtain ⟨a', us, rfl, b1, b2⟩ := ru.tupI
    split at p
    · rename_i h
      refine ⟨_, op_catA, a, a', vs, us, rfl, rfl, ?_, ?_, by rw [← a2.length, ← b2.length]; exact h, fun e => ?_, fun e1 e2 => ?_, fun _ _ => ?_⟩
      · rw [G.hK]; exact A.sqT a1
      · rw [G.hK]; exact A.sqT b1
      · subst e
        have e0 : xs = [] := List.eq_nil_of_length_eq_zero a2.length
        subst e0
        exact p.dat A (.tup b1 b2)
      · subst e2
        have e0 : ys = [] := List.eq_nil_of_length_eq_zero b2.length
        subst e0
        exact p.dat A (.tup a1 (by rw [List.append_nil]; exact a2))
      · exact p.tup A (a2.append b2)
    · exact p.elim
  · obtain ⟨a, vs, rfl, a1, a2⟩ := rv.lstI
    obtain ⟨a', us, rfl, b1, b2⟩ := ru.lstI
    split at p
    · rename_i h
      exact ⟨_, op_cat, _, _, _, _, rfl, rfl, A.sub _ _ a1, A.sub _ _ b1, by rw [← a2.length, ← b2.length]; exact h, p.lst A (a2.append b2)⟩
    · exact p.elim
  · cases rv; cases ru
    exact ⟨_, op_sub, _, _, rfl, rfl, p.dat A (.int _)⟩
  · cases rv; cases ru
    split at p
    · rename_i h
      simp only [mulOk, Bool.and_eq_true, Bool.or_eq_true, decide_eq_true_eq] at h
      rcases h with (h | h) | h
      · exact ⟨_, op_mul, _, _, rfl, rfl, .inl ⟨by omega, by omega⟩, p.dat A (.int _)⟩
      · exact ⟨_, op_mul, _, _, rfl, rfl, .inr ⟨by omega, by omega⟩, p.dat A (.int _)⟩
      · refine ⟨_, op_mulW, _, _, rfl, rfl, ?_, p.dat A (.int _)⟩
        exact wide_mul (a := big) (b := big) h.1 h.2 (by decide) (by decide) (by decide)
    · exact p.elim
  · obtain ⟨a, vs, rfl, a1, a2⟩ := rv.lstI
    cases ru
    split at p
    · rename_i h
      simp only [Bool.and_eq_true, decide_eq_true_eq] at h
      exact ⟨_, op_rep, _, _, _, rfl, rfl, A.sub _ _ a1, h.1.1, h.1.2, by rw [← a2.length]; exact h.2, p.lst A (a2.rep _)⟩
    · exact p.elim
  · rename_i xs j
    obtain ⟨a, vs, rfl, a1, a2⟩ := rv.tupI
    have e1 := ru.intI
    subst e1
    split at p
    · rename_i h
      simp only [Bool.and_eq_true, decide_eq_true_eq] at h
      refine ⟨_, op_repAny, a, j, vs, rfl, rfl, by rw [G.hK]; exact A.sqT a1, h.1.1, h.1.2, by rw [← a2.length]; exact h.2, fun e => ?_, p.tup A (a2.rep _)⟩
      have r := a2.rep j.toNat
      rw [e] at r
      exact p.dat A (.tup a1 r)
    · exact p.elim
  · cases rv; cases ru
    split at p
    · rename_i h
      simp only [divOk, Bool.and_eq_true, decide_eq_true_eq] at h
      exact ⟨_, op_fdivW, _, _, rfl, rfl, wide_div h.1 h.2 (by decide) (by decide), p.dat A (.int _)⟩
    · exact p.elim
  · cases rv; cases ru
    split at p
    · rename_i h
      exact ⟨_, op_mod, _, _, rfl, rfl, of_decide_eq_true h, p.dat A (.int _)⟩
    · exact p.elim
  · cases rv; cases ru
    split at p
    · rename_i h
      simp only [Bool.and_eq_true, decide_eq_true_eq] at h
      exact ⟨_, op_pow, _, _, rfl, rfl, ⟨h.1.1, by omega, h.2⟩, p.dat A (.int _)⟩
    · exact p.elim
  · exact p.elim

/-! ### comparisons -/
def cpOf : Cop → CmpOp
  | .eq => .Eq
  | .ne => .NotEq
  | .lt => .Lt
  | .le => .LtE
  | .gt => .Gt
  | .ge => .GtE
  | .inn => .In
  | .nin => .NotIn
  | .is => .Is
  | .isnot => .IsNot
theorem all_map {α β : Type} {f : α → β} {p : β → Bool} (l : List α) : (l.map f).all p = l.all fun x => p (f x) := by
  induction l with
  | nil => rfl
  | cons a r ih => simp [ih]
theorem canLay_all : ∀ ds : List PyData, PyData.canLayAll0 ds = ds.all PyData.canLay0
  | [] => rfl
  | d :: ds => by
    show (PyData.canLay0 d && PyData.canLayAll0 ds) = _
    rw [canLay_all ds]; rfl
theorem ok_lay : ∀ (n : Nat) (d : D), okD n d = true → (toPy n d).canLay0 = true
  | n, .non, _ => by cases n <;> rfl
  | n, .bl _, _ => by cases n <;> rfl
  | n, .int _, _ => by cases n <;> rfl
  | n, .str s, h => by cases n <;> exact h
  | 0, .tup _, h => by cases h
  | 0, .lst _, h => by cases h
  | 0, .emp, h => by cases h
  | 0, .ref _, h => by cases h
  | 0, .fn _, h => by cases h
  | 0, .scr _, h => by cases h
  | 0, .err _ _, h => by cases h
  | n + 1, .emp, h => by cases h
  | n + 1, .ref _, h => by cases h
  | n + 1, .fn _, h => by cases h
  | n + 1, .scr _, h => by cases h
  | n + 1, .err _ _, h => by cases h
  | n + 1, .tup xs, h => by
    show PyData.canLayAll0 (xs.map (toPy n)) = true
    rw [canLay_all, all_map]
    exact List.all_eq_true.mpr fun x hx => ok_lay n x (List.all_eq_true.mp h x hx)
  | n + 1, .lst xs, h => by
    show PyData.canLayAll0 (xs.map (toPy n)) = true
    rw [canLay_all, all_map]
    exact List.all_eq_true.mpr fun x hx => ok_lay n x (List.all_eq_true.mp h x hx)
theorem depth_all : ∀ (n : Nat) (ds : List PyData), (∀ d ∈ ds, d.depth ≤ n) → PyData.depthAll ds ≤ n
  | n, [], _ => by simp [PyData.depthAll]
  | n, d :: ds, h => by
    have h1 := h d List.mem_cons_self
    have h2 := depth_all n ds fun x hx => h x (List.mem_cons_of_mem _ hx)
    simp only [PyData.depthAll]
    omega
theorem ok_depth : ∀ (n : Nat) (d : D), (toPy n d).depth ≤ n + 1
  | n, .non => by cases n <;> simp [toPy, PyData.depth]
  | n, .bl _ => by cases n <;> simp [toPy, PyData.depth]
  | n, .int _ => by cases n <;> simp [toPy, PyData.depth]
  | n, .str s => by cases n <;> simp [toPy, PyData.depth]
  | 0, .tup _ => by simp [toPy, PyData.depth]
  | 0, .lst _ => by simp [toPy, PyData.depth]
  | 0, .emp => by simp [toPy, PyData.depth]
  | 0, .ref _ => by simp [toPy, PyData.depth]
  | 0, .fn _ => by simp [toPy, PyData.depth]
  | 0, .scr _ => by simp [toPy, PyData.depth]
  | 0, .err _ _ => by simp [toPy, PyData.depth]
  | n + 1, .emp => by simp [toPy, PyData.depth, PyData.depthKv]
  | n + 1, .ref _ => by simp [toPy, PyData.depth]
  | n + 1, .fn _ => by simp [toPy, PyData.depth]
  | n + 1, .scr _ => by simp [toPy, PyData.depth]
  | n + 1, .err _ _ => by simp [toPy, PyData.depth]
  | n + 1, .tup xs => by
    have := depth_all (n + 1) (xs.map (toPy n)) fun d hd => by
      obtain ⟨x, _, rfl⟩ := List.mem_map.mp hd
      exact ok_depth n x
    simp only [toPy, PyData.depth]
    omega
  | n + 1, .lst xs => by
    have := depth_all (n + 1) (xs.map (toPy n)) fun d hd => by
      obtain ⟨x, _, rfl⟩ := List.mem_map.mp hd
      exact ok_depth n x
    simp only [toPy, PyData.depth]
    omega
theorem ok_shaped {d : D} (h : okD 60 d = true) : SeqAt.shaped (toPy 60 d) = true := by
  unfold SeqAt.shaped
  rw [ok_lay 60 d h, Bool.true_and]
  exact decide_eq_true (Nat.le_trans (ok_depth 60 d) (by decide))
mutual
theorem VR.dp {K : PySem.W.Frag} (hK : K = g.K) (hs : Same F H) : ∀ (n : Nat) (d : D) (v : V), okD n d = true → VR g F ρ d v → Dp K H v (toPy n d)
  | n, .non, _, _, h => by cases h; cases n <;> exact .non
  | n, .bl b, _, _, h => by cases h; cases n <;> exact .bl b
  | n, .int i, _, _, h => by cases h; cases n <;> exact .int i
  | n, .str s, _, _, h => by cases h; cases n <;> exact .str s
  | 0, .tup _, _, h, _ => by cases h
  | 0, .lst _, _, h, _ => by cases h
  | 0, .emp, _, h, _ => by cases h
  | 0, .ref _, _, h, _ => by cases h
  | 0, .fn _, _, h, _ => by cases h
  | 0, .scr _, _, h, _ => by cases h
  | 0, .err _ _, _, h, _ => by cases h
  | n + 1, .emp, _, h, _ => by cases h
  | n + 1, .ref _, _, h, _ => by cases h
  | n + 1, .fn _, _, h, _ => by cases h
  | n + 1, .scr _, _, h, _ => by cases h
  | n + 1, .err _ _, _, h, _ => by cases h
  | n + 1, .tup xs, _, h, r => by
    obtain ⟨a, vs, rfl, r1, r2⟩ := r.tupI
    refine .tup ?_ (VR.dps hK hs n xs vs h r2)
    rw [hK]
    exact same_seqT hs r1
  | n + 1, .lst xs, _, h, r => by
    obtain ⟨a, vs, rfl, r1, r2⟩ := r.lstI
    exact .lst (.inl (.inl (hs _ _ r1))) (VR.dps hK hs n xs vs h r2)
theorem VR.dps {K : PySem.W.Frag} (hK : K = g.K) (hs : Same F H) : ∀ (n : Nat) (ds : List D) (vs : List V), ds.all (okD n) = true → VRs g F ρ ds vs → DpAll K H vs (ds.map (toPy n))
  | n, [], _, _, h => by cases h; exact .nil
  | n, d :: ds, _, o, h => by
    simp only [List.all_cons, Bool.and_eq_true] at o
    cases h with
    | cons a b => exact .cons (VR.dp hK hs n d _ o.1 a) (VR.dps hK hs n ds _ o.2 b)
end
section
variable {pins : List (Addr × Obj)} {s : Shared}
mutual
theorem VR.reads (I : Inv X pins σ H s) (hK : X.K = g.K) (hs : Same F H) (hm : ∃ o es n, g.K.lookup sysModules = some o ∧ o.data = .dict es n) : ∀ (n : Nat) (d : D) (v : V) (u : Value), okR n d = true → VR g F ρ d v → RelV v u → ∃ as, Reads s.heap u (toPy n d) as ∧ sysModules ∉ as
  | n, .non, _, _, _, h, r => by cases h; cases r; exact ⟨[], by cases n <;> exact .none, by simp⟩
  | n, .bl b, _, _, _, h, r => by cases h; cases r; exact ⟨[], by cases n <;> exact .bool b, by simp⟩
  | n, .int i, _, _, _, h, r => by cases h; obtain ⟨t, rfl⟩ := r; exact ⟨[], by cases n <;> exact .int i t, by simp⟩
  | n, .str x, _, _, _, h, r => by cases h; obtain ⟨t, rfl⟩ := r; exact ⟨[], by cases n <;> exact .str x t, by simp⟩
  | 0, .tup _, _, _, h, _, _ => by cases h
  | 0, .lst _, _, _, h, _, _ => by cases h
  | 0, .emp, _, _, h, _, _ => by cases h
  | 0, .ref _, _, _, h, _, _ => by cases h
  | 0, .fn _, _, _, h, _, _ => by cases h
  | 0, .scr _, _, _, h, _, _ => by cases h
  | 0, .err _ _, _, _, h, _, _ => by cases h
  | n + 1, .ref _, _, _, h, _, _ => by cases h
  | n + 1, .fn _, _, _, h, _, _ => by cases h
  | n + 1, .scr _, _, _, h, _, _ => by cases h
  | n + 1, .err _ _, _, _, h, _, _ => by cases h
  | n + 1, .emp, _, _, _, h, r => by
    obtain ⟨a, rfl, h1⟩ := h.empI
    cases r
    obtain ⟨_, hne, vs, kv, dd⟩ := dk_of I.hok (hs _ _ h1)
    cases kv
    obtain ⟨o, es, ep, e1, e2, e3, e4, e5, _⟩ := dd
    have e6 : es.toList = [] := List.eq_nil_of_length_eq_zero e5.length
    refine ⟨[a] ++ [], Reads.dict (kvs := []) (as := []) (bs := []) e1 e2.1 e3 (by rw [e6]; exact .nil) (by rw [e6]; exact .nil), fun z => ?_⟩
    simp at z
    rw [z] at hne
    simp at hne
  | n + 1, .tup xs, _, _, h, rv, r => by
    obtain ⟨a, vs, rfl, r1, r2⟩ := rv.tupI
    cases r
    obtain ⟨its, ri, ⟨o, ho, hc, m, hd⟩, _⟩ := I.tuple (by rw [hK]; exact same_seqT hs r1)
    obtain ⟨as, hr, hn⟩ := VR.readsAll I hK hs hm n xs vs its h r2 ri
    exact ⟨as, Reads.tuple ho hc hd hr, hn⟩
  | n + 1, .lst xs, _, _, h, rv, r => by
    obtain ⟨a, vs, rfl, r1, r2⟩ := rv.lstI
    cases r
    obtain ⟨its, ri, ⟨o, m, ho, hc, _, hd⟩, _⟩ := I.list (show SqL X.K H a vs from .inl (.inl (hs _ _ r1)))
    obtain ⟨as, hr, hn⟩ := VR.readsAll I hK hs hm n xs vs its h r2 ri
    refine ⟨a :: as, Reads.list ho hc hd hr, fun z => ?_⟩
    rcases List.mem_cons.mp z with z | z
    · obtain ⟨o', es, n', q1, q2⟩ := hm
      have e := I.kIn sysModules o' (by rw [hK]; exact q1)
      rw [z, ho] at e
      cases e
      rw [hd] at q2
      cases q2
    · exact hn z
theorem VR.readsAll (I : Inv X pins σ H s) (hK : X.K = g.K) (hs : Same F H) (hm : ∃ o es n, g.K.lookup sysModules = some o ∧ o.data = .dict es n) : ∀ (n : Nat) (ds : List D) (vs : List V) (us : List Value), ds.all (okR n) = true → VRs g F ρ ds vs → Vals vs us → ∃ as, ReadsAll s.heap us (ds.map (toPy n)) as ∧ sysModules ∉ as
  | n, [], _, _, _, h, r => by cases h; cases r; exact ⟨[], .nil, by simp⟩
  | n, d :: ds, _, _, o, h, r => by
    simp only [List.all_cons, Bool.and_eq_true] at o
    cases h with
    | cons a b =>
      cases r with
      | cons r1 r2 =>
        obtain ⟨as, q1, n1⟩ := VR.reads I hK hs hm n d _ _ o.1 a r1
        obtain ⟨bs, q2, n2⟩ := VR.readsAll I hK hs hm n ds _ _ o.2 b r2
        exact ⟨_, ReadsAll.cons q1 q2, fun z => (List.mem_append.mp z).elim n1 n2⟩
end
end
theorem op_eqT0 (hu : X.A.units < cLine) : OpR X (compareOp .Eq) (fun x y H Q => ∃ (a c : Addr) (xs : List V), x = .ref a ∧ y = .ref c ∧ SqT X.K H a xs ∧ SqT X.K H c [] ∧ Q (.bl xs.isEmpty) H) := by
  intro pins s σ H x y v u Q I rx ry h
  obtain ⟨a, c, xs, rfl, rfl, h1, h2, q⟩ := h
  cases rx
  cases ry
  obtain ⟨its, r1, t1, _⟩ := I.tuple h1
  obtain ⟨its2, r2, t2, _⟩ := I.tuple h2
  cases r2
  refine SeqAt.eq_tupleAt (e := fun _ => true) t1 t2 hu (fun j _ h2 => absurd h2 (by simp)) ⟨.bl xs.isEmpty, H, I, ?_, q⟩
  have hl := r1.length
  cases xs with
  | nil =>
    have : its = [] := List.eq_nil_of_length_eq_zero hl.symm
    subst this
    rfl
  | cons x xr =>
    cases its with
    | nil => simp at hl
    | cons i ir => simp; rfl
theorem flat_of {d : D} {v : V} (h : VR g F ρ d v) (s : scalar d = true) : flatV v = true := by
  cases d <;> first | (cases s; done) | (cases h; rfl)
theorem flats_of : ∀ {ds : List D} {vs : List V}, VRs g F ρ ds vs → ds.all scalar = true → vs.all flatV = true
  | [], _, h, _ => by cases h; rfl
  | d :: ds, _, h, s => by
    simp only [List.all_cons, Bool.and_eq_true] at s
    cases h with
    | cons a b => simp only [List.all_cons, Bool.and_eq_true]; exact ⟨flat_of a s.1, flats_of b s.2⟩
theorem eqV_of {d e : D} {v u : V} (h : VR g F ρ d v) (h' : VR g F ρ e u) (s : scalar d = true) (s' : scalar e = true) : eqV v u = eqD d e := by
  cases d <;> first | (cases s; done) | (cases e <;> first | (cases s'; done) | (cases h; cases h'; simp [eqV, eqD, toPy, PyData.eqv]))
theorem inV_of {d : D} {v : V} (h : VR g F ρ d v) (s : scalar d = true) : ∀ {ds : List D} {vs : List V}, VRs g F ρ ds vs → ds.all scalar = true → inV v vs = inD d ds
  | [], _, r, _ => by cases r; rfl
  | e :: ds, _, r, q => by
    simp only [List.all_cons, Bool.and_eq_true] at q
    cases r with
    | cons a b =>
      have ih := inV_of h s b q.2
      unfold inV inD at *
      rw [List.any_cons, List.any_cons, ih, eqV_of a h q.1 s]
theorem cmp_ok (G : Gd g wx k X) (o : Cop) (A : Ab g b F ρ σ H fr st) (rv : VR g F ρ x v) (ru : VR g F ρ y u) {c : Bool} (e : cmpD o x y = some c) {Q : VK} (q : Q (.bl c) H) : ∃ r, OpR X (compareOp (cpOf o)) r ∧ r v u H Q := by
  unfold cmpD at e
  split at e
  · cases e; cases rv; cases ru
    exact ⟨_, op_lt, _, _, rfl, rfl, q⟩
  · cases e; cases rv; cases ru
    exact ⟨_, op_le, _, _, rfl, rfl, q⟩
  · cases e; cases rv; cases ru
    exact ⟨_, op_gt, _, _, rfl, rfl, q⟩
  · cases e; cases rv; cases ru
    exact ⟨_, op_ge, _, _, rfl, rfl, q⟩
  · rename_i x y
    cases e; cases rv; cases ru
    refine ⟨_, op_eq, rfl, ?_⟩
    rw [show decide (V.str x = V.str y) = decide (x = y) by by_cases h : x = y <;> simp [h]]
    exact q
  · rename_i x y
    cases e; cases rv; cases ru
    refine ⟨_, op_ne, rfl, ?_⟩
    rw [show decide (V.str x = V.str y) = decide (x = y) by by_cases h : x = y <;> simp [h]]
    exact q
  · rename_i xs
    cases e
    obtain ⟨a, vs, rfl, a1, a2⟩ := rv.tupI
    obtain ⟨a', us, rfl, b1, b2⟩ := ru.tupI
    cases b2
    refine ⟨_, op_eqT0 (by have := G.room.units; omega), a, a', vs, rfl, rfl, by rw [G.hK]; exact A.sqT a1, by rw [G.hK]; exact A.sqT b1, ?_⟩
    have hl := a2.length
    cases xs <;> cases vs <;> first | exact q | simp at hl
  · split at e
    · rename_i h
      simp only [Bool.and_eq_true] at h
      cases e
      exact ⟨_, op_eqD G.room.units, _, _, VR.dp G.hK A.sub 60 _ _ h.1 rv, VR.dp G.hK A.sub 60 _ _ h.2 ru, ok_shaped h.1, ok_shaped h.2, q⟩
    · cases e
  · split at e
    · rename_i h
      simp only [Bool.and_eq_true] at h
      cases e
      exact ⟨_, op_neD G.room.units, _, _, VR.dp G.hK A.sub 60 _ _ h.1 rv, VR.dp G.hK A.sub 60 _ _ h.2 ru, ok_shaped h.1, ok_shaped h.2, q⟩
    · cases e
  · have e2 := ru.nonI
    subst e2
    refine ⟨_, op_isN, rfl, ?_⟩
    split at e
    · cases e
      have e3 := rv.nonI
      subst e3
      exact q
    · cases e
      rename_i hn
      rw [decide_eq_false (fun z => by subst z; cases rv; exact hn rfl)]
      exact q
  · have e2 := ru.nonI
    subst e2
    refine ⟨_, op_notN, rfl, ?_⟩
    split at e
    · cases e
      have e3 := rv.nonI
      subst e3
      exact q
    · cases e
      rename_i hn
      rw [decide_eq_false (fun z => by subst z; cases rv; exact hn rfl)]
      exact q
  · cases e; cases rv; cases ru
    exact ⟨_, op_isBl, _, _, rfl, rfl, q⟩
  · cases e; cases rv; cases ru
    exact ⟨_, op_notBl, _, _, rfl, rfl, q⟩
  · split at e
    · rename_i h
      simp only [Bool.and_eq_true] at h
      cases e
      obtain ⟨a, vs, rfl, a1, a2⟩ := ru.tupI
      refine ⟨_, op_in_seq, a, vs, rfl, .inr (by rw [G.hK]; exact A.sqT a1), flat_of rv h.1, flats_of a2 h.2, ?_⟩
      rw [if_neg Bool.false_ne_true, inV_of rv h.1 a2 h.2]
      exact q
    · cases e
  · split at e
    · rename_i h
      simp only [Bool.and_eq_true] at h
      cases e
      obtain ⟨a, vs, rfl, a1, a2⟩ := ru.lstI
      refine ⟨_, op_in_seq, a, vs, rfl, .inl (.inl (.inl (A.sub _ _ a1))), flat_of rv h.1, flats_of a2 h.2, ?_⟩
      rw [if_neg Bool.false_ne_true, inV_of rv h.1 a2 h.2]
      exact q
    · cases e
  · split at e
    · rename_i h
      simp only [Bool.and_eq_true] at h
      cases e
      obtain ⟨a, vs, rfl, a1, a2⟩ := ru.tupI
      refine ⟨_, op_notIn_seq, a, vs, rfl, .inr (by rw [G.hK]; exact A.sqT a1), flat_of rv h.1, flats_of a2 h.2, ?_⟩
      rw [if_pos rfl, inV_of rv h.1 a2 h.2]
      exact q
    · cases e
  · split at e
    · rename_i h
      simp only [Bool.and_eq_true] at h
      cases e
      obtain ⟨a, vs, rfl, a1, a2⟩ := ru.lstI
      refine ⟨_, op_notIn_seq, a, vs, rfl, .inl (.inl (.inl (A.sub _ _ a1))), flat_of rv h.1, flats_of a2 h.2, ?_⟩
      rw [if_pos rfl, inV_of rv h.1 a2 h.2]
      exact q
    · cases e
  · cases e

/-! ### parts of sequences -/
theorem ixD_eq (n : Nat) (i : Int) : ixD n i = ixN n i := rfl
theorem atD_ok {ds : List D} {vs : List V} (r : VRs g F ρ ds vs) {i : Int} {d : D} (e : atD ds i = some d) : ∃ v, L2.atI vs i = some v ∧ VR g F ρ d v := by
  unfold atD at e
  unfold L2.atI
  rw [← r.length, ← ixD_eq]
  cases q : ixD ds.length i with
  | none => rw [q] at e; cases e
  | some j =>
    rw [q] at e
    exact r.get e
theorem sIx_eq (n d : Nat) (o : Option Int) : sIxD n d o = HT.sIx n d o := by
  cases o with
  | none => exact (HT.sIx_none n d).symm
  | some i =>
    show (if 0 ≤ i then min i.toNat n else (i + n).toNat) = if i < 0 then (i + (n : Int)).toNat else min i.toNat n
    by_cases h : 0 ≤ i
    · rw [if_pos h, if_neg (by omega)]
    · rw [if_neg h, if_pos (by omega)]
theorem cut_ok {ds : List D} {vs : List V} (r : VRs g F ρ ds vs) (lo hi : Option Int) : VRs g F ρ (cutD ds lo hi) (cutV vs lo hi) := by
  unfold cutD cutV
  rw [sIx_eq, sIx_eq, r.length]
  exact (r.drop _).take _
theorem idx_ok (G : Gd g wx k X) (A : Ab g b F ρ σ H fr st) {xs : List D} {i : Int} (hx : items x = some xs) (rv : VR g F ρ x v) {d : D} (e : atD xs i = some d) (q : ∀ v, VR g F ρ d v → Q v H) :
    ∃ r, IxR X r ∧ r v (.int i) H Q := by
  cases x <;> simp only [items] at hx <;> first | (cases hx; done) | skip
  · cases hx
    obtain ⟨a, vs, rfl, a1, a2⟩ := rv.tupI
    obtain ⟨z, e1, e2⟩ := atD_ok a2 e
    exact ⟨_, ix_tup, a, vs, i, z, rfl, rfl, by rw [G.hK]; exact A.sqT a1, e1, q z e2⟩
  · cases hx
    obtain ⟨a, vs, rfl, a1, a2⟩ := rv.lstI
    obtain ⟨z, e1, e2⟩ := atD_ok a2 e
    exact ⟨_, ix_list, a, vs, i, z, rfl, rfl, .inl (.inl (A.sub _ _ a1)), e1, q z e2⟩
  · cases hx
    obtain ⟨a, rfl, a1⟩ := rv.scrI
    obtain ⟨z, e1, e2⟩ := atD_ok (VRs.of_ints _) e
    exact ⟨_, ix_list, a, _, i, z, rfl, rfl, by rw [G.hK]; exact A.sub.seq a1, e1, q z e2⟩
theorem slc_ok (G : Gd g wx k X) (A : Ab g b F ρ σ H fr st) (rv : VR g F ρ x v) (l h : Option Int)
    (p : Po g b wx WR (opt (slcD x l h) st) F ρ σ fr Q) : ∃ r, SlR X r ∧ r v l h H Q := by
  cases x <;> first | exact p.elim | skip
  · rename_i xs
    obtain ⟨a, vs, rfl, a1, a2⟩ := rv.tupI
    refine ⟨_, sl_tupA, a, vs, rfl, by rw [G.hK]; exact A.sqT a1, fun e => ?_, fun _ => p.tup A (cut_ok a2 _ _)⟩
    have e2 : cutV vs l h = vs := by
      unfold cutV
      rw [e.1, e.2, Nat.sub_zero, List.drop_zero, List.take_length]
    have r := cut_ok a2 l h
    rw [e2] at r
    exact p.dat A (.tup a1 r)
  · obtain ⟨a, vs, rfl, a1, a2⟩ := rv.lstI
    exact ⟨_, sl_list, a, vs, rfl, .inl (.inl (A.sub _ _ a1)), p.lst A (cut_ok a2 _ _)⟩

/-! ### built-in functions -/
def b1N : B1 → Str
  | .len => "len"
  | .sum => "sum"
  | .all => "all"
  | .any => "any"
  | .list => "list"
  | .tuple => "tuple"
  | .sorted => "sorted"
  | .int => "int"
  | .abs => "abs"
  | .min => "min"
  | .max => "max"
  | .repr => "repr"
  | .str => "str"
  | .tupZ => "tuple"
def b1V : B1 → Value
  | .len => .builtin "len"
  | .sum => .builtin "sum"
  | .all => .builtin "all"
  | .any => .builtin "any"
  | .list => .type "list"
  | .tuple => .type "tuple"
  | .sorted => .builtin "sorted"
  | .int => .type "int"
  | .abs => .builtin "abs"
  | .min => .builtin "min"
  | .max => .builtin "max"
  | .repr => .builtin "repr"
  | .str => .type "str"
  | .tupZ => .type "tuple"
theorem b1_boot (f : B1) : bootBuiltins (b1N f) = some (b1V f) := by cases f <;> decide +kernel
theorem mx_max : ∀ (r : List Int) (a : Int), (mx a r ∈ a :: r) ∧ ∀ y ∈ a :: r, y ≤ mx a r
  | [], a => ⟨by simp [mx], fun y hy => by simp at hy; subst hy; exact Int.le_refl _⟩
  | x :: r, a => by
    have e : mx a (x :: r) = mx (if a < x then x else a) r := rfl
    obtain ⟨h1, h2⟩ := mx_max r (if a < x then x else a)
    rw [e]
    have h3 := h2 _ List.mem_cons_self
    have k1 : a ≤ (if a < x then x else a) := by split <;> omega
    have k2 : x ≤ (if a < x then x else a) := by split <;> omega
    refine ⟨?_, fun y hy => ?_⟩
    · rcases List.mem_cons.mp h1 with z | z
      · rw [z]; split <;> simp
      · exact List.mem_cons_of_mem _ (List.mem_cons_of_mem _ z)
    · rcases List.mem_cons.mp hy with z | z
      · subst z; exact Int.le_trans k1 h3
      · rcases List.mem_cons.mp z with z | z
        · subst z; exact Int.le_trans k2 h3
        · exact h2 y (List.mem_cons_of_mem _ z)
theorem mn_min : ∀ (r : List Int) (a : Int), (mn a r ∈ a :: r) ∧ ∀ y ∈ a :: r, mn a r ≤ y
  | [], a => ⟨by simp [mn], fun y hy => by simp at hy; subst hy; exact Int.le_refl _⟩
  | x :: r, a => by
    have e : mn a (x :: r) = mn (if x < a then x else a) r := rfl
    obtain ⟨h1, h2⟩ := mn_min r (if x < a then x else a)
    rw [e]
    have h3 := h2 _ List.mem_cons_self
    have k1 : (if x < a then x else a) ≤ a := by split <;> omega
    have k2 : (if x < a then x else a) ≤ x := by split <;> omega
    refine ⟨?_, fun y hy => ?_⟩
    · rcases List.mem_cons.mp h1 with z | z
      · rw [z]; split <;> simp
      · exact List.mem_cons_of_mem _ (List.mem_cons_of_mem _ z)
    · rcases List.mem_cons.mp hy with z | z
      · subst z; exact Int.le_trans h3 k1
      · rcases List.mem_cons.mp z with z | z
        · subst z; exact Int.le_trans h3 k2
        · exact h2 y (List.mem_cons_of_mem _ z)
theorem insI_perm (i : Int) : ∀ l : List Int, (insI i l).Perm (i :: l)
  | [] => .refl _
  | j :: r => by
    unfold insI
    split
    · exact .refl _
    · exact (List.Perm.cons j (insI_perm i r)).trans (List.Perm.swap i j r)
theorem insI_sorted (i : Int) : ∀ l : List Int, l.Pairwise (· ≤ ·) → (insI i l).Pairwise (· ≤ ·)
  | [], _ => by simp [insI]
  | j :: r, h => by
    unfold insI
    split
    · rename_i hij
      refine List.pairwise_cons.mpr ⟨fun y hy => ?_, h⟩
      rcases List.mem_cons.mp hy with z | z
      · subst z; exact hij
      · exact Int.le_trans hij ((List.pairwise_cons.mp h).1 y z)
    · rename_i hij
      refine List.pairwise_cons.mpr ⟨fun y hy => ?_, insI_sorted i r (List.pairwise_cons.mp h).2⟩
      rcases List.mem_cons.mp ((insI_perm i r).mem_iff.mp hy) with z | z
      · subst z; omega
      · exact (List.pairwise_cons.mp h).1 y z
theorem sortI_perm : ∀ l : List Int, (sortI l).Perm l
  | [] => .refl _
  | i :: r => (insI_perm i _).trans (List.Perm.cons i (sortI_perm r))
theorem sortI_sorted : ∀ l : List Int, (sortI l).Pairwise (· ≤ ·)
  | [] => .nil
  | i :: r => insI_sorted i _ (sortI_sorted r)
theorem sorted_one : ∀ {a b : List Int}, a.Perm b → a.Pairwise (· ≤ ·) → b.Pairwise (· ≤ ·) → a = b
  | [], b, p, _, _ => (List.nil_perm.mp p).symm
  | x :: a, [], p, _, _ => by have := p.length_eq; simp at this
  | x :: a, y :: b, p, ha, hb => by
    have h1 : x ≤ y := by
      rcases List.mem_cons.mp (p.mem_iff.mpr List.mem_cons_self) with z | z
      · omega
      · exact (List.pairwise_cons.mp ha).1 y z
    have h2 : y ≤ x := by
      rcases List.mem_cons.mp (p.mem_iff.mp List.mem_cons_self) with z | z
      · omega
      · exact (List.pairwise_cons.mp hb).1 x z
    have e : x = y := by omega
    subst e
    rw [sorted_one (List.Perm.cons_inv p) (List.pairwise_cons.mp ha).2 (List.pairwise_cons.mp hb).2]
/-! ### sorted pairs -/
theorem insP_perm (p : Int × Int) : ∀ l, (insP p l).Perm (p :: l)
  | [] => .refl _
  | q :: r => by
    unfold insP
    split
    · exact (List.Perm.cons q (insP_perm p r)).trans (List.Perm.swap p q r)
    · exact .refl _
theorem sortP_perm : ∀ l : List (Int × Int), (sortP l).Perm l
  | [] => .refl _
  | p :: r => (insP_perm p _).trans (List.Perm.cons p (sortP_perm r))
theorem lt2_iff {p q : Int × Int} : ltP2 p q = true ↔ p.1 < q.1 ∨ (p.1 = q.1 ∧ p.2 < q.2) := SrtO.lexB_iff
theorem lt2_no {p q : Int × Int} : ltP2 p q = false ↔ ¬ (p.1 < q.1 ∨ (p.1 = q.1 ∧ p.2 < q.2)) := SrtO.lexB_no
abbrev SrP (l : List (Int × Int)) : Prop := l.Pairwise fun a b => ltP2 b a = false
theorem insP_sorted (p : Int × Int) : ∀ l, SrP l → SrP (insP p l)
  | [], _ => by simp [insP]
  | q :: r, h => by
    unfold insP
    split
    · rename_i hq
      refine List.pairwise_cons.mpr ⟨fun y hy => ?_, insP_sorted p r (List.pairwise_cons.mp h).2⟩
      rcases List.mem_cons.mp ((insP_perm p r).mem_iff.mp hy) with z | z
      · subst z
        have := lt2_iff.mp hq
        exact lt2_no.mpr (by omega)
      · exact (List.pairwise_cons.mp h).1 y z
    · rename_i hq
      have hq : ltP2 q p = false := by simpa using hq
      refine List.pairwise_cons.mpr ⟨fun y hy => ?_, h⟩
      rcases List.mem_cons.mp hy with z | z
      · subst z; exact hq
      · have h1 := lt2_no.mp ((List.pairwise_cons.mp h).1 y z)
        have h2 := lt2_no.mp hq
        exact lt2_no.mpr (by omega)
theorem sortP_sorted : ∀ l, SrP (sortP l)
  | [] => .nil
  | p :: r => insP_sorted p _ (sortP_sorted r)
theorem sortedP_one : ∀ {a b : List (Int × Int)}, a.Perm b → SrP a → SrP b → a = b
  | [], b, p, _, _ => (List.Perm.eq_nil p.symm).symm
  | x :: l, [], p, _, _ => absurd p.length_eq (by simp)
  | x :: l, y :: m, p, ha, hb => by
    have h1 : ltP2 y x = false ∨ x = y := by
      rcases List.mem_cons.mp (p.mem_iff.mpr (List.mem_cons_self (a := y) (l := m))) with e | h
      · exact .inr e.symm
      · exact .inl ((List.pairwise_cons.mp ha).1 y h)
    have h2 : ltP2 x y = false ∨ x = y := by
      rcases List.mem_cons.mp (p.mem_iff.mp (List.mem_cons_self (a := x) (l := l))) with e | h
      · exact .inr e
      · exact .inl ((List.pairwise_cons.mp hb).1 x h)
    have e : x = y := by
      rcases h1 with h1 | h1
      · rcases h2 with h2 | h2
        · have q1 := lt2_no.mp h1
          have q2 := lt2_no.mp h2
          exact Prod.ext (by omega) (by omega)
        · exact h2
      · exact h1
    subst e
    rw [sortedP_one (List.Perm.cons_inv p) (List.pairwise_cons.mp ha).2 (List.pairwise_cons.mp hb).2]
def PrA (K : PySem.W.Frag) (H : Hp) (x : V) (p : Int × Int) : Prop := ∃ t, x = V.ref t ∧ SqT K H t [.int p.1, .int p.2]
def Prs (K : PySem.W.Frag) (H : Hp) : List V → List (Int × Int) → Prop
  | [], [] => True
  | x :: xs, p :: ps => PrA K H x p ∧ Prs K H xs ps
  | _, _ => False
theorem Prs.mem {K : PySem.W.Frag} {H : Hp} : ∀ {xs : List V} {ps : List (Int × Int)}, Prs K H xs ps → ∀ x ∈ xs, ∃ p, PrA K H x p
  | [], _, _, x, hx => by cases hx
  | y :: xs, [], h, x, hx => h.elim
  | y :: xs, p :: ps, h, x, hx => by
    rcases List.mem_cons.mp hx with rfl | hx
    · exact ⟨p, h.1⟩
    · exact Prs.mem h.2 x hx
theorem Prs.keys {K : PySem.W.Frag} {H : Hp} {k : V → Int × Int} (hk : ∀ x p, PrA K H x p → k x = p) : ∀ {xs : List V} {ps : List (Int × Int)}, Prs K H xs ps → xs.map k = ps
  | [], [], _ => rfl
  | [], _ :: _, h => h.elim
  | _ :: _, [], h => h.elim
  | x :: xs, p :: ps, h => by rw [List.map_cons, hk x p h.1, Prs.keys hk h.2]
theorem Prs.of {K : PySem.W.Frag} {H : Hp} {k : V → Int × Int} : ∀ {xs : List V}, (∀ x ∈ xs, PrA K H x (k x)) → Prs K H xs (xs.map k)
  | [], _ => trivial
  | x :: xs, h => ⟨h x (by simp), Prs.of fun y hy => h y (by simp [hy])⟩
theorem call_sortP : CallR X (.builtin "sorted") (fun vs H Q => ∃ (a : Addr) (xs : List V) (ps : List (Int × Int)) (F : Hp), vs = [V.ref a] ∧ (SqL X.K H a xs ∨ SqT X.K H a xs) ∧ (∀ a ws, SqT X.K F a ws → SqT X.K H a ws) ∧ Prs X.K F xs ps ∧ ∀ ys q, Prs X.K F ys (sortP ps) → H q = none → Q (.ref q) (upd H q (.lst ys))) := by
  intro pins s σ H vs us Q I r h
  obtain ⟨a, xs, ps, F, rfl, hs, hF, hx, q⟩ := h
  obtain ⟨its, T, hT, rv, hl, hz⟩ : ∃ (its : List Value) (T : String), (T = "list" ∨ T = "tuple") ∧ Vals xs its ∧ (∃ o n, s.heap.get? a = some o ∧ o.cls = .type T ∧ o.data = .seq its.toArray n) ∧ xs.length ≤ sizeLine := by
    rcases hs with hs | hs
    · obtain ⟨its, rv, hl, hz⟩ := I.list hs
      obtain ⟨o, ho, hc, n, hd⟩ := hl.isList
      exact ⟨its, "list", .inl rfl, rv, ⟨o, n, ho, hc, hd⟩, hz⟩
    · obtain ⟨its, rv, ⟨o, ho, hc, n, hd⟩, hz⟩ := I.tuple hs
      exact ⟨its, "tuple", .inr rfl, rv, ⟨o, n, ho, hc, hd⟩, hz⟩
  obtain ⟨u, rfl, ru⟩ := vals1 r
  obtain rfl : u = Value.ref a := ru
  obtain ⟨e1, e2⟩ := refs_back rv fun x m => by
    obtain ⟨p, t, e, _⟩ := hx.mem x m
    exact ⟨t, e⟩
  obtain ⟨k, hk⟩ : ∃ k : V → Int × Int, ∀ x p, PrA X.K F x p → k x = p := by
    refine ⟨fun x => Classical.epsilon fun p => PrA X.K F x p, fun x p hp => ?_⟩
    have h : ∃ p, PrA X.K F x p := ⟨p, hp⟩
    obtain ⟨t, e, st⟩ := Classical.epsilon_spec h
    obtain ⟨t', e', st'⟩ := hp
    rw [e] at e'; cases e'
    have := I.tuple_inj (hF _ _ st) (hF _ _ st')
    simp only [List.cons.injEq, V.int.injEq] at this
    exact Prod.ext this.1 this.2.1
  have hkx : ∀ x ∈ xs, PrA X.K F x (k x) := fun x m => by
    obtain ⟨p, hp⟩ := hx.mem x m
    rw [hk x p hp]; exact hp
  refine SrtO.sortedS (k := fun u => k (backV u)) hT hl (by rw [← rv.length]; exact hz) (fun v hv => ?_) fun h' d out h1 h2 kp hd hn => ?_
  · obtain ⟨t, rfl⟩ := e2 v hv
    have hm : V.ref t ∈ xs := by rw [e1]; exact List.mem_map.mpr ⟨_, hv, rfl⟩
    obtain ⟨t', e, ht⟩ := hkx _ hm
    cases e
    obtain ⟨its2, r2, ⟨o, ho, hc, n, hd⟩, _⟩ := I.tuple (hF _ _ ht)
    obtain ⟨u1, u2, rfl, ri, rj⟩ := vals2 r2
    obtain ⟨t1, rfl⟩ := ri
    obtain ⟨t2, rfl⟩ := rj
    exact ⟨t, o, t1, t2, n, rfl, ho, hc, hd⟩
  · have h3 : ∀ u ∈ out, ∃ a, u = Value.ref a := fun u hu => e2 u (h2.perm.mem_iff.mp hu)
    obtain ⟨n, hn⟩ := hn
    have hpm : (out.map backV).Perm xs := by
      rw [e1]
      exact h2.perm.map backV
    have hpr : Prs X.K F (out.map backV) (sortP ps) := by
      have e4 : (out.map backV).map k = sortP ps := by
        refine sortedP_one ?_ ?_ (sortP_sorted ps)
        · rw [← Prs.keys hk hx]
          exact (hpm.map k).trans (sortP_perm _).symm
        · rw [List.map_map]
          exact List.pairwise_map.mpr (List.Pairwise.imp (fun {x y} h => h) h1)
      rw [← e4]
      exact Prs.of fun x m => hkx x (hpm.mem_iff.mp m)
    refine ⟨.ref d, upd H d (.lst (out.map backV)), I.laidN (t' := s.toks) kp hd (I.hok.gone hd) ⟨?_, out, n, vals_back h3, hn⟩, rfl, q _ d hpr (I.hok.gone hd)⟩
    rw [hpm.length_eq]
    exact hz
theorem VRs.prs : ∀ {ds : List D} {vs : List V} {ps : List (Int × Int)}, VRs g F ρ ds vs → pairsOf ds = some ps → Prs g.K F vs ps := by
  intro ds
  induction ds with
  | nil =>
    intro vs ps h e
    cases h
    cases e
    trivial
  | cons d ds ih =>
    intro vs ps h e
    cases h with
    | cons h1 h2 =>
      unfold pairsOf at e
      split at e
      · cases ‹_ = ([] : List D)›
      · rename_i i j r q
        cases q
        obtain ⟨ps', e5, rfl⟩ := Option.map_eq_some_iff.mp e
        obtain ⟨a, ws, rfl, s1, w1⟩ := h1.tupI
        cases w1 with
        | cons w1 w2 =>
          cases w2 with
          | cons w2 w3 =>
            cases w3
            have e6 := w1.intI
            have e7 := w2.intI
            subst e6; subst e7
            exact ⟨⟨a, rfl, s1⟩, ih h2 e5⟩
      · cases e
theorem VRs.of_prs : ∀ {vs : List V} {ps : List (Int × Int)}, Prs g.K F vs ps → VRs g F ρ (ps.map pairD) vs
  | [], [], _ => .nil
  | [], _ :: _, h => h.elim
  | _ :: _, [], h => h.elim
  | x :: xs, p :: ps, h => by
    obtain ⟨⟨t, rfl, s⟩, h2⟩ := h
    exact .cons (.tup s (.cons (.int _) (.cons (.int _) .nil))) (VRs.of_prs h2)
/-- repr of data -/
theorem call_repr (hg : X.A.guards = some []) (hu : X.A.units + 64 < cLine) (hK : X.K = g.K) (hm : ∃ o es n, g.K.lookup sysModules = some o ∧ o.data = .dict es n) :
    CallR X (.builtin "repr") (fun xs H Q => ∃ (F : Hp) (ρ : Rho) (a : Addr) (d : D), xs = [.ref a] ∧ Same F H ∧ VR g F ρ d (.ref a) ∧ okR 60 d = true ∧ (toPy 60 d).showable = true ∧ (toPy 60 d).shown.length ≤ sizeLine ∧ Q (.str (toPy 60 d).shown) H) := by
  intro pins s σ H xs us Q I r h
  obtain ⟨F, ρ, a, d, rfl, hs, hd, ho, h1, h4, q⟩ := h
  obtain ⟨u, rfl, rx⟩ := vals1 r
  obtain ⟨as, rd, hn⟩ := VR.reads I hK hs hm 60 d _ u ho hd rx
  cases rx
  have h3 := ok_depth 60 d
  exact PySem.repr_of_reads' (h₀ := s.heap) rd h1 (fun _ => hn) hg (by omega) (fun _ _ e => e) (fun h' u tk hk => ⟨.str (toPy 60 d).shown, H, I.kept (t' := tk) hk, ⟨_, rfl⟩, q⟩) h4
/-- repr of what is no object -/
def shS : V → Str → Prop
  | .non, t => t = "None"
  | .bl b, t => t = if b then Str.ofString "True" else Str.ofString "False"
  | .int i, t => i.natAbs.log2 < 1920 ∧ t = toString i
  | .str x, t => (reprText x).length ≤ sizeLine ∧ t = reprText x
  | _, _ => False
theorem call_reprS : CallR X (.builtin "repr") (fun xs H Q => ∃ (v : V) (t : Str), xs = [v] ∧ shS v t ∧ Q (.str t) H) := by
  intro pins s σ H xs us Q I r h
  obtain ⟨v, t, rfl, hv, q⟩ := h
  obtain ⟨u, rfl, rx⟩ := vals1 r
  cases v with
  | non => cases hv; cases rx; exact PySem.P.repr_of_none ⟨.str _, H, I.tok _, ⟨_, rfl⟩, q⟩
  | bl b => cases hv; cases rx; exact PySem.P.repr_of_bool ⟨.str _, H, I.tok _, ⟨_, rfl⟩, q⟩
  | int i => obtain ⟨h1, rfl⟩ := hv; obtain ⟨tk, rfl⟩ := rx; exact PySem.P.repr_of_int h1 ⟨.str _, H, I.tok _, ⟨_, rfl⟩, q⟩
  | str x => obtain ⟨h1, rfl⟩ := hv; obtain ⟨tk, rfl⟩ := rx; exact PySem.P.repr_of_str ⟨.str _, H, I.tok _, ⟨_, rfl⟩, q⟩ h1
  | _ => cases hv
theorem show_all : ∀ ds : List PyData, PyData.showableAll ds = ds.all PyData.showable
  | [] => rfl
  | d :: ds => by
    show (PyData.showable d && PyData.showableAll ds) = _
    rw [show_all ds]; rfl
theorem show_py : ∀ (n : Nat) (d : D), okR n d = true → showD n d = true → (toPy n d).showable = true
  | n, .non, _, _ => by cases n <;> rfl
  | n, .bl _, _, _ => by cases n <;> rfl
  | n, .int _, _, h => by cases n <;> exact h
  | n, .str s, _, _ => by cases n <;> rfl
  | 0, .tup _, h, _ => by cases h
  | 0, .lst _, h, _ => by cases h
  | 0, .emp, h, _ => by cases h
  | 0, .ref _, h, _ => by cases h
  | 0, .fn _, h, _ => by cases h
  | 0, .scr _, h, _ => by cases h
  | 0, .err _ _, h, _ => by cases h
  | n + 1, .emp, _, _ => rfl
  | n + 1, .ref _, h, _ => by cases h
  | n + 1, .fn _, h, _ => by cases h
  | n + 1, .scr _, h, _ => by cases h
  | n + 1, .err _ _, h, _ => by cases h
  | n + 1, .tup xs, h, q => by
    show PyData.showableAll (xs.map (toPy n)) = true
    rw [show_all, all_map]
    exact List.all_eq_true.mpr fun x hx => show_py n x (List.all_eq_true.mp h x hx) (List.all_eq_true.mp q x hx)
  | n + 1, .lst xs, h, q => by
    show PyData.showableAll (xs.map (toPy n)) = true
    rw [show_all, all_map]
    exact List.all_eq_true.mpr fun x hx => show_py n x (List.all_eq_true.mp h x hx) (List.all_eq_true.mp q x hx)
theorem b1_ok (G : Gd g wx k X) (f : B1) (A : Ab g b F ρ σ H fr st) (rv : VR g F ρ x v) (p : Po g b wx WR (opt (b1D f x) st) F ρ σ fr Q) : ∃ r, CallR X (b1V f) r ∧ r [v] H Q := by
  have sqL : ∀ {a : Addr} {vs : List V}, F a = some (.lst vs) → SqL X.K H a vs := fun h => .inl (.inl (A.sub _ _ h))
  unfold b1D at p
  split at p
  · obtain ⟨a, vs, rfl, a1, a2⟩ := rv.tupI
    exact ⟨_, call_len, _, _, rfl, .inr ⟨vs, by rw [G.hK]; exact A.sqT a1, a2.length⟩, p.dat A (.int _)⟩
  · obtain ⟨a, vs, rfl, a1, a2⟩ := rv.lstI
    exact ⟨_, call_len, _, _, rfl, .inl ⟨vs, sqL a1, a2.length⟩, p.dat A (.int _)⟩
  · obtain ⟨a, rfl, a1⟩ := rv.scrI
    exact ⟨_, call_len, _, _, rfl, .inl ⟨_, by rw [G.hK]; exact A.sub.seq a1, by rw [List.length_map]⟩, p.dat A (.int _)⟩
  · have e := rv.strI
    subst e
    split at p
    · rename_i h
      exact ⟨_, call_len, _, _, rfl, ⟨h, rfl⟩, p.dat A (.int _)⟩
    · exact p.elim
  · obtain ⟨a, vs, rfl, a1, a2⟩ := rv.lstI
    rename_i xs
    cases e : intsOf xs with
    | none => rw [e] at p; exact p.elim
    | some is =>
      rw [e] at p
      refine ⟨_, cr_sum G.calm, a, is, rfl, ?_, Po.dat (d := .int is.sum) p A (.int _)⟩
      rw [← a2.ints e]; exact sqL a1
  · obtain ⟨a, vs, rfl, a1, a2⟩ := rv.lstI
    rename_i xs
    cases e : bools xs with
    | none => rw [e] at p; exact p.elim
    | some is =>
      rw [e] at p
      refine ⟨_, cr_all G.calm, a, is, rfl, ?_, Po.dat (d := .bl (is.all id)) p A (.bl _)⟩
      rw [← a2.bools e]; exact sqL a1
  · obtain ⟨a, vs, rfl, a1, a2⟩ := rv.lstI
    rename_i xs
    cases e : bools xs with
    | none => rw [e] at p; exact p.elim
    | some is =>
      rw [e] at p
      refine ⟨_, cr_any G.calm, a, is, rfl, ?_, Po.dat (d := .bl (is.any id)) p A (.bl _)⟩
      rw [← a2.bools e]; exact sqL a1
  · obtain ⟨a, vs, rfl, a1, a2⟩ := rv.tupI
    exact ⟨_, call_list_of, a, vs, rfl, .inr (by rw [G.hK]; exact A.sqT a1), p.lst A a2⟩
  · obtain ⟨a, vs, rfl, a1, a2⟩ := rv.lstI
    exact ⟨_, call_list_of, a, vs, rfl, .inl (sqL a1), p.lst A a2⟩
  · obtain ⟨a, vs, rfl, a1, a2⟩ := rv.lstI
    exact ⟨_, call_tuple_of, a, vs, rfl, .inl ⟨sqL a1, p.tup A a2⟩⟩
  · obtain ⟨a, vs, rfl, a1, a2⟩ := rv.tupI
    exact ⟨_, call_tuple_of, a, vs, rfl, .inr ⟨by rw [G.hK]; exact A.sqT a1, p.dat A (.tup a1 a2)⟩⟩
  · obtain ⟨a, vs, rfl, a1, a2⟩ := rv.lstI
    rename_i xs
    unfold sortD at p
    cases e : intsOf xs with
    | none =>
      rw [e] at p
      simp only at p
      cases e3 : pairsOf xs with
      | none => rw [e3] at p; exact p.elim
      | some ps =>
        rw [e3] at p
        have hK := G.hK
        refine ⟨_, call_sortP, a, vs, ps, F, rfl, .inl (sqL a1), fun a ws z => A.sqT z, by rw [hK]; exact a2.prs e3, fun ys q h1 h3 => ?_⟩
        rw [hK] at h1
        exact Po.lst (xs := (sortP ps).map pairD) p A (VRs.of_prs h1) q h3
    | some is =>
      rw [e] at p
      simp only at p
      split at p
      · rename_i h
        refine ⟨_, cr_sorted, a, is, rfl, by rw [← a2.ints e]; exact sqL a1, h, fun ns' q h1 h2 h3 => ?_⟩
        have e2 : ns' = sortI is := sorted_one (h1.trans (sortI_perm is).symm) h2 (sortI_sorted is)
        subst e2
        exact Po.lst (xs := (sortI is).map D.int) p A (.of_ints _) q h3
      · exact p.elim
  · obtain ⟨a, vs, rfl, a1, a2⟩ := rv.tupI
    rename_i xs
    unfold sortT at p
    cases e : intsOf xs with
    | none =>
      rw [e] at p
      simp only at p
      cases e3 : pairsOf xs with
      | none => rw [e3] at p; exact p.elim
      | some ps =>
        rw [e3] at p
        have hK := G.hK
        refine ⟨_, call_sortP, a, vs, ps, F, rfl, .inr (by rw [hK]; exact A.sqT a1), fun a ws z => A.sqT z, by rw [hK]; exact a2.prs e3, fun ys q h1 h3 => ?_⟩
        rw [hK] at h1
        exact Po.lst (xs := (sortP ps).map pairD) p A (VRs.of_prs h1) q h3
    | some is =>
      rw [e] at p
      simp only at p
      split at p
      · rename_i h
        have hK := G.hK
        have e0 : is = [] := List.length_eq_zero_iff.mp h
        subst e0
        have e4 : xs = [] := by
          cases xs with
          | nil => rfl
          | cons x r => cases x <;> simp [intsOf] at e
        subst e4
        refine ⟨_, call_sortP, a, vs, [], F, rfl, .inr (by rw [hK]; exact A.sqT a1), fun a ws z => A.sqT z, by rw [hK]; exact a2.prs rfl, fun ys q h1 h3 => ?_⟩
        rw [hK] at h1
        exact Po.lst (xs := []) p A (VRs.of_prs h1) q h3
      · exact p.elim
  · have e := rv.intI
    subst e
    exact ⟨_, call_int1, .inl ⟨_, rfl, p.dat A (.int _)⟩⟩
  · have e := rv.blI
    subst e
    exact ⟨_, call_int1, .inr ⟨_, rfl, p.dat A (.int _)⟩⟩
  · have e := rv.intI
    subst e
    exact ⟨_, call_abs, _, rfl, p.dat A (.int _)⟩
  · obtain ⟨a, vs, rfl, a1, a2⟩ := rv.lstI
    rename_i xs
    split at p
    · rename_i i r e
      refine ⟨_, cr_max G.calm, a, i :: r, rfl, by rw [← a2.ints e]; exact sqL a1, by simp, fun m h1 h2 => ?_⟩
      obtain ⟨z1, z2⟩ := mx_max r i
      have e2 : m = mx i r := Int.le_antisymm (z2 m h1) (h2 _ z1)
      subst e2
      exact Po.dat (d := .int (mx i r)) p A (.int _)
    · exact p.elim
  · obtain ⟨a, vs, rfl, a1, a2⟩ := rv.lstI
    rename_i xs
    split at p
    · rename_i i r e
      refine ⟨_, cr_min G.calm, a, i :: r, rfl, by rw [← a2.ints e]; exact sqL a1, by simp, fun m h1 h2 => ?_⟩
      obtain ⟨z1, z2⟩ := mn_min r i
      have e2 : m = mn i r := Int.le_antisymm (h2 _ z1) (z2 m h1)
      subst e2
      exact Po.dat (d := .int (mn i r)) p A (.int _)
    · exact p.elim
  · split at p
    · rename_i h
      simp only [Bool.and_eq_true, decide_eq_true_eq] at h
      obtain ⟨⟨h1, h2⟩, h3⟩ := h
      cases h4 : scalar x with
      | true =>
        have hw := Nat.le_trans (wt_py 60 x h1 h2) h3
        cases x <;> first | (cases h4; done) | skip
        · cases rv; exact ⟨_, call_reprS, .non, _, rfl, rfl, p.dat A (.str _)⟩
        · cases rv; exact ⟨_, call_reprS, .bl _, _, rfl, rfl, p.dat A (.str _)⟩
        · cases rv; exact ⟨_, call_reprS, .int _, _, rfl, ⟨of_decide_eq_true h2, rfl⟩, p.dat A (.str _)⟩
        · cases rv; exact ⟨_, call_reprS, .str _, _, rfl, ⟨hw, rfl⟩, p.dat A (.str _)⟩
      | false =>
      have ha : ∃ a, v = .ref a := by
        cases x <;> first | (cases h4; done) | (cases rv <;> exact ⟨_, rfl⟩)
      obtain ⟨a, rfl⟩ := ha
      exact ⟨_, call_repr (g := g) G.guards G.room.units G.hK G.sm, F, ρ, a, x, rfl, A.sub, rv, h1, show_py 60 x h1 h2, Nat.le_trans (wt_py 60 x h1 h2) h3, p.dat A (.str _)⟩
    · exact p.elim
  · exact p.elim

def b2N : B2 → Str
  | .min => "min"
  | .max => "max"
def b2V : B2 → Value
  | .min => .builtin "min"
  | .max => .builtin "max"
theorem b2_boot (f : B2) : bootBuiltins (b2N f) = some (b2V f) := by cases f <;> decide +kernel
theorem b2_ok (G : Gd g wx k X) (f : B2) (A : Ab g b F ρ σ H fr st) (rv : VR g F ρ x v) (ru : VR g F ρ y u) (p : Po g b wx WR (opt (b2D f x y) st) F ρ σ fr Q) : ∃ r, CallR X (b2V f) r ∧ r [v, u] H Q := by
  unfold b2D at p
  split at p
  · cases rv; cases ru
    exact ⟨_, call_min2 G.calm, _, _, rfl, p.dat A (.int _)⟩
  · cases rv; cases ru
    exact ⟨_, call_max2 G.calm, _, _, rfl, p.dat A (.int _)⟩
  · exact p.elim
def tyN : Ty → Str
  | .int => "int"
  | .bool => "bool"
  | .tuple => "tuple"
  | .str => "str"
  | .list => "list"
  | .dict => "dict"
def tyS : Ty → String
  | .int => "int"
  | .bool => "bool"
  | .tuple => "tuple"
  | .str => "str"
  | .list => "list"
  | .dict => "dict"
theorem ty_boot (t : Ty) : bootBuiltins (tyN t) = some (.type (tyS t)) := by cases t <;> decide +kernel
theorem tyX_tup (G : Gd g wx k X) (A : Ab g b F ρ σ H fr st) {a : Addr} {vs : List V} (h : SqT g.K F a vs) : TyX X.K H (.ref a) (.type "tuple") := by
  rcases h with (h | ⟨o, h⟩) | ⟨o, its, n, h1, h2, _⟩
  · exact .base (.tup (A.sub _ _ h))
  · exact .fTuple (A.sub _ _ h)
  · exact .kTuple (by rw [G.hK]; exact h1) h2
theorem isi_ok (G : Gd g wx k X) (t : Ty) (A : Ab g b F ρ σ H fr st) (rv : VR g F ρ x v) {c : Bool} (e : isiD x t = some c) (q : Q (.bl c) H) : rIsi X.K [v, .ty (tyS t)] H Q := by
  have key : ∀ {T : String}, TyX X.K H v (.type T) → kitB T (tyS t) = some c → rIsi X.K [v, .ty (tyS t)] H Q := fun h1 h2 => ⟨v, _, _, _, c, rfl, .ty _, h1, kit_ty h2, q⟩
  cases x with
  | non => cases rv; refine key (.base .non) ?_; cases t <;> (cases e; decide +kernel)
  | bl b => cases rv; refine key (.base (.bl _)) ?_; cases t <;> (cases e; decide +kernel)
  | int i => cases rv; refine key (.base (.int _)) ?_; cases t <;> (cases e; decide +kernel)
  | str i => cases rv; refine key (.base (.str _)) ?_; cases t <;> (cases e; decide +kernel)
  | tup xs =>
    obtain ⟨a, vs, rfl, a1, a2⟩ := rv.tupI
    refine key (tyX_tup G A a1) ?_
    cases t <;> (cases e; decide +kernel)
  | lst xs =>
    obtain ⟨a, vs, rfl, a1, a2⟩ := rv.lstI
    refine key (.base (.lst (A.sub _ _ a1))) ?_
    cases t <;> (cases e; decide +kernel)
  | emp =>
    obtain ⟨a, rfl, a1⟩ := rv.empI
    refine key (.base (.dK (A.sub _ _ a1))) ?_
    cases t <;> (cases e; decide +kernel)
  | ref n => cases t <;> cases e
  | fn n => cases t <;> cases e
  | scr n => cases t <;> cases e
  | err n p => cases t <;> cases e
end
end MP

set_option Elab.async false
set_option linter.all false
set_option maxRecDepth 100000
namespace MP
open PySem PySem.Spec L2

/-! ### the text of a def and its term -/
structure Cc where
  N : List Str
  sc : Scope
  st : Str → Bool
  fx : Str → Option Nat
  cs : Str → Option D
  xc : Str → Option Nat
  tx : Str → Option Nat
  lm : Bool
  tr : Bool
def nkB : Option NameKind → Bool
  | some .local => true
  | some .cell => true
  | some .free => true
  | _ => false
def lcB : Option NameKind → Bool
  | some .local => true
  | some .cell => true
  | _ => false
def glK : Option NameKind → Bool
  | some .globalImplicit => true
  | _ => false
def visB (c : Cc) (i : Nat) (x : Str) : Bool := decide (c.N[i]? = some x) && nkB (c.sc.names.lookup x) && !(x == ("__debug__" : Str)) && !(x == ("__classdict__" : Str))
def locB (c : Cc) (i : Nat) (x : Str) : Bool := decide (c.N[i]? = some x) && lcB (c.sc.names.lookup x) && c.st x
def glB (c : Cc) (x : Str) : Bool := glK (c.sc.names.lookup x) && !(x == ("__debug__" : Str)) && !decide (x = "__name__")
def sameD : Nat → D → D → Bool
  | _, .non, .non => true
  | _, .bl a, .bl b => a == b
  | _, .int a, .int b => a == b
  | _, .str a, .str b => decide (a = b)
  | n + 1, .tup xs, .tup ys => xs.length == ys.length && (xs.zip ys).all fun p => sameD n p.1 p.2
  | _, _, _ => false
def conB : D → Const → Bool
  | .non, .none => true
  | .bl a, .bool b => a == b
  | .int a, .int b => a == b
  | .str a, .str b => decide (a = b)
  | _, _ => false
def noStar : Expr → Bool
  | .Starred _ _ => false
  | _ => true
def noSet : Expr → Bool
  | .Set _ _ _ => false
  | _ => true
def noSlice : Expr → Bool
  | .Slice _ _ _ _ => false
  | _ => true
def noLC : Expr → Bool
  | .ListComp _ _ _ _ => false
  | _ => true
def nameIs (x : Str) : Expr → Bool
  | .Name y _ => decide (x = y)
  | _ => false
def inner (c : Cc) (scope : Scope) : Cc := { c with lm := false, tr := false, sc := relS scope c.sc, st := fun x => match scope.names.lookup x with
  | some .cell => true
  | some .local => true
  | _ => false }
/-- a lambda without parameters, or with one that has the default 0 -/
def lamP : Arguments → Bool
  | ⟨[], [], none, [], [], none, []⟩ => true
  | ⟨[], [a], none, [], [], none, [.Constant (.int i) _ _]⟩ => decide (a.arg = "_law_x") && decide (i = 0)
  | _ => false
/-- the lambda's parameter, if it has one -/
def lamA : Arguments → List Str
  | ⟨_, as, _, _, _, _, _⟩ => as.map (·.arg)
/-- its names: captured ones and globals, its parameter no name of the def -/
def lamB (c : Cc) (ps : Arguments) (scope : Scope) : Bool := lamP ps && decide (scope.kind = .function) && !scope.isCoroutine && !scope.isGenerator && (scope.names.all fun y => !decide (y.2 = .cell) && (!decide (y.2 = .local) || ((lamA ps).contains y.1 && !c.N.contains y.1)) &&
  (!decide (y.2 = .free) || decide (c.sc.names.lookup y.1 = some .cell) || decide (c.sc.names.lookup y.1 = some .free))) && (lamA ps).all fun x => decide (scope.names.lookup x = some .local)
def innerL (c : Cc) (scope : Scope) : Cc := { c with sc := scope, st := fun _ => false, lm := false, tr := false }
def ownN (c : Cc) (own : List Nat) : List (Str × Nat) := own.map fun i => ((c.N[i]?).getD "", i)
mutual
def mG (c : Cc) : G → Expr → Bool
  | .nm i, e => match e with
    | .Name x _ => locB c i x
    | _ => false
  | .tp gs, e => match e with
    | .Tuple es _ _ => mGs c gs es
    | _ => false
def mGs (c : Cc) : Gs → List Expr → Bool
  | .nil, es => match es with
    | [] => true
    | _ => false
  | .cons g r, es => match es with
    | e :: es => noStar e && mG c g e && mGs c r es
    | _ => false
end
def okT : E → Bool
  | .not a => okT a
  | .and a b => okT a && okT b
  | .or a b => okT a && okT b
  | .ite _ _ _ => false
  | .new _ => false
  | _ => true
def keepOf : It → List Nat
  | .mut m => [m]
  | _ => []
mutual
def slG : G → List Nat
  | .nm i => [i]
  | .tp gs => slGs gs
def slGs : Gs → List Nat
  | .nil => []
  | .cons g r => slG g ++ slGs r
end
def isTup : Expr → Bool
  | .Tuple _ _ _ => true
  | _ => false
mutual
def mE (c : Cc) : E → Expr → Bool
  | .var i, e => match e with
    | .Name x _ => visB c i x
    | _ => false
  | .con d, e => match e with
    | .Constant k _ _ => conB d k
    | _ => false
  | .glo x d, e => match e with
    | .Name y _ => decide (x = y) && glB c x && (match c.cs x with
      | some d' => sameD 5 d d'
      | none => false)
    | _ => false
  | .tup es, e => match e with
    | .Tuple es' _ _ => mA c es es'
    | _ => false
  | .lst es, e => match e with
    | .List es' _ => mA c es es'
    | _ => false
  | .bin o a b, e => match e with
    | .BinOp a' o' b' _ => decide (o' = opOf o) && mE c a a' && mE c b b'
    | _ => false
  | .neg a, e => match e with
    | .UnaryOp o a' _ => decide (o = .USub) && mE c a a'
    | _ => false
  | .cmp o a b, e => match e with
    | .Compare a' [o'] [b'] _ => decide (o' = cpOf o) && noSet b' && mE c a a' && mE c b b'
    | _ => false
  | .chain o o2 a b d, e => match e with
    | .Compare a' [o', o2'] [b', d'] _ => decide (o' = cpOf o) && decide (o2' = cpOf o2) && noSet b' && noSet d' && mE c a a' && mE c b b' && mE c d d'
    | _ => false
  | .not a, e => match e with
    | .UnaryOp o a' _ => decide (o = .Not) && mE c a a'
    | _ => false
  | .and a b, e => match e with
    | .BoolOp o (a' :: b' :: r) pos => decide (o = .And) && mE c a a' && (match r with
      | [] => mE c b b'
      | _ :: _ => mE c b (.BoolOp .And (b' :: r) pos))
    | _ => false
  | .or a b, e => match e with
    | .BoolOp o (a' :: b' :: r) pos => decide (o = .Or) && mE c a a' && (match r with
      | [] => mE c b b'
      | _ :: _ => mE c b (.BoolOp .Or (b' :: r) pos))
    | _ => false
  | .ite t a b, e => match e with
    | .IfExp t' a' b' _ => okT t && mE c t t' && mE c a a' && mE c b b'
    | _ => false
  | .idx a i, e => match e with
    | .Subscript a' i' _ => noSlice i' && mE c a a' && mE c i i'
    | _ => false
  | .idxM m i, e => match e with
    | .Subscript (.Name x _) i' _ => noSlice i' && visB c m x && mE c i i'
    | _ => false
  | .lenM m, e => match e with
    | .Call (.Name f _) [.Name x _] [] _ => decide (f = "len") && glB c f && visB c m x
    | _ => false
  | .slc a lo hi, e => match e with
    | .Subscript a' (.Slice lo' hi' none _) _ => mE c a a' && mO c lo lo' && mO c hi hi'
    | _ => false
  | .rev a, e => match e with
    | .Subscript a' (.Slice none none (some (.UnaryOp o (.Constant (.int j) _ _) _)) _) _ => decide (o = .USub) && decide (j = 1) && mE c a a'
    | _ => false
  | .call f x es, e => match e with
    | .Call (.Name y _) (a :: as) [] _ => decide (x = y) && glB c x && decide (c.fx x = some f) && (kwId f).isNone && mA0 c es (a :: as)
    | _ => false
  | .gfn f x, e => match e with
    | .Name y _ => decide (x = y) && glB c x && decide (c.fx x = some f)
    | _ => false
  | .callv i fs es, e => match e with
    | .Call (.Name y _) (a :: as) [] _ => visB c i y && (fs.all fun p => decide (c.fx p.2 = some p.1) && (kwId p.1).isNone) && mA0 c es (a :: as)
    | _ => false
  | .b1 f a, e => match e with
    | .Call (.Name y _) [a'] [] _ => decide (y = b1N f) && glB c y && noStar a' && mE c a a'
    | _ => false
  | .b2 f a b, e => match e with
    | .Call (.Name y _) [a', b'] [] _ => decide (y = b2N f) && glB c y && noStar a' && noStar b' && mE c a a' && mE c b b'
    | _ => false
  | .isi a t, e => match e with
    | .Call (.Name y _) [a', .Name z _] [] _ => decide (y = "isinstance") && glB c y && decide (z = tyN t) && glB c z && noStar a' && mE c a a'
    | _ => false
  | .lrng tp it, e => match e with
    | .Call (.Name y _) [a'] [] _ => decide (y = if tp then "tuple" else "list") && glB c y && noStar a' && mR c it a'
    | _ => false
  | .comp elt g own it cd, e => match e with
    | .ListComp elt' [⟨tg, iter, ifs, z⟩] scope _ => decide (z = 0) && ((slG g).all fun j => own.contains j) && ((keepOf it).all fun m => !own.contains m) && blkC c.N c.sc scope (ownN c own) && noSet iter && mI c it tg iter && mG (inner c scope) g tg && mC (inner c scope) cd ifs && mE (inner c scope) elt elt'
    | _ => false
  | .get a x, e => match e with
    | .Subscript a' (.Constant (.str y) _ _) _ => decide (x = y) && mE c a a'
    | _ => false
  | .obi a i, e => match e with
    | .Subscript a' i' _ => noSlice i' && mE c a a' && mE c i i'
    | _ => false
  | .obl a, e => match e with
    | .Call (.Name y _) [a'] [] _ => decide (y = "len") && glB c y && noStar a' && mE c a a'
    | _ => false
  | .obe a, e => match e with
    | .Compare a' [o'] [.List [] _] _ => decide (o' = .NotEq) && mE c a a'
    | _ => false
  | .new a, e => noLC e && mE c a e
  | .isx a q x, e => match e with
    | .Call (.Name y _) [a', .Name z _] [] _ => decide (y = "isinstance") && glB c y && decide (z = x) && glB c z && decide (c.xc z = some q) && noStar a' && mE c a a'
    | _ => false
  | .fld a x, e => match e with
    | .Attribute (.Name y p) z _ => decide (z = x) && decide (x ≠ "") && mE c a (.Name y p)
    | .Attribute (.Subscript y i p) z _ => decide (z = x) && decide (x ≠ "") && mE c a (.Subscript y i p)
    | _ => false
  | .call0 f x, e => match e with
    | .Call (.Name y _) [] [] _ => decide (x = y) && glB c x && decide (c.fx x = some f) && (kwId f).isNone
    | _ => false
  | .calld f x es, e => match e with
    | .Call (.Name y _) (a :: as) [] _ => decide (x = y) && glB c x && decide (c.fx x = some f) && (kwId f).isSome && mA0 c es (a :: as)
    | _ => false
  | .callk f x es e0, e => match e with
    | .Call (.Name y _) (a :: as) [⟨some z, e', _⟩] _ => decide (x = y) && glB c x && decide (c.fx x = some f) && decide ((kwId f).map (·.1) = some z) && mA0 c es (a :: as) && mE c e0 e'
    | _ => false
  | .dic, e => match e with
    | .Dict [] [] _ => true
    | _ => false
  | .cnt a e0, e => match e with
    | .Call (.Attribute (.Name y p) z q) [e'] [] pos => decide (z = "count") && (q.endLine == pos.line) && noStar e' && mE c a (.Name y p) && mE c e0 e'
    | _ => false
  | .mke q x e0, e => match e with
    | .Call (.Name y _) [a] [] _ => decide (x = y) && glB c x && decide (c.xc x = some q) && decide (0 < q) && noStar a && mE c e0 a
    | _ => false
  | .mk0 x e0, e => match e with
    | .Call (.Name y _) [a] [] _ => decide (x = y) && glB c x && decide (c.xc x = some 0) && noStar a && mE c e0 a
    | _ => false
  | .isb a n, e => match e with
    | .Call (.Name y _) [a', .Name z _] [] _ => decide (y = "isinstance") && glB c y && decide (z = bxN n) && glB c z && noStar a' && mE c a a'
    | _ => false
  | .lamc f x e0, e => match e with
    | .Call (.Name y _) [.Lambda ps body scope _] [] _ => decide (x = y) && glB c x && decide (c.tx x = some f) && c.lm && lamB c ps scope && mE (innerL c scope) e0 body
    | _ => false
def mA (c : Cc) : A → List Expr → Bool
  | .nil, es => match es with
    | [] => true
    | _ => false
  | .cons e r, es => match es with
    | e' :: es' => noStar e' && mE c e e' && mA c r es'
    | _ => false
  | .star e r, es => match es with
    | .Starred e' _ :: es' => mE c e e' && mA c r es'
    | _ => false
/-- no star -/
def mA0 (c : Cc) : A → List Expr → Bool
  | .nil, es => match es with
    | [] => true
    | _ => false
  | .cons e r, es => match es with
    | e' :: es' => noStar e' && mE c e e' && mA0 c r es'
    | _ => false
  | .star _ _, _ => false
def mO (c : Cc) : O → Option Expr → Bool
  | .none, o => match o with
    | none => true
    | _ => false
  | .some e, o => match o with
    | some e' => mE c e e'
    | _ => false
/-- a range -/
def mR (c : Cc) : It → Expr → Bool
  | .rng1 a, e => match e with
    | .Call (.Name y _) [a'] [] _ => decide (y = "range") && glB c y && noStar a' && mE c a a'
    | _ => false
  | .rng2 a b, e => match e with
    | .Call (.Name y _) [a', b'] [] _ => decide (y = "range") && glB c y && noStar a' && noStar b' && mE c a a' && mE c b b'
    | _ => false
  | .seq _, _ => false
  | .mut _, _ => false
  | .zip _ _, _ => false
  | .enum _, _ => false
  | .enumz _ _, _ => false
def mI (c : Cc) : It → Expr → Expr → Bool
  | .seq e, _, e' => mE c e e'
  | .mut i, _, e' => match e' with
    | .Name x _ => visB c i x
    | _ => false
  | .rng1 a, _, e => match e with
    | .Call (.Name y _) [a'] [] _ => decide (y = "range") && glB c y && noStar a' && mE c a a'
    | _ => false
  | .rng2 a b, _, e => match e with
    | .Call (.Name y _) [a', b'] [] _ => decide (y = "range") && glB c y && noStar a' && noStar b' && mE c a a' && mE c b b'
    | _ => false
  | .zip a b, tg, e => match e with
    | .Call (.Name y _) [a', b'] [] _ => isTup tg && decide (y = "zip") && glB c y && noStar a' && noStar b' && mE c a a' && mE c b b'
    | _ => false
  | .enum a, tg, e => match e with
    | .Call (.Name y _) [a'] [] _ => isTup tg && decide (y = "enumerate") && glB c y && noStar a' && mE c a a'
    | _ => false
  | .enumz a b, tg, e => match e with
    | .Call (.Name y _) [.Call (.Name y2 _) [a', b'] [] _] [] _ => isTup tg && decide (y = "enumerate") && glB c y && decide (y2 = "zip") && glB c y2 && noStar a' && noStar b' && mE c a a' && mE c b b'
    | _ => false
def mC (c : Cc) : C → List Expr → Bool
  | .yes, es => match es with
    | [] => true
    | _ => false
  | .one e, es => match es with
    | [e'] => okT e && mE c e e'
    | _ => false
end

/-! ### what the names of the module mean -/
def bltNames : List Str := ["len", "sum", "all", "any", "list", "tuple", "sorted", "int", "abs", "min", "max", "repr", "str", "isinstance", "range", "zip", "enumerate", "bool", "dict", "ValueError", "KeyError", "LookupError", "OverflowError"]
structure FnG (g : Gb) (k : Nat) (f : Addr) (fd : FuncData) (ps : List Str) (sp : Sp) : Prop where
  len : ∀ vs H Q E, sp vs H Q E → vs.length = ps.length
  run : ∀ (A : Around) (outer : List PySem.Env) (s : Shared) (H : Hp) (args : Args) (us : List Value) (vs : List V) (Q : VK) (E : XK), A.guards = some [] → Room k A → Env0 g.P g.w g.K g.mg g.base A outer s H → BindsTo s fd args (ps.zip us) → Vals vs us → sp vs H Q E →
    codeAny (model g.P g.w) A (.call (.ref f) args) (CR (L2.CX g.P g.w) outer g.P g.w H s Q E) s
/-- a def does what a function on data does -/
def spOf (g : Gb) (c : List D → Sto → R W) (n : Nat) : Sp := fun vs H Q E => ∃ F ρ ds st, vs.length = n ∧ Ab g ⟨H, F, ρ, []⟩ F ρ [] H [] st ∧ VRs g F ρ ds vs ∧ Po g ⟨H, F, ρ, []⟩ (fun cls d _ H' => E cls d H') WR (c ds st) F ρ [] [] Q
/-- a lambda at lam, called from a def that got it: tl tells what its call asks -/
structure Act (g : Gb) (j : Nat) (A : Around) (outer : List PySem.Env) (s : Shared) (H : Hp) (lam : Addr) (tl : XK → Hp → VK → Prop) : Prop where
  obj : ∃ (o : Obj), s.heap.get? lam = some o ∧ ∀ h : Heap, h.get? lam = some o → PySem.W.FnAt lam h
  mono : ∀ (E E' : XK) (HZ : Hp) (Q Q' : VK), (∀ c d H, E c d H → E' c d H) → (∀ v H, Q v H → Q' v H) → tl E HZ Q → tl E' HZ Q'
  free : H lam = none
  nfr : lam ∉ frs outer
  run : ∀ (env : PySem.Env) (s1 : Shared) (HZ : Hp) (Q : VK) (E : XK), (A.deeper env).guards = some [] → Room (j + 1) (A.deeper env) → Env0 g.P g.w g.K g.mg g.base (A.deeper env) (env :: outer) s1 HZ → Un (frs outer) [] H HZ s.heap s1.heap → tl E HZ Q →
    codeAny (model g.P g.w) (A.deeper env) (.call (.ref lam) ⟨[], []⟩) (CR (L2.CX g.P g.w) (env :: outer) g.P g.w HZ s1 Q E) s1
/-- told's rest, by the outcome of the lambda -/
def TQ (g : Gb) (c : List D → Sto → R W) (F1 : Hp) (ρ : Rho) (Q : VK) (E : XK) : VK := fun v H' => ∃ F' ρ' st' d, Same F1 F' ∧ ρ <+: ρ' ∧ Ab g ⟨H', F', ρ', []⟩ F' ρ' [] H' [] st' ∧ VR g F' ρ' d v ∧ Po g ⟨H', F', ρ', []⟩ (fun cls d _ H => E cls d H) WR (c [.tup [d]] st') F' ρ' [] [] Q
def TE' (g : Gb) (c : List D → Sto → R W) (F1 : Hp) (ρ : Rho) (Q : VK) (E : XK) : XK := fun cls dd H' => ∃ F' ρ' st' q p, Same F1 F' ∧ ρ <+: ρ' ∧ Ab g ⟨H', F', ρ', []⟩ F' ρ' [] H' [] st' ∧ XR g F' ρ' H' q p cls dd ∧ Po g ⟨H', F', ρ', []⟩ (fun cls d _ H => E cls d H) WR (c [.err q p] st') F' ρ' [] [] Q
/-- a def that calls the lambda it gets, within a try -/
def ToldG (g : Gb) (j : Nat) (fa : Addr) (c : List D → Sto → R W) : Prop := ∀ (A : Around) (outer : List PySem.Env) (s : Shared) (H : Hp) (lam : Addr) (Q : VK) (E : XK) (tl : XK → Hp → VK → Prop) (F : Hp) (ρ : Rho) (st : Sto), A.guards = some [] → Room (j + 2) A →
  Env0 g.P g.w g.K g.mg g.base A outer s H → Act g j A outer s H lam tl → Ab g ⟨H, F, ρ, []⟩ F ρ [] H [] st →
  (∀ F1 H1, Same F F1 → Ab g ⟨H, F, ρ, []⟩ F1 ρ [] H1 [] st → tl (TE' g c F1 ρ Q E) H1 (TQ g c F1 ρ Q E)) → codeAny (model g.P g.w) A (.call (.ref fa) ⟨[.ref lam], []⟩) (CR (L2.CX g.P g.w) outer g.P g.w H s Q E) s
/-- the error classes -/
structure Xs (g : Gb) (xc : Str → Option Nat) : Prop where
  sm : ∃ o es n, g.K.lookup sysModules = some o ∧ o.data = .dict es n
  sup : g.mg "super" = none
  cls : ∀ x r, xc x = some r → g.mg x = some (.ref (g.ca r)) ∧ PySem.W.kitOne g.K (.type "NoneType") (.ref (g.ca r)) = some false
  sub : ∀ q x r, g.kn q = true → xc x = some r → PySem.W.kitOne g.K (.ref (g.ca q)) (.ref (g.ca r)) = some (subC q r) ∧ PySem.W.exmOne g.K (.ref (g.ca q)) (.ref (g.ca r)) = some (subC q r)
  kn : ∀ x q, xc x = some q → 0 < q → g.kn q = true
  bx : ∀ q, g.kn q = true → ∀ n, PySem.W.kitOne g.K (.ref (g.ca q)) (.type (bxS n)) = some (subB q n)
  k0 : ∀ x, xc x = some 0 → g.k0 = true
  err : ∀ q, g.kn q = true → ErF g.K (g.ca q) ∧ PySem.W.findIn g.K (.ref (g.ca q)) (fldC q) = some none ∧ PySem.W.keepIn g.K (.ref (g.ca q)) = true ∧ PySem.W.typeIn g.K (.ref (g.ca q)) = some (.type "type") ∧ ∃ B newId initId bmB, ErrC g.P g.K (g.ca q) (fldC q) B newId initId bmB
structure X0s (g : Gb) (xc : Str → Option Nat) : Prop where
  erf : ErF g.K (g.ca 0)
  exc : PySem.W.excIn g.K (g.ca 0) [.type "ValueError", .type "Exception", .type "BaseException", .type "object"] "ValueError.__new__" = true
  kp : PySem.W.keepIn g.K (.ref (g.ca 0)) = true
  sub : ∀ x r, xc x = some r → PySem.W.kitOne g.K (.ref (g.ca 0)) (.ref (g.ca r)) = some (subC 0 r)
  bx : ∀ n, PySem.W.kitOne g.K (.ref (g.ca 0)) (.type (bxS n)) = some (subB 0 n)
/-- how a def is called: by position, or with a keyword-only parameter at the end -/
def BindF (K : PySem.W.Frag) (fd : FuncData) (ps : List Str) : Option (Str × Int) → Prop
  | none => Binds K fd ps []
  | some p => (∃ n, ps.length = n + 1 ∧ KBn K fd ps n [p.1] (fun us ws => us ++ ws) fun vs zs => vs ++ zs) ∧ ∃ u, RelV (.int p.2) u ∧ Binds K fd ps [u]
structure Md (g : Gb) (cf : Nat → List D → Sto → R W) (k : Nat) (fx : Str → Option Nat) (cs : Str → Option D) (xc tx : Str → Option Nat) : Prop where
  xs : Xs g xc
  x0 : g.k0 = true → X0s g xc
  told : ∀ x f, tx x = some f → g.mg x = some (.ref (g.fa f)) ∧ PySem.W.keepIn g.K (.ref (g.fa f)) = true ∧ (ToldG g (3 * k) (g.fa f) (cf f) ∨ ∀ ds st, cf f ds st = .bad)
  blt : ∀ x ∈ bltNames, g.mg x = none
  con : ∀ x d, cs x = some d → ∃ v u, g.mg x = some u ∧ RelV v u ∧ ∀ F ρ, VR g F ρ d v
  fn : ∀ x f, fx x = some f → ∃ fd ps, g.mg x = some (.ref (g.fa f)) ∧ PySem.W.keepIn g.K (.ref (g.fa f)) = true ∧ BindF g.K fd ps (kwId f) ∧ FnG g (3 * k) (g.fa f) fd ps (spOf g (cf f) ps.length) ∧ ∀ ds st, cf f ds st ≠ .bad → ds.length = ps.length
section
variable {g : Gb} {b : Bs} {wx : WX} {k : Nat} {X : Cx} {F F' : Hp} {ρ ρ' : Rho} {σ : L2.St} {H H' : Hp} {fr : Fr} {st st' : Sto} {Q : VK}
/-- behind a call -/
theorem Ab.after (A : Ab g b F ρ σ H fr st) (B : Ab g ⟨H, F, ρ, []⟩ F' ρ' [] H' [] st') : Ab g b F' ρ' σ H' fr st' := by
  obtain ⟨more, e1, f1⟩ := A.rho
  obtain ⟨more2, e2, f2⟩ := B.rho
  have nin : ∀ {a o}, H a = some o → a ∉ sh ρ → a ∉ sh ρ' := fun {a o} h1 h2 h3 => by
    simp only at e2
    rw [e2] at h3
    simp only [sh, List.mem_append] at h3
    rcases h3 with h3 | h3
    · exact h2 h3
    · have := f2 a h3
      simp only at this
      rw [h1] at this; cases this
  refine {
    sub := B.sub
    ext := A.ext.trans B.ext
    new := fun a o h => ?_
    rho := ⟨more ++ more2, ?_, fun a ha => ?_⟩
    keep := fun a o h h2 nt => ?_
    fsh := B.fsh
    sto := B.sto
    tb := ⟨B.tb.tabs, B.tb.ntb, fun a ps h => by
      obtain ⟨ps', h1⟩ := A.tb.kpt a ps h
      exact B.tb.kpt a ps' h1, A.tb.pnt⟩
    len := A.len
    dat := fun i d h => ?_
    mu := fun i xs h => ?_
    apart := A.apart
    pin := fun q hq => ?_ }
  · rcases B.new a o h with z | z | z
    · exact A.new a o z
    · exact .inr (.inl (A.fresh0 z))
    · simp only at z
      rw [e1] at z
      simp only [sh, List.mem_append] at z
      rcases z with z | z
      · exact .inr (.inr z)
      · exact .inr (.inl (f1 a z))
  · simp only at e2
    rw [e2, e1, List.append_assoc]
  · simp only [sh, List.mem_append] at ha
    rcases ha with ha | ha
    · exact f1 a ha
    · exact A.fresh0 (f2 a ha)
  · refine B.keep a o (A.keep a o h h2 nt) (fun z => ?_) nt
    simp only at z
    rw [e1] at z
    simp only [sh, List.mem_append] at z
    rcases z with z | z
    · exact h2 z
    · rw [f1 a z] at h; cases h
  · obtain ⟨v, h1, h2⟩ := A.dat i d h
    exact ⟨v, h1, h2.mono B.ext ⟨more2, e2.symm⟩⟩
  · obtain ⟨a, vs, h1, h2, h3, h4, h5, h6⟩ := A.mu i xs h
    refine ⟨a, vs, h1, B.keep a _ h2 h5 (nt_lst _), h3.mono B.ext ⟨more2, e2.symm⟩, ?_, nin h2 h5, h6⟩
    cases q : F' a with
    | none => rfl
    | some o =>
      rcases B.new a o q with z | z | z
      · simp only at z; rw [h4] at z; cases z
      · simp only at z; rw [h2] at z; cases z
      · exact absurd z h5
  · obtain ⟨h1, h2, h3, h4⟩ := A.pin q hq
    refine ⟨B.keep _ _ h1 h3 (A.tb.pnt q hq), ?_, nin h1 h3, h4⟩
    cases r : F' q.1 with
    | none => rfl
    | some o =>
      rcases B.new _ o r with z | z | z
      · simp only at z; rw [h2] at z; cases z
      · simp only at z; rw [h1] at z; cases z
      · exact absurd z h3
/-- ahead of a call -/
theorem Ab.enter (A : Ab g b F ρ σ H fr st) : Ab g ⟨H, F, ρ, []⟩ F ρ [] H [] st where
  sub := A.sub
  ext := .refl _
  new := fun a o h => .inl h
  rho := ⟨[], by simp, fun a ha => by simp at ha⟩
  keep := fun a o h _ _ => h
  tb := ⟨A.tb.tabs, A.tb.ntb, fun a ps h => ⟨ps, h⟩, fun q hq => by simp at hq⟩
  fsh := A.fsh
  sto := A.sto
  len := rfl
  dat := fun i d h => by simp at h
  mu := fun i xs h => by simp at h
  apart := fun i j a xs ys h => by simp at h
  pin := fun q hq => by simp at hq
theorem WR.after {w : W} {v : V} (A : Ab g b F ρ σ H fr st) (B : Ab g ⟨H, F, ρ, []⟩ F' ρ' [] H' [] st') (h : WR g ⟨H, F, ρ, []⟩ F' ρ' H' [] [] w v) : WR g b F' ρ' H' σ fr w v := by
  cases w with
  | dat d => exact h
  | own xs =>
    obtain ⟨a, vs, e, h1, h2, h3, h4, h5, _⟩ := h
    refine ⟨a, vs, e, h1, h2, h3, h4, A.fresh0 h5, fun i ys q z => ?_, fun q hq => A.npin h5 hq⟩
    obtain ⟨a', vs', q1, q2, _⟩ := A.mu i ys q
    rw [z] at q1; cases q1
    simp only at h5
    rw [h5] at q2; cases q2
theorem run_fnGA {pins : List (Addr × Obj)} {s : Shared} {args : Args} {us : List Value} {vs : List V} {f : Addr} {fd : FuncData} {ps : List Str} {sp : Sp} (G : Gd g wx k X) (Fn : FnG g (3 * k) f fd ps sp) (bd : BindsTo s fd args (ps.zip us))
    (I : Inv X pins σ H s) (r : Vals vs us) (h : sp vs H Q (WE wx σ)) : wpAny (model X.prog X.w) X.A (PySem.call (.ref f) args.pos args.kw) (EP X pins σ Q) X.xe s := by
  obtain ⟨gP, gw, gK, gmg, gbase, fa, ca, kn, gT⟩ := g
  have e1 := G.hP; have e2 := G.hw; have e3 := G.hK; have e4 := G.hmg; have e5 := G.hbase
  simp only at e1 e2 e3 e4 e5
  subst e1; subst e2; subst e3; subst e4; subst e5
  refine wpAny_call (codeAny_mono (Fn.run X.A X.stack s H args us vs Q (WE wx σ) G.guards G.room I.env0 bd r h) fun r s' hq => ?_)
  cases r with
  | error e => exact passAt G.takes σ pins H s e s' I hq
  | ok fl =>
    cases fl with
    | ret u => exact I.after hq
    | next => exact False.elim hq
    | brk => exact False.elim hq
    | cont => exact False.elim hq
theorem run_fnG {pins : List (Addr × Obj)} {s : Shared} {us : List Value} {vs : List V} {f : Addr} {fd : FuncData} {ps : List Str} {sp : Sp} (G : Gd g wx k X) (Fn : FnG g (3 * k) f fd ps sp) (hb : Binds g.K fd ps [])
    (I : Inv X pins σ H s) (r : Vals vs us) (h : sp vs H Q (WE wx σ)) : wpAny (model X.prog X.w) X.A (PySem.call (.ref f) us) (EP X pins σ Q) X.xe s := by
  obtain ⟨gP, gw, gK, gmg, gbase, fa, ca, kn, gT⟩ := g
  have e1 := G.hP; have e2 := G.hw; have e3 := G.hK; have e4 := G.hmg; have e5 := G.hbase
  simp only at e1 e2 e3 e4 e5
  subst e1; subst e2; subst e3; subst e4; subst e5
  have hl : us.length = ps.length := by rw [← r.length]; exact Fn.len _ _ _ _ h
  have bd := hb s us I.kIn (by rw [List.append_nil]; exact hl)
  rw [List.append_nil] at bd
  refine wpAny_call (codeAny_mono (Fn.run X.A X.stack s H ⟨us, []⟩ us vs Q (WE wx σ) G.guards G.room I.env0 bd r h) fun r s' hq => ?_)
  cases r with
  | error e => exact passAt G.takes σ pins H s e s' I hq
  | ok fl =>
    cases fl with
    | ret u => exact I.after hq
    | next => exact False.elim hq
    | brk => exact False.elim hq
    | cont => exact False.elim hq
theorem noStar_cons {e : Expr} {es : List Expr} (h : noStar e = true) (env : PySem.Env) : starEach (e :: es) env = (false, eval e env) :: starEach es env := by
  cases e <;> first | rfl | cases h
end
end MP

set_option Elab.async false
set_option linter.all false
set_option maxRecDepth 100000
namespace MP
open PySem PySem.Spec L2

structure Cy (g : Gb) (wx : WX) (cf : Nat → List D → Sto → R W) (k : Nat) (X : Cx) (c : Cc) : Prop where
  G : Gd g wx k X
  M : Md g cf k c.fx c.cs c.xc c.tx
  hN : X.N = c.N
  hsc : X.env.scope = c.sc
  kind : c.sc.kind = .function
  hst : ∀ x, c.st x = true → X.fn x = true ∨ c.sc.names.lookup x = some .local
  htr : c.tr = true → X.stack = X.env :: X.outer ∧ X.env.frame = some X.env.locals ∧ X.ex = []
  hlm : c.lm = true → Room (3 * k + 2) X.A ∧ ∃ c0 P, X.env.code = .ref c0 ∧ LamX.TabB X.base X.mg c0 P ∧ (P, X.env.qual ++ "<lambda>") ∈ g.T ∧ ∀ p ∈ g.T, p.1 = P → p.2 = X.env.qual ++ "<lambda>"
def tb : W → Sto → R Bool := fun x s => match x.d with
  | .bl k => .ok k s
  | _ => .bad
def evB (cf : Nat → List D → Sto → R W) (e : E) (fr : Fr) (st : Sto) : R Bool := (ev cf e fr st).bind tb
/-- what is walked: the items one by one -/
structure Walks (g : Gb) (b : Bs) (σ : L2.St) (fr : Fr) (F1 : Hp) (ρ1 : Rho) (J : L2.It) (ds : List D) (ks : List Nat) : Prop where
  go : ∀ i P F ρ σ' H fr' st', i < ds.length → Same F1 F → ρ1 <+: ρ → Ab g { b with P := P } F ρ σ' H fr' st' → (∀ m ∈ ks, fr'[m]? = fr[m]? ∧ σ'[m]? = σ[m]?) → J.go i H
  stop : ∀ i P F ρ σ' H fr' st', ds.length = i → Same F1 F → ρ1 <+: ρ → Ab g { b with P := P } F ρ σ' H fr' st' → (∀ m ∈ ks, fr'[m]? = fr[m]? ∧ σ'[m]? = σ[m]?) → J.stop i H
  yld : ∀ i P F ρ σ' H fr' st' x H', i < ds.length → Same F1 F → ρ1 <+: ρ → Ab g { b with P := P } F ρ σ' H fr' st' → (∀ m ∈ ks, fr'[m]? = fr[m]? ∧ σ'[m]? = σ[m]?) → J.yld i H x H' →
    ∃ d F', ds[i]? = some d ∧ Same F F' ∧ Ab g { b with P := P } F' ρ σ' H' fr' st' ∧ VR g F' ρ d x
def WkR (ks : List Nat) : Rel (List D) L2.It := fun g b F ρ _ σ fr ds J => Walks g b σ fr F ρ J ds ks
abbrev TW (g : Gb) (b : Bs) (wx : WX) (f : Fr → Sto → R (List D)) (ks : List Nat) : TI := T g b wx (WkR ks) f
theorem PI.by {X : Cx} {tg e : Expr} {t' : TI} (h : ∀ σ H Q, t' σ H Q → ∃ t, PI X tg e t ∧ t σ H Q) : PI X tg e t' := ⟨fun pins s σ H Q I q => by
  obtain ⟨t, p, q'⟩ := h σ H Q q
  exact p.run pins s σ H Q I q'⟩
theorem PG.by {X : Cx} {tg : Expr} {t' : TG} (h : ∀ v σ H Q, t' v σ H Q → ∃ t, PG X tg t ∧ t v σ H Q) : PG X tg t' := ⟨fun pins s σ H v u Q I r q => by
  obtain ⟨t, p, q'⟩ := h v σ H Q q
  exact p.run pins s σ H v u Q I r q'⟩

section
variable {g : Gb} {b : Bs} {wx : WX} {cf : Nat → List D → Sto → R W} {k : Nat} {X : Cx} {c : Cc} {F F' : Hp} {ρ ρ' : Rho} {σ : L2.St} {H H' : Hp} {fr : Fr} {st st' : Sto} {Q : VK}

theorem mem_blt {x : Str} (h : x ∈ bltNames) (Y : Cy g wx cf k X c) : X.mg x = none := by rw [Y.G.hmg]; exact Y.M.blt x h
theorem Cy.gl (Y : Cy g wx cf k X c) {x : Str} (h : glB c x = true) : Gl X x ∧ (x == ("__debug__" : Str)) = false ∧ x ≠ "__name__" := by
  unfold glB at h
  simp only [Bool.and_eq_true, Bool.not_eq_true', decide_eq_false_iff_not] at h
  obtain ⟨⟨h1, h2⟩, h3⟩ := h
  refine ⟨?_, h2, h3⟩
  show X.env.scope.names.lookup x = some .globalImplicit
  rw [Y.hsc]
  revert h1
  cases c.sc.names.lookup x with
  | none => intro h; cases h
  | some q => cases q <;> intro h <;> first | rfl | cases h
theorem Cy.vis (Y : Cy g wx cf k X c) {x : Str} {i : Nat} (h : visB c i x = true) : X.N[i]? = some x ∧ Vis X.env.scope x ∧ (x == ("__debug__" : Str)) = false ∧ (x == ("__classdict__" : Str)) = false := by
  unfold visB at h
  simp only [Bool.and_eq_true, Bool.not_eq_true', decide_eq_true_eq] at h
  obtain ⟨⟨⟨h1, h2⟩, h3⟩, h4⟩ := h
  refine ⟨by rw [Y.hN]; exact h1, ?_, h3, h4⟩
  unfold Vis
  rw [Y.hsc]
  revert h2
  cases c.sc.names.lookup x with
  | none => intro h; cases h
  | some q => cases q <;> intro h <;> first | exact .inl rfl | exact .inr (.inl rfl) | exact .inr (.inr rfl) | cases h
theorem Cy.loc (Y : Cy g wx cf k X c) {x : Str} {i : Nat} (h : locB c i x = true) : X.N[i]? = some x ∧ L2.Loc X.env.scope x ∧ (X.fn x = true ∨ X.env.scope.names.lookup x = some .local) := by
  unfold locB at h
  simp only [Bool.and_eq_true, decide_eq_true_eq] at h
  obtain ⟨⟨h1, h2⟩, h3⟩ := h
  refine ⟨by rw [Y.hN]; exact h1, ?_, by rw [Y.hsc]; exact Y.hst x h3⟩
  unfold L2.Loc
  rw [Y.hsc]
  revert h2
  cases c.sc.names.lookup x with
  | none => intro h; cases h
  | some q => cases q <;> intro h <;> first | exact .inl rfl | exact .inr rfl | cases h
theorem getD_some {fr : Fr} {i : Nat} {d : D} (h : getD fr i = some d) : fr[i]? = some (.dat d) := by
  unfold getD at h
  split at h
  · rename_i e; cases h; exact e
  · cases h
theorem getM_some {fr : Fr} {i : Nat} {d : List D} (h : getM fr i = some d) : fr[i]? = some (.mut d) := by
  unfold getM at h
  split at h
  · rename_i e; cases h; exact e
  · cases h
theorem e_var (Y : Cy g wx cf k X c) {i : Nat} {x : Str} {pos : Pos} (h : visB c i x = true) : PE X (.Name x pos) (T g b wx WR (ev cf (.var i))) := PE.by fun σ H Q q => by
  obtain ⟨h1, h2, h3, h4⟩ := Y.vis h
  refine ⟨_, pe_var h1 h2 h3 h4, ?_⟩
  obtain ⟨F, ρ, fr, st, A, p⟩ := q
  simp only [ev] at p
  cases e : getD fr i with
  | none => rw [e] at p; exact p.elim
  | some d =>
    rw [e] at p
    obtain ⟨v, e1, e2⟩ := A.dat i d (getD_some e)
    exact ⟨v, e1, Po.dat (d := d) p A e2⟩
theorem e_con {d : D} {q : Const} {j : Nat} {pos : Pos} (h : conB d q = true) : PE X (.Constant q j pos) (T g b wx WR (ev cf (.con d))) := PE.by fun σ H Q q' => by
  obtain ⟨F, ρ, fr, st, A, p⟩ := q'
  simp only [ev] at p
  cases d <;> cases q <;> first | (cases h; done) | skip
  · exact ⟨_, pe_non, p.dat A .non⟩
  · have e := beq_iff_eq.mp h
    subst e
    exact ⟨_, pe_bl, p.dat A (.bl _)⟩
  · have e := beq_iff_eq.mp h
    subst e
    exact ⟨_, pe_int, p.dat A (.int _)⟩
  · have e := of_decide_eq_true h
    subst e
    exact ⟨_, pe_str, p.dat A (.str _)⟩
theorem sameD_eq : ∀ (n : Nat) (d e : D), sameD n d e = true → d = e
  | n, .non, e, h => by cases e <;> cases n <;> first | rfl | cases h
  | n, .bl a, e, h => by cases e <;> cases n <;> first | (cases h; done) | exact congrArg _ (beq_iff_eq.mp h)
  | n, .int a, e, h => by cases e <;> cases n <;> first | (cases h; done) | exact congrArg _ (beq_iff_eq.mp h)
  | n, .str a, e, h => by cases e <;> cases n <;> first | (cases h; done) | exact congrArg _ (of_decide_eq_true h)
  | 0, .tup xs, e, h => by cases e <;> cases h
  | n + 1, .tup xs, e, h => by
    cases e <;> first | (cases h; done) | skip
    rename_i ys
    simp only [sameD, Bool.and_eq_true, beq_iff_eq] at h
    obtain ⟨h1, h2⟩ := h
    have : ∀ (xs ys : List D), xs.length = ys.length → ((xs.zip ys).all fun p => sameD n p.1 p.2) = true → xs = ys := by
      intro xs
      induction xs with
      | nil => intro ys h _; exact (List.eq_nil_of_length_eq_zero h.symm).symm
      | cons x xs ih =>
        intro ys h h'
        cases ys with
        | nil => simp at h
        | cons y ys =>
          simp only [List.zip_cons_cons, List.all_cons, Bool.and_eq_true] at h'
          rw [sameD_eq n x y h'.1, ih ys (by simpa using h) h'.2]
    rw [this xs ys h1 h2]
  | n, .lst _, e, h => by cases e <;> cases n <;> cases h
  | n, .emp, e, h => by cases e <;> cases n <;> cases h
  | n, .ref _, e, h => by cases e <;> cases n <;> cases h
  | n, .fn _, e, h => by cases e <;> cases n <;> cases h
  | n, .scr _, e, h => by cases e <;> cases n <;> cases h
  | n, .err _ _, e, h => by cases e <;> cases n <;> cases h
theorem e_glo (Y : Cy g wx cf k X c) {x : Str} {d d' : D} {pos : Pos} (h : glB c x = true) (h1 : c.cs x = some d') (h2 : sameD 5 d d' = true) : PE X (.Name x pos) (T g b wx WR (ev cf (.glo x d))) := PE.by fun σ H Q q' => by
  obtain ⟨F, ρ, fr, st, A, p⟩ := q'
  have e := sameD_eq 5 d d' h2
  subst e
  obtain ⟨v, u, m1, m2, m3⟩ := Y.M.con x d h1
  obtain ⟨k1, k2, k3⟩ := Y.gl h
  exact ⟨_, pe_glob k1 (by rw [Y.G.hmg]; exact m1) m2 k2, Po.dat (d := d) p A (m3 F ρ)⟩
theorem e_tup {es : List Expr} {k0 : Nat} {pos : Pos} {a : A} (h : PA X es (T g b wx LR (evA cf a))) : PE X (.Tuple es k0 pos) (T g b wx WR (ev cf (.tup a))) := PE.by fun σ H Q q' => by
  obtain ⟨F, ρ, fr, st, A, p⟩ := q'
  simp only [ev] at p
  refine ⟨_, pe_tup h, F, ρ, fr, st, A, p.seq fun ds s1 F1 ρ1 H1 vs e _ _ A1 r p1 => ?_⟩
  split at p1
  · rename_i hz
    exact ⟨by rw [← VRs.length r]; exact hz, p1.tup A1 r⟩
  · exact p1.elim
theorem e_lst {es : List Expr} {pos : Pos} {a : A} (h : PA X es (T g b wx LR (evA cf a))) : PE X (.List es pos) (T g b wx WR (ev cf (.lst a))) := PE.by fun σ H Q q' => by
  obtain ⟨F, ρ, fr, st, A, p⟩ := q'
  simp only [ev] at p
  refine ⟨_, pe_lst h, F, ρ, fr, st, A, p.seq fun ds s1 F1 ρ1 H1 vs e _ _ A1 r p1 => ?_⟩
  split at p1
  · rename_i hz
    exact ⟨by rw [← VRs.length r]; exact hz, p1.lst A1 r⟩
  · exact p1.elim
/-- two parts -/
theorem two {a b' : E} {Q : VK} {r : V → V → Hp → Prop} {k2 : W → W → Sto → R W} (p : Po g b wx WR ((ev cf a fr st).bind fun x s1 => (ev cf b' fr s1).bind fun y s2 => k2 x y s2) F ρ σ fr Q) (A : Ab g b F ρ σ H fr st)
    (h : ∀ x y s2 F2 ρ2 H2 v u, Ab g b F2 ρ2 σ H2 fr s2 → VR g F2 ρ2 x.d v → VR g F2 ρ2 y.d u → Po g b wx WR (k2 x y s2) F2 ρ2 σ fr Q → r v u H2) :
    T g b wx DR (ev cf a) σ H fun v H1 => T g b wx DR (ev cf b') σ H1 fun u H2 => r v u H2 :=
  ⟨F, ρ, fr, st, A, p.seq fun x s1 F1 ρ1 H1 v _ _ _ A1 rv p1 => ⟨F1, ρ1, fr, s1, A1, p1.seq fun y s2 F2 ρ2 H2 u _ S2 P2 A2 ru p2 => h x y s2 F2 ρ2 H2 v u A2 (VR.mono S2 P2 rv) ru p2⟩⟩
theorem one {α : Type} {a : E} {δ : Type} {R2 : Rel α δ} {Q : δ → Hp → Prop} {r : V → Hp → Prop} {k2 : W → Sto → R α} (p : Po g b wx R2 ((ev cf a fr st).bind k2) F ρ σ fr Q) (A : Ab g b F ρ σ H fr st)
    (h : ∀ x s2 F2 ρ2 H2 v, Ab g b F2 ρ2 σ H2 fr s2 → VR g F2 ρ2 x.d v → Po g b wx R2 (k2 x s2) F2 ρ2 σ fr Q → r v H2) : T g b wx DR (ev cf a) σ H r :=
  ⟨F, ρ, fr, st, A, p.seq fun x s1 F1 ρ1 H1 v _ _ _ A1 rv p1 => h x s1 F1 ρ1 H1 v A1 rv p1⟩
def rAny (X : Cx) (f : Value → Value → Sem Value) : R2 := fun v u H Q => ∃ r, OpR X f r ∧ r v u H Q
theorem opAny {f : Value → Value → Sem Value} : OpR X f (rAny X f) := fun pins s σ H x y v u Q I rx ry ⟨r, h1, h2⟩ => h1 pins s σ H x y v u Q I rx ry h2
def cAny (X : Cx) (f : Value) : List V → Hp → VK → Prop := fun vs H Q => ∃ r, CallR X f r ∧ r vs H Q
theorem callAny' {f : Value} : CallR X f (cAny X f) := fun pins s σ H xs us Q I r ⟨r', h1, h2⟩ => h1 pins s σ H xs us Q I r h2
def iAny (X : Cx) : R2 := fun v u H Q => ∃ r, IxR X r ∧ r v u H Q
theorem ixAny : IxR X (iAny X) := fun value slice pins s σ H x y v u Q I rx ry ⟨r, h1, h2⟩ hs => h1 value slice pins s σ H x y v u Q I rx ry h2 hs
def sAny (X : Cx) : V → Option Int → Option Int → Hp → VK → Prop := fun v l h H Q => ∃ r, SlR X r ∧ r v l h H Q
theorem slAny : SlR X (sAny X) := fun pins s σ H x v vl vu lo hi sl Q I rx hs pl pu ⟨r, h1, h2⟩ => h1 pins s σ H x v vl vu lo hi sl Q I rx hs pl pu h2
theorem e_bin (Y : Cy g wx cf k X c) {o : Bop} {a b' : E} {x y : Expr} {pos : Pos} (hx : PE X x (T g b wx DR (ev cf a))) (hy : PE X y (T g b wx DR (ev cf b'))) : PE X (.BinOp x (opOf o) y pos) (T g b wx WR (ev cf (.bin o a b'))) := PE.by fun σ H Q q' => by
  obtain ⟨F, ρ, fr, st, A, p⟩ := q'
  simp only [ev] at p
  exact ⟨_, pe_op opAny hx hy, two p A fun x y s2 F2 ρ2 H2 v u A2 rv ru p2 => bin_ok Y.G o A2 rv ru p2⟩
theorem noSet_marks {o : CmpOp} {e : Expr} (h : noSet e = true) : behindInMarks o e = false := by
  cases e <;> first | rfl | cases h
theorem opt_map_bl {o : Option Bool} {Q : VK} (p : Po g b wx WR (opt (o.map fun k => W.dat (.bl k)) st) F ρ σ fr Q) : ∃ k, o = some k ∧ Po g b wx WR (.ok (.dat (.bl k)) st) F ρ σ fr Q := by
  cases o with
  | none => exact p.elim
  | some k => exact ⟨k, rfl, p⟩
theorem e_cmp (Y : Cy g wx cf k X c) {o : Cop} {a b' : E} {x y : Expr} {pos : Pos} (hx : PE X x (T g b wx DR (ev cf a))) (hy : PE X y (T g b wx DR (ev cf b'))) (hs : noSet y = true) : PE X (.Compare x [cpOf o] [y] pos) (T g b wx WR (ev cf (.cmp o a b'))) := PE.by fun σ H Q q' => by
  obtain ⟨F, ρ, fr, st, A, p⟩ := q'
  simp only [ev] at p
  refine ⟨_, pe_cmpR opAny hx hy (noSet_marks hs), two p A fun x y s2 F2 ρ2 H2 v u A2 rv ru p2 => ?_⟩
  obtain ⟨k, e, p3⟩ := opt_map_bl p2
  exact cmp_ok Y.G o A2 rv ru e (p3.dat A2 (.bl _))
theorem e_chain (Y : Cy g wx cf k X c) {o o' : Cop} {a b' d : E} {x y z : Expr} {pos : Pos} (hx : PE X x (T g b wx DR (ev cf a))) (hy : PE X y (T g b wx DR (ev cf b'))) (hz : PE X z (T g b wx DR (ev cf d))) (hs : noSet y = true) (hs' : noSet z = true) :
    PE X (.Compare x [cpOf o, cpOf o'] [y, z] pos) (T g b wx WR (ev cf (.chain o o' a b' d))) := PE.by fun σ H Q q' => by
  obtain ⟨F, ρ, fr, st, A, p⟩ := q'
  simp only [ev] at p
  refine ⟨_, pe_chain opAny opAny hx hy hz (noSet_marks hs'), ?_⟩
  refine ⟨F, ρ, fr, st, A, p.seq fun x s1 F1 ρ1 H1 v _ _ _ A1 rv p1 => ⟨F1, ρ1, fr, s1, A1, p1.seq fun y s2 F2 ρ2 H2 u _ S2 P2 A2 ru p2 => ?_⟩⟩
  have rv2 := VR.mono S2 P2 rv
  cases e : cmpD o x.d y.d with
  | none => rw [e] at p2; exact p2.elim
  | some t =>
    rw [e] at p2
    refine cmp_ok Y.G o A2 rv2 ru e ?_
    refine ⟨t, rfl, ?_⟩
    cases t with
    | true =>
      rw [if_pos rfl]
      refine ⟨F2, ρ2, fr, s2, A2, Po.seq p2 fun z s3 F3 ρ3 H3 w _ S3 P3 A3 rw' p3 => ?_⟩
      obtain ⟨k, e', p4⟩ := opt_map_bl p3
      exact cmp_ok Y.G o' A3 (VR.mono S3 P3 ru) rw' e' (p4.dat A3 (.bl _))
    | false =>
      rw [if_neg Bool.false_ne_true]
      exact Po.dat (d := .bl false) p2 A2 (.bl _)
theorem e_neg {a : E} {x : Expr} {pos : Pos} (hx : PE X x (T g b wx DR (ev cf a))) : PE X (.UnaryOp .USub x pos) (T g b wx WR (ev cf (.neg a))) := PE.by fun σ H Q q' => by
  obtain ⟨F, ρ, fr, st, A, p⟩ := q'
  simp only [ev] at p
  refine ⟨_, pe_un un_neg hx, one p A fun x s2 F2 ρ2 H2 v A2 rv p2 => ?_⟩
  split at p2
  · rename_i e
    rw [e] at rv
    cases rv
    exact ⟨_, rfl, p2.dat A2 (.int _)⟩
  · exact p2.elim
theorem e_not {a : E} {x : Expr} {pos : Pos} (hx : PE X x (T g b wx DR (ev cf a))) : PE X (.UnaryOp .Not x pos) (T g b wx WR (ev cf (.not a))) := PE.by fun σ H Q q' => by
  obtain ⟨F, ρ, fr, st, A, p⟩ := q'
  simp only [ev] at p
  refine ⟨_, pe_not hx, one p A fun x s2 F2 ρ2 H2 v A2 rv p2 => ?_⟩
  split at p2
  · rename_i e
    rw [e] at rv
    cases rv
    exact ⟨_, rfl, p2.dat A2 (.bl _)⟩
  · exact p2.elim
theorem T.of {α β : Type} {Rl : Rel α β} {f : Fr → Sto → R α} {Q : β → Hp → Prop} (A : Ab g b F ρ σ H fr st) (p : Po g b wx Rl (f fr st) F ρ σ fr Q) : T g b wx Rl f σ H Q := ⟨F, ρ, fr, st, A, p⟩
theorem e_and {a b' : E} {x y : Expr} {r : List Expr} {pos : Pos} (hx : PE X x (T g b wx DR (ev cf a))) (hy : PE X (.BoolOp .And (y :: r) pos) (T g b wx WR (ev cf b'))) : PE X (.BoolOp .And (x :: y :: r) pos) (T g b wx WR (ev cf (.and a b'))) := PE.by fun σ H Q q' => by
  obtain ⟨F, ρ, fr, st, A, p⟩ := q'
  simp only [ev] at p
  refine ⟨_, pe_and hx hy, one p A fun x s2 F2 ρ2 H2 v A2 rv p2 => ?_⟩
  split at p2
  · rename_i e
    rw [e] at rv; cases rv
    exact ⟨_, rfl, by rw [if_pos rfl]; exact .of A2 p2⟩
  · rename_i e
    rw [e] at rv; cases rv
    exact ⟨_, rfl, by rw [if_neg Bool.false_ne_true]; exact p2.dat A2 (.bl _)⟩
  · exact p2.elim
theorem e_or {a b' : E} {x y : Expr} {r : List Expr} {pos : Pos} (hx : PE X x (T g b wx DR (ev cf a))) (hy : PE X (.BoolOp .Or (y :: r) pos) (T g b wx WR (ev cf b'))) : PE X (.BoolOp .Or (x :: y :: r) pos) (T g b wx WR (ev cf (.or a b'))) := PE.by fun σ H Q q' => by
  obtain ⟨F, ρ, fr, st, A, p⟩ := q'
  simp only [ev] at p
  refine ⟨_, pe_or hx hy, one p A fun x s2 F2 ρ2 H2 v A2 rv p2 => ?_⟩
  split at p2
  · rename_i e
    rw [e] at rv; cases rv
    exact ⟨_, rfl, by rw [if_pos rfl]; exact p2.dat A2 (.bl _)⟩
  · rename_i e
    rw [e] at rv; cases rv
    exact ⟨_, rfl, by rw [if_neg Bool.false_ne_true]; exact .of A2 p2⟩
  · exact p2.elim
theorem e_ite {t a b' : E} {z x y : Expr} {pos : Pos} (hz : PT X z (T g b wx BR (evB cf t))) (hx : PE X x (T g b wx WR (ev cf a))) (hy : PE X y (T g b wx WR (ev cf b'))) : PE X (.IfExp z x y pos) (T g b wx WR (ev cf (.ite t a b'))) := PE.by fun σ H Q q' => by
  obtain ⟨F, ρ, fr, st, A, p⟩ := q'
  simp only [ev] at p
  refine ⟨_, pe_ifExp hz hx hy, F, ρ, fr, st, A, ?_⟩
  show Po g b wx BR ((ev cf t fr st).bind tb) F ρ σ fr _
  cases e : ev cf t fr st with
  | bad => rw [e] at p; exact p.elim
  | exc c' p' s' => rw [e] at p; exact p
  | ok w s1 =>
    rw [e] at p
    simp only [R.bind] at p ⊢
    unfold tb
    split at p
    · rename_i e2
      simp only [e2]
      intro F1 ρ1 H1 k S P A1 r
      cases r
      rw [if_pos rfl]
      exact .of A1 (p.mono S P)
    · rename_i e2
      simp only [e2]
      intro F1 ρ1 H1 k S P A1 r
      cases r
      rw [if_neg Bool.false_ne_true]
      exact .of A1 (p.mono S P)
    · exact p.elim
theorem plain_ix {e : Expr} (h : noSlice e = true) : PlainIx e := by
  intro o i
  cases e <;> first | rfl | cases h
theorem e_idx (Y : Cy g wx cf k X c) {a b' : E} {x y : Expr} {pos : Pos} (hx : PE X x (T g b wx DR (ev cf a))) (hy : PE X y (T g b wx DR (ev cf b'))) (hs : noSlice y = true) : PE X (.Subscript x y pos) (T g b wx WR (ev cf (.idx a b'))) := PE.by fun σ H Q q' => by
  obtain ⟨F, ρ, fr, st, A, p⟩ := q'
  simp only [ev] at p
  refine ⟨_, pe_ix ixAny hx hy (plain_ix hs), two p A fun x y s2 F2 ρ2 H2 v u A2 rv ru p2 => ?_⟩
  split at p2
  · rename_i xs i e1 e2
    rw [e2] at ru; cases ru
    cases e : atD xs i with
    | none => rw [e] at p2; exact p2.elim
    | some d =>
      rw [e] at p2
      exact idx_ok Y.G A2 e1 rv e fun v r => Po.dat (d := d) p2 A2 r
  · exact p2.elim
theorem e_idxM (Y : Cy g wx cf k X c) {m : Nat} {b' : E} {x : Str} {px : Pos} {y : Expr} {pos : Pos} (h : visB c m x = true) (hy : PE X y (T g b wx DR (ev cf b'))) (hs : noSlice y = true) : PE X (.Subscript (.Name x px) y pos) (T g b wx WR (ev cf (.idxM m b'))) := PE.by fun σ H Q q' => by
  obtain ⟨F, ρ, fr, st, A, p⟩ := q'
  obtain ⟨h1, h2, h3, h4⟩ := Y.vis h
  simp only [ev] at p
  refine ⟨_, pe_ix ix_list (pe_var h1 h2 h3 h4) hy (plain_ix hs), ?_⟩
  cases e0 : getM fr m with
  | none => rw [e0] at p; exact p.elim
  | some xs =>
    rw [e0] at p
    obtain ⟨a, vs, q1, q2, _⟩ := A.mu m xs (getM_some e0)
    refine ⟨.ref a, q1, one p A fun y s2 F2 ρ2 H2 u A2 ru p2 => ?_⟩
    split at p2
    · rename_i i e2
      rw [e2] at ru; cases ru
      obtain ⟨a2, vs2, q1', q2', q3', _⟩ := A2.mu m xs (getM_some e0)
      rw [q1] at q1'; cases q1'
      cases e : atD xs i with
      | none => rw [e] at p2; exact p2.elim
      | some d =>
        rw [e] at p2
        obtain ⟨z, z1, z2⟩ := atD_ok q3' e
        exact ⟨a, vs2, i, z, rfl, rfl, .inl (.inl q2'), z1, Po.dat (d := d) p2 A2 z2⟩
    · exact p2.elim
theorem e_lenM (Y : Cy g wx cf k X c) {m : Nat} {x f : Str} {px pf : Pos} {pos : Pos} (hf : f = "len") (hg : glB c f = true) (h : visB c m x = true) : PE X (.Call (.Name f pf) [.Name x px] [] pos) (T g b wx WR (ev cf (.lenM m))) := PE.by fun σ H Q q' => by
  obtain ⟨F, ρ, fr, st, A, p⟩ := q'
  obtain ⟨h1, h2, h3, h4⟩ := Y.vis h
  obtain ⟨k1, k2, k3⟩ := Y.gl hg
  subst hf
  simp only [ev] at p
  refine ⟨_, pe_callB call_len k1 (mem_blt (by simp [bltNames]) Y) boot_len (pa_cons (pe_var h1 h2 h3 h4) pa_nil), ?_⟩
  cases e0 : getM fr m with
  | none => rw [e0] at p; exact p.elim
  | some xs =>
    rw [e0] at p
    obtain ⟨a, vs, q1, q2, q3, _⟩ := A.mu m xs (getM_some e0)
    exact ⟨.ref a, q1, _, _, rfl, .inl ⟨vs, .inl (.inl q2), q3.length⟩, Po.dat (d := .int xs.length) p A (.int _)⟩
theorem e_slc (Y : Cy g wx cf k X c) {a : E} {lo hi : O} {x : Expr} {lo' hi' : Option Expr} {p2 pos : Pos} (hx : PE X x (T g b wx DR (ev cf a))) (hl : PO X lo' (T g b wx IR (evO cf lo))) (hh : PO X hi' (T g b wx IR (evO cf hi))) :
    PE X (.Subscript x (.Slice lo' hi' none p2) pos) (T g b wx WR (ev cf (.slc a lo hi))) := PE.by fun σ H Q q' => by
  obtain ⟨F, ρ, fr, st, A, p⟩ := q'
  simp only [ev] at p
  refine ⟨_, pe_slice slAny hx hl hh, ?_⟩
  refine ⟨F, ρ, fr, st, A, p.seq fun x s1 F1 ρ1 H1 v _ _ _ A1 rv p1 => ⟨F1, ρ1, fr, s1, A1, p1.seq fun l s2 F2 ρ2 H2 l' _ S2 P2 A2 rl p2 => ⟨F2, ρ2, fr, s2, A2, p2.seq fun h s3 F3 ρ3 H3 h' _ S3 P3 A3 rh p3 => ?_⟩⟩⟩
  cases rl; cases rh
  exact slc_ok Y.G A3 (VR.mono S3 P3 (VR.mono S2 P2 rv)) l h p3
theorem e_b1 (Y : Cy g wx cf k X c) {f : B1} {a : E} {x : Expr} {y : Str} {py pos : Pos} (hf : y = b1N f) (hg : glB c y = true) (hs : noStar x = true) (hx : PE X x (T g b wx DR (ev cf a))) : PE X (.Call (.Name y py) [x] [] pos) (T g b wx WR (ev cf (.b1 f a))) := PE.by fun σ H Q q' => by
  obtain ⟨F, ρ, fr, st, A, p⟩ := q'
  obtain ⟨k1, k2, k3⟩ := Y.gl hg
  have k4 : X.mg y = none := mem_blt (by subst hf; cases f <;> simp [bltNames, b1N]) Y
  have k5 := b1_boot f
  rw [← hf] at k5
  simp only [ev] at p
  have fin : tCB (cAny X (b1V f)) (tCons (T g b wx DR (ev cf a)) tNil) σ H Q := one p A fun x s2 F2 ρ2 H2 v A2 rv p2 => b1_ok Y.G f A2 rv p2
  have ha : PA X [x] (tCons (T g b wx DR (ev cf a)) tNil) := pa_cons hx pa_nil (noStar_cons hs _)
  have ty : (∃ id, b1V f = .builtin id) ∨ ∃ T, b1V f = .type T := by
    cases f <;> first | exact .inl ⟨_, rfl⟩ | exact .inr ⟨_, rfl⟩
  rcases ty with ⟨id, e⟩ | ⟨T, e⟩
  · rw [e] at k5 fin
    exact ⟨_, pe_callB callAny' k1 k4 k5 ha k3 k2 (noStar_cons hs _), fin⟩
  · rw [e] at k5 fin
    exact ⟨_, pe_callTy callAny' k1 k4 k5 ha k3 k2 (noStar_cons hs _), fin⟩
theorem e_b2 (Y : Cy g wx cf k X c) {f : B2} {a b' : E} {x z : Expr} {y : Str} {py pos : Pos} (hf : y = b2N f) (hg : glB c y = true) (hs : noStar x = true) (hs' : noStar z = true) (hx : PE X x (T g b wx DR (ev cf a))) (hz : PE X z (T g b wx DR (ev cf b'))) :
    PE X (.Call (.Name y py) [x, z] [] pos) (T g b wx WR (ev cf (.b2 f a b'))) := PE.by fun σ H Q q' => by
  obtain ⟨F, ρ, fr, st, A, p⟩ := q'
  obtain ⟨k1, k2, k3⟩ := Y.gl hg
  have k4 : X.mg y = none := mem_blt (by subst hf; cases f <;> simp [bltNames, b2N]) Y
  have k5 := b2_boot f
  rw [← hf] at k5
  simp only [ev] at p
  have fin : tCB (cAny X (b2V f)) (tCons (T g b wx DR (ev cf a)) (tCons (T g b wx DR (ev cf b')) tNil)) σ H Q := two p A fun x y s2 F2 ρ2 H2 v u A2 rv ru p2 => b2_ok Y.G f A2 rv ru p2
  have ha : PA X [x, z] (tCons (T g b wx DR (ev cf a)) (tCons (T g b wx DR (ev cf b')) tNil)) := pa_cons hx (pa_cons hz pa_nil (noStar_cons hs' _)) (noStar_cons hs _)
  have ty : ∃ id, b2V f = .builtin id := by cases f <;> exact ⟨_, rfl⟩
  obtain ⟨id, e⟩ := ty
  rw [e] at k5 fin
  exact ⟨_, pe_callB callAny' k1 k4 k5 ha k3 k2 (noStar_cons hs _) (by rw [noStar_cons hs']; rfl), fin⟩
theorem e_isi (Y : Cy g wx cf k X c) {t : Ty} {a : E} {x : Expr} {y z : Str} {py pz pos : Pos} (hf : y = "isinstance") (hg : glB c y = true) (hz : z = tyN t) (hgz : glB c z = true) (hs : noStar x = true) (hx : PE X x (T g b wx DR (ev cf a))) :
    PE X (.Call (.Name y py) [x, .Name z pz] [] pos) (T g b wx WR (ev cf (.isi a t))) := PE.by fun σ H Q q' => by
  obtain ⟨F, ρ, fr, st, A, p⟩ := q'
  obtain ⟨k1, k2, k3⟩ := Y.gl hg
  obtain ⟨l1, l2, l3⟩ := Y.gl hgz
  have k4 : X.mg y = none := mem_blt (by subst hf; simp [bltNames]) Y
  have l4 : X.mg z = none := mem_blt (by subst hz; cases t <;> simp [bltNames, tyN]) Y
  have l5 := ty_boot t
  rw [← hz] at l5
  subst hf
  simp only [ev] at p
  refine ⟨_, pe_callB call_isi k1 k4 PyProof.Rows.boot_isinstance (pa_cons hx (pa_cons (pe_bltn (v := .ty (tyS t)) l1 l4 l5 rfl l3 l2) pa_nil) (noStar_cons hs _)) k3 k2 (noStar_cons hs _), one p A fun x s2 F2 ρ2 H2 v A2 rv p2 => ?_⟩
  obtain ⟨q, e, p3⟩ := opt_map_bl p2
  exact isi_ok Y.G t A2 rv e (p3.dat A2 (.bl _))
theorem backTo_any (pos : Pos) : ∀ l : List (Bool × Sem Value), (backTo pos l).any (·.1) = l.any (·.1)
  | [] => rfl
  | x :: l => by
    show (_ || (backTo pos l).any (·.1)) = _
    rw [backTo_any pos l]
    rfl
theorem e_call (Y : Cy g wx cf k X c) {f : Nat} {x : Str} {es : A} {e' : Expr} {es' : List Expr} {px pos : Pos} (hg : glB c x = true) (hf : c.fx x = some f) (hk : kwId f = none) (hs : noStar e' = true) (hpl : (starEach es' X.env).any (·.1) = false) (ha : PA X (e' :: es') (T g b wx LR (evA cf es))) :
    PE X (.Call (.Name x px) (e' :: es') [] pos) (T g b wx WR (ev cf (.call f x es))) := ⟨fun pins s σ H Q I q' => by
  obtain ⟨F, ρ, fr, st, A, p⟩ := q'
  obtain ⟨k1, k2, k3⟩ := Y.gl hg
  obtain ⟨fd, ps, m1, m2, m3, m4, m5⟩ := Y.M.fn x f hf
  rw [hk] at m3
  simp only [ev] at p
  have hpl' : (backTo pos (starEach es' X.env)).any (·.1) = false := by rw [backTo_any]; exact hpl
  refine wpAny_Call_Name_kw (ld_glob I k1 (by rw [Y.G.hmg]; exact m1) ?_ k2)
  refine PySem.W.callWith_K (h₀ := X.base) I.ok.mod.kin (by rw [Y.G.hK]; exact m2) (thn (ha.run pos pins s σ H (fun vs H1 => spOf g (cf f) ps.length vs H1 Q (WE wx σ)) I ⟨F, ρ, fr, st, A, p.seq fun ds s1 F1 ρ1 H1 vs _ _ _ A1 rv p1 => ?_⟩) fun us s1 ⟨vs, H1, I1, r, q⟩ => ⟨I1.kIn, ?_⟩) (noStar_cons hs _) hpl'
  · refine ⟨F1, ρ1, ds, s1, ?_, A1.enter, rv, ?_⟩
    · rw [← VRs.length rv]
      refine m5 ds s1 fun z => ?_
      rw [z] at p1
      exact p1
    · cases e : cf f ds s1 with
      | bad => rw [e] at p1; exact p1.elim
      | ok w s2 =>
        rw [e] at p1
        exact fun F2 ρ2 H2 v S P B r => p1 F2 ρ2 H2 v S P (A1.after B) (r.after A1 B)
      | exc c' p' s2 =>
        rw [e] at p1
        exact fun F2 ρ2 H2 cls d S P B r => p1 F2 ρ2 H2 cls d S P (A1.after B) r
  · exact run_fnG Y.G m4 m3 I1 r q⟩
theorem e_call0 (Y : Cy g wx cf k X c) {f : Nat} {x : Str} {px pos : Pos} (hg : glB c x = true) (hf : c.fx x = some f) (hk : kwId f = none) :
    PE X (.Call (.Name x px) [] [] pos) (T g b wx WR (ev cf (.call0 f x))) := ⟨fun pins s σ H Q I q' => by
  obtain ⟨F, ρ, fr, st, A, p⟩ := q'
  obtain ⟨k1, k2, k3⟩ := Y.gl hg
  obtain ⟨fd, ps, m1, m2, m3, m4, m5⟩ := Y.M.fn x f hf
  rw [hk] at m3
  simp only [ev] at p
  refine wpAny_Call_Name_kw (ld_glob I k1 (by rw [Y.G.hmg]; exact m1) ?_ k2)
  refine PySem.W.callWith_K0 (K := X.K) I.kIn (by rw [Y.G.hK]; exact m2) ?_
  refine run_fnG Y.G m4 m3 I .nil ?_
  refine ⟨F, ρ, [], st, ?_, A.enter, .nil, ?_⟩
  · refine m5 [] st fun z => ?_
    rw [z] at p
    exact p
  · cases e : cf f [] st with
    | bad => rw [e] at p; exact p.elim
    | ok w s2 =>
      rw [e] at p
      exact fun F2 ρ2 H2 v S P B r => p F2 ρ2 H2 v S P (A.after B) (r.after A B)
    | exc c' p' s2 =>
      rw [e] at p
      exact fun F2 ρ2 H2 cls d S P B r => p F2 ρ2 H2 cls d S P (A.after B) r⟩
theorem e_calld (Y : Cy g wx cf k X c) {f : Nat} {x : Str} {es : A} {e' : Expr} {es' : List Expr} {px pos : Pos} (hg : glB c x = true) (hf : c.fx x = some f) (hk : (kwId f).isSome = true) (hs : noStar e' = true) (hpl : (starEach es' X.env).any (·.1) = false) (ha : PA X (e' :: es') (T g b wx LR (evA cf es))) :
    PE X (.Call (.Name x px) (e' :: es') [] pos) (T g b wx WR (ev cf (.calld f x es))) := ⟨fun pins s σ H Q I q' => by
  obtain ⟨F, ρ, fr, st, A, p⟩ := q'
  obtain ⟨k1, k2, k3⟩ := Y.gl hg
  obtain ⟨fd, ps, m1, m2, m3, m4, m5⟩ := Y.M.fn x f hf
  obtain ⟨⟨z, i⟩, ek⟩ := Option.isSome_iff_exists.mp hk
  rw [ek] at m3
  obtain ⟨_, u, ru, hb⟩ := m3
  simp only [ev, ek] at p
  have hpl' : (backTo pos (starEach es' X.env)).any (·.1) = false := by rw [backTo_any]; exact hpl
  refine wpAny_Call_Name_kw (ld_glob I k1 (by rw [Y.G.hmg]; exact m1) ?_ k2)
  refine PySem.W.callWith_K (h₀ := X.base) I.ok.mod.kin (by rw [Y.G.hK]; exact m2) (thn (ha.run pos pins s σ H (fun vs H1 => vs.length + 1 = ps.length ∧ spOf g (cf f) ps.length (vs ++ [.int i]) H1 Q (WE wx σ)) I ⟨F, ρ, fr, st, A, p.seq fun ds s1 F1 ρ1 H1 vs _ _ _ A1 rv p1 => ?_⟩) fun us s1 ⟨vs, H1, I1, r, hl, q⟩ => ⟨I1.kIn, ?_⟩) (noStar_cons hs _) hpl'
  · have hl : (ds ++ [D.int i]).length = ps.length := m5 _ s1 fun z => by rw [z] at p1; exact p1
    have hl2 : vs.length + 1 = ps.length := by rw [← VRs.length rv, ← hl, List.length_append]; rfl
    refine ⟨hl2, F1, ρ1, ds ++ [.int i], s1, by rw [List.length_append]; exact hl2, A1.enter, rv.append (.one (.int i)), ?_⟩
    · cases e : cf f (ds ++ [.int i]) s1 with
      | bad => rw [e] at p1; exact p1.elim
      | ok w s2 =>
        rw [e] at p1
        exact fun F2 ρ2 H2 v S P B r => p1 F2 ρ2 H2 v S P (A1.after B) (r.after A1 B)
      | exc c' p' s2 =>
        rw [e] at p1
        exact fun F2 ρ2 H2 cls d S P B r => p1 F2 ρ2 H2 cls d S P (A1.after B) r
  · have kin : g.K.In s1.heap := by rw [← Y.G.hK]; exact I1.kIn
    exact run_fnGA (args := ⟨us, []⟩) Y.G m4 (hb s1 us kin (by rw [List.length_append, ← r.length]; exact hl)) I1 (r.append (.cons ru .nil)) q⟩
theorem e_callk (Y : Cy g wx cf k X c) {f : Nat} {x z : Str} {es : A} {e0 : E} {e' : Expr} {es' : List Expr} {ek : Expr} {px pos kpos : Pos} (hg : glB c x = true) (hf : c.fx x = some f) (hk : (kwId f).map (·.1) = some z) (hs : noStar e' = true) (hpl : (starEach es' X.env).any (·.1) = false) (ha : PA X (e' :: es') (T g b wx LR (evA cf es))) (he : PE X ek (T g b wx DR (ev cf e0))) :
    PE X (.Call (.Name x px) (e' :: es') [⟨some z, ek, kpos⟩] pos) (T g b wx WR (ev cf (.callk f x es e0))) := ⟨fun pins s σ H Q I q' => by
  obtain ⟨F, ρ, fr, st, A, p⟩ := q'
  obtain ⟨k1, k2, k3⟩ := Y.gl hg
  obtain ⟨fd, ps, m1, m2, m3, m4, m5⟩ := Y.M.fn x f hf
  obtain ⟨⟨z', i⟩, e1, e2⟩ := Option.map_eq_some_iff.mp hk
  have e2 : z' = z := e2
  subst e2
  rw [e1] at m3
  obtain ⟨⟨n, hn, kb⟩, _⟩ := m3
  simp only [ev] at p
  have hpl' : ((backTo pos (starEach (e' :: es') X.env)).any (·.1) || (backToKw pos (keywordEach [⟨some z', ek, kpos⟩] X.env)).any (·.1.isNone)) = false := by
    rw [backTo_any, noStar_cons hs]
    show ((false || (starEach es' X.env).any (·.1)) || (false || false)) = false
    rw [hpl]; rfl
  refine wpAny_Call_Name_kw (ld_glob I k1 (by rw [Y.G.hmg]; exact m1) ?_ k2)
  refine PySem.W.callWith_KW (h₀ := X.base) I.ok.mod.kin (by rw [Y.G.hK]; exact m2) rfl (thn (ha.run pos pins s σ H (fun vs H1 => tCons (T g b wx DR (ev cf e0)) tNil σ H1 fun zs H2 => zs.length = 1 ∧ vs.length = n ∧ spOf g (cf f) ps.length (vs ++ zs) H2 Q (WE wx σ)) I ⟨F, ρ, fr, st, A, p.seq fun ds s1 F1 ρ1 H1 vs _ _ _ A1 rv p1 => ?_⟩) fun us s1 ⟨vs, H1, I1, r, q⟩ => ?_) hpl' (noStar_cons hs _)
  · refine ⟨F1, ρ1, fr, s1, A1, p1.seq fun w s2 F2 ρ2 H2 v _ S2 P2 A2 rv2 p2 => ?_⟩
    have hl : (ds ++ [w.d]).length = ps.length := m5 _ s2 fun z => by rw [z] at p2; exact p2
    have hl2 : vs.length + 1 = ps.length := by rw [← VRs.length rv, ← hl, List.length_append]; rfl
    refine ⟨rfl, by omega, F2, ρ2, ds ++ [w.d], s2, by rw [List.length_append]; exact hl2, A2.enter, (rv.mono S2 P2).append (.one rv2), ?_⟩
    cases e : cf f (ds ++ [w.d]) s2 with
    | bad => rw [e] at p2; exact p2.elim
    | ok w s2 =>
      rw [e] at p2
      exact fun F2 ρ2 H2 v S P B r => p2 F2 ρ2 H2 v S P (A2.after B) (r.after A2 B)
    | exc c' p' s2 =>
      rw [e] at p2
      exact fun F2 ρ2 H2 cls d S P B r => p2 F2 ρ2 H2 cls d S P (A2.after B) r
  · refine thn ((pk_cons (nm := some z') (kpos := kpos) he pk_nil).run pos pins s1 σ H1 _ I1 q) fun ws s2 ⟨zs, H2, I2, rz, l1, l2, q2⟩ => ⟨I2.kIn, ?_⟩
    have kin : g.K.In s2.heap := by rw [← Y.G.hK]; exact I2.kIn
    exact run_fnGA (args := ⟨us, [z'].zip ws⟩) Y.G m4 (kb.to s2 us ws kin (r.length.symm.trans l2) (rz.length.symm.trans l1)) I2 (r.append rz) q2⟩
theorem e_gfn (Y : Cy g wx cf k X c) {x : Str} {f : Nat} {pos : Pos} (h : glB c x = true) (hf : c.fx x = some f) : PE X (.Name x pos) (T g b wx WR (ev cf (.gfn f x))) := PE.by fun σ H Q q' => by
  obtain ⟨F, ρ, fr, st, A, p⟩ := q'
  obtain ⟨fd, ps, m1, m2, m3, m4, m5⟩ := Y.M.fn x f hf
  obtain ⟨k1, k2, k3⟩ := Y.gl h
  exact ⟨_, pe_glob k1 (by rw [Y.G.hmg]; exact m1) (v := .ref (g.fa f)) rfl k2, Po.dat (d := .fn f) p A .fn⟩
theorem e_callv (Y : Cy g wx cf k X c) {i : Nat} {fs : List (Nat × Str)} {x : Str} {es : A} {e' : Expr} {es' : List Expr} {px pos : Pos} (hv : visB c i x = true) (hfs : (fs.all fun p => decide (c.fx p.2 = some p.1) && (kwId p.1).isNone) = true) (hs : noStar e' = true) (hpl : (starEach es' X.env).any (·.1) = false) (ha : PA X (e' :: es') (T g b wx LR (evA cf es))) :
    PE X (.Call (.Name x px) (e' :: es') [] pos) (T g b wx WR (ev cf (.callv i fs es))) := ⟨fun pins s σ H Q I q' => by
  obtain ⟨F, ρ, fr, st, A, p⟩ := q'
  obtain ⟨k1, k2, k3, k4⟩ := Y.vis hv
  simp only [ev] at p
  split at p
  · rename_i f hget
    split at p
    · rename_i hany
      obtain ⟨⟨f', y⟩, hm, he⟩ := List.any_eq_true.mp hany
      have hf' : f' = f := of_decide_eq_true he
      subst hf'
      have hff := List.all_eq_true.mp hfs (f', y) hm
      simp only [Bool.and_eq_true, decide_eq_true_eq, Option.isNone_iff_eq_none] at hff
      obtain ⟨hf, hk⟩ := hff
      obtain ⟨fd, ps, m1, m2, m3, m4, m5⟩ := Y.M.fn y f' hf
      rw [hk] at m3
      have hsl : σ[i]? = some (some (.ref (g.fa f'))) := by
        unfold getD at hget
        split at hget
        · rename_i d hd
          cases hget
          obtain ⟨v, h1, h2⟩ := A.dat i _ hd
          cases h2
          exact h1
        · cases hget
      have hpl' : (backTo pos (starEach es' X.env)).any (·.1) = false := by rw [backTo_any]; exact hpl
      refine wpAny_Call_Name_kw (thn ((pe_var (pos := px) k1 k2 k3 k4).run pins s σ H (fun v H1 => v = .ref (g.fa f') ∧ H1 = H) I ⟨.ref (g.fa f'), hsl, rfl, rfl⟩) fun u0 s0 ⟨v0, H0, I0, r0, q0⟩ => ?_)
      obtain ⟨rfl, rfl⟩ := q0
      cases r0
      refine PySem.W.callWith_K (h₀ := X.base) I0.ok.mod.kin (by rw [Y.G.hK]; exact m2) (thn (ha.run pos pins s0 σ H0 (fun vs H1 => spOf g (cf f') ps.length vs H1 Q (WE wx σ)) I0 ⟨F, ρ, fr, st, A, p.seq fun ds s1 F1 ρ1 H1 vs _ _ _ A1 rv p1 => ?_⟩) fun us s1 ⟨vs, H1, I1, r, q⟩ => ⟨I1.kIn, ?_⟩) (noStar_cons hs _) hpl'
      · refine ⟨F1, ρ1, ds, s1, ?_, A1.enter, rv, ?_⟩
        · rw [← VRs.length rv]
          refine m5 ds s1 fun z => ?_
          rw [z] at p1
          exact p1
        · cases e : cf f' ds s1 with
          | bad => rw [e] at p1; exact p1.elim
          | ok w s2 =>
            rw [e] at p1
            exact fun F2 ρ2 H2 v S P B r => p1 F2 ρ2 H2 v S P (A1.after B) (r.after A1 B)
          | exc c' p' s2 =>
            rw [e] at p1
            exact fun F2 ρ2 H2 cls d S P B r => p1 F2 ρ2 H2 cls d S P (A1.after B) r
      · exact run_fnG Y.G m4 m3 I1 r q
    · exact p.elim
  · exact p.elim⟩
end
end MP

set_option Elab.async false
set_option linter.all false
set_option maxRecDepth 100000
namespace MP
open PySem PySem.Spec L2
section
variable {g : Gb} {b : Bs} {wx : WX} {cf : Nat → List D → Sto → R W} {k : Nat} {X : Cx} {c : Cc} {F F' : Hp} {ρ ρ' : Rho} {σ : L2.St} {H H' : Hp} {fr : Fr} {st st' : Sto} {Q : VK}

/-! ### arguments, parts -/
theorem a_nil : PA X [] (T g b wx LR (evA cf .nil)) := PA.by fun σ H Q q' => by
  obtain ⟨F, ρ, fr, st, A, p⟩ := q'
  exact ⟨_, pa_nil, p F ρ H [] (.refl _) (pfx _) A .nil⟩
theorem a_cons {a : E} {r : A} {x : Expr} {xs : List Expr} (hs : noStar x = true) (hx : PE X x (T g b wx DR (ev cf a))) (hr : PA X xs (T g b wx LR (evA cf r))) : PA X (x :: xs) (T g b wx LR (evA cf (.cons a r))) := PA.by fun σ H Q q' => by
  obtain ⟨F, ρ, fr, st, A, p⟩ := q'
  simp only [evA] at p
  refine ⟨_, pa_cons hx hr (noStar_cons hs _), F, ρ, fr, st, A, p.seq fun x s1 F1 ρ1 H1 v _ _ _ A1 rv p1 => ⟨F1, ρ1, fr, s1, A1, p1.seq fun ys s2 F2 ρ2 H2 vs _ S2 P2 A2 rs p2 => ?_⟩⟩
  exact p2 F2 ρ2 H2 _ (.refl _) (pfx _) A2 (.cons (VR.mono S2 P2 rv) rs)
theorem a_star {a : E} {r : A} {x : Expr} {px : Pos} {xs : List Expr} (Y : Cy g wx cf k X c) (hx : PE X x (T g b wx DR (ev cf a))) (hr : PA X xs (T g b wx LR (evA cf r))) : PA X (.Starred x px :: xs) (T g b wx LR (evA cf (.star a r))) := PA.by fun σ H Q q' => by
  obtain ⟨F, ρ, fr, st, A, p⟩ := q'
  simp only [evA] at p
  refine ⟨_, StX.pa_star hx hr, F, ρ, fr, st, A, p.seq fun x s1 F1 ρ1 H1 v _ _ _ A1 rv p1 => ?_⟩
  split at p1
  · rename_i ys e
    have key : ∃ p vs, v = V.ref p ∧ (SqT X.K H1 p vs ∨ SqL X.K H1 p vs) ∧ VRs g F1 ρ1 ys vs := by
      have rv' : VR g F1 ρ1 x.d v := rv
      revert rv' e
      generalize x.d = d
      intro e rv'
      cases d <;> simp only [items] at e <;> first | (cases e; done) | skip
      · cases e
        obtain ⟨a', vs, rfl, a1, a2⟩ := rv'.tupI
        exact ⟨a', vs, rfl, .inl (by rw [Y.G.hK]; exact A1.sqT a1), a2⟩
      · cases e
        obtain ⟨a', vs, rfl, a1, a2⟩ := rv'.lstI
        exact ⟨a', vs, rfl, .inr (.inl (.inl (A1.sub _ _ a1))), a2⟩
      · cases e
        obtain ⟨a', rfl, a1⟩ := rv'.scrI
        exact ⟨a', _, rfl, .inr (by rw [Y.G.hK]; exact A1.sub.seq a1), .of_ints _⟩
    obtain ⟨a', vs, rfl, h1, h2⟩ := key
    refine ⟨a', vs, rfl, h1, F1, ρ1, fr, s1, A1, p1.seq fun zs s2 F2 ρ2 H2 us _ S2 P2 A2 rs p2 => ?_⟩
    exact p2 F2 ρ2 H2 _ (.refl _) (pfx _) A2 ((h2.mono S2 P2).append rs)
  · exact p1.elim
theorem o_none : PO X none (T g b wx IR (evO cf .none)) := ⟨fun pins s σ H Q I q' => by
  obtain ⟨F, ρ, fr, st, A, p⟩ := q'
  exact po_none.run pins s σ H Q I (p F ρ H none (.refl _) (pfx _) A rfl)⟩
theorem o_some {a : E} {x : Expr} (hx : PE X x (T g b wx DR (ev cf a))) : PO X (some x) (T g b wx IR (evO cf (.some a))) := ⟨fun pins s σ H Q I q' => by
  obtain ⟨F, ρ, fr, st, A, p⟩ := q'
  simp only [evO] at p
  refine (po_some hx).run pins s σ H Q I ?_
  refine one p A fun x s1 F1 ρ1 H1 v A1 rv p1 => ?_
  split at p1
  · rename_i i e
    rw [e] at rv; cases rv
    exact ⟨i, rfl, p1 F1 ρ1 H1 _ (.refl _) (pfx _) A1 rfl⟩
  · exact p1.elim⟩

/-! ### tests -/
theorem t_not {a : E} {x : Expr} {pos : Pos} (hx : PT X x (T g b wx BR (evB cf a))) : PT X (.UnaryOp .Not x pos) (T g b wx BR (evB cf (.not a))) := PT.by fun σ H Q q' => by
  obtain ⟨F, ρ, fr, st, A, p⟩ := q'
  refine ⟨_, pt_not hx, F, ρ, fr, st, A, ?_⟩
  have e : evB cf (.not a) fr st = (evB cf a fr st).bind fun k s => .ok (!k) s := by
    simp only [evB, ev]
    cases ev cf a fr st with
    | ok w s => simp only [R.bind, tb]; cases w.d <;> rfl
    | exc _ _ _ => rfl
    | bad => rfl
  rw [e] at p
  refine p.seq fun x s1 F1 ρ1 H1 v _ _ _ A1 rv p1 => ?_
  cases rv
  exact p1 F1 ρ1 H1 _ (.refl _) (pfx _) A1 rfl
theorem evB_and {a b' : E} : evB cf (.and a b') fr st = (evB cf a fr st).bind fun k s => if k then evB cf b' fr s else .ok false s := by
  simp only [evB, ev]
  cases ev cf a fr st with
  | ok w s =>
    simp only [R.bind, tb]
    cases w.d <;> first | rfl | skip
    rename_i k
    cases k <;> rfl
  | exc _ _ _ => rfl
  | bad => rfl
theorem evB_or {a b' : E} : evB cf (.or a b') fr st = (evB cf a fr st).bind fun k s => if k then .ok true s else evB cf b' fr s := by
  simp only [evB, ev]
  cases ev cf a fr st with
  | ok w s =>
    simp only [R.bind, tb]
    cases w.d <;> first | rfl | skip
    rename_i k
    cases k <;> rfl
  | exc _ _ _ => rfl
  | bad => rfl
theorem PW.by {e : Expr} {t' : TT} (h : ∀ σ H Q, t' σ H Q → ∃ t, PW X e t ∧ t σ H Q) : PW X e t' := ⟨fun wh pins s σ H Q I q => by
  obtain ⟨t, p, q'⟩ := h σ H Q q
  exact p.run wh pins s σ H Q I q'⟩
theorem w_and {a b' : E} {x y : Expr} {r : List Expr} {pos : Pos} (hx : PT X x (T g b wx BR (evB cf a))) (hy : PW X (.BoolOp .And (y :: r) pos) (T g b wx BR (evB cf b'))) : PW X (.BoolOp .And (x :: y :: r) pos) (T g b wx BR (evB cf (.and a b'))) := PW.by fun σ H Q q' => by
  obtain ⟨F, ρ, fr, st, A, p⟩ := q'
  rw [evB_and] at p
  refine ⟨_, pw_and hx hy, F, ρ, fr, st, A, p.seq fun x s1 F1 ρ1 H1 v _ _ _ A1 rv p1 => ?_⟩
  cases rv
  cases x with
  | true => rw [if_pos rfl] at p1 ⊢; exact .of A1 p1
  | false => rw [if_neg Bool.false_ne_true] at p1 ⊢; exact p1 F1 ρ1 H1 _ (.refl _) (pfx _) A1 rfl
theorem w_or {a b' : E} {x y : Expr} {r : List Expr} {pos : Pos} (hx : PT X x (T g b wx BR (evB cf a))) (hy : PW X (.BoolOp .Or (y :: r) pos) (T g b wx BR (evB cf b'))) : PW X (.BoolOp .Or (x :: y :: r) pos) (T g b wx BR (evB cf (.or a b'))) := PW.by fun σ H Q q' => by
  obtain ⟨F, ρ, fr, st, A, p⟩ := q'
  rw [evB_or] at p
  refine ⟨_, pw_or hx hy, F, ρ, fr, st, A, p.seq fun x s1 F1 ρ1 H1 v _ _ _ A1 rv p1 => ?_⟩
  cases rv
  cases x with
  | true => rw [if_pos rfl] at p1 ⊢; exact p1 F1 ρ1 H1 _ (.refl _) (pfx _) A1 rfl
  | false => rw [if_neg Bool.false_ne_true] at p1 ⊢; exact .of A1 p1
/-- a value as a test -/
theorem t_val {a : E} {x : Expr} (hx : PE X x (T g b wx DR (ev cf a))) (he : ∀ whole, isTrue x X.env whole = (do let v ← whole; standAt x.pos; holding [v] (truthy v))) : PT X x (T g b wx BR (evB cf a)) := PT.by fun σ H Q q' => by
  obtain ⟨F, ρ, fr, st, A, p⟩ := q'
  refine ⟨_, pt_val hx he, one p A fun x s1 F1 ρ1 H1 v A1 rv p1 => ?_⟩
  unfold tb at p1
  split at p1
  · rename_i q e
    rw [e] at rv; cases rv
    exact ⟨q, rfl, p1 F1 ρ1 H1 _ (.refl _) (pfx _) A1 rfl⟩
  · exact p1.elim
theorem t_cmp (Y : Cy g wx cf k X c) {o : Cop} {a b' : E} {x y : Expr} {pos : Pos} (hx : PE X x (T g b wx DR (ev cf a))) (hy : PE X y (T g b wx DR (ev cf b'))) (hs : noSet y = true) : PT X (.Compare x [cpOf o] [y] pos) (T g b wx BR (evB cf (.cmp o a b'))) := PT.by fun σ H Q q' => by
  obtain ⟨F, ρ, fr, st, A, p⟩ := q'
  refine ⟨_, pt_cmpR opAny hx hy (noSet_marks hs), ?_⟩
  have e : evB cf (.cmp o a b') fr st = (ev cf a fr st).bind fun x s1 => (ev cf b' fr s1).bind fun y s2 => opt (cmpD o x.d y.d) s2 := by
    simp only [evB, ev]
    cases ev cf a fr st with
    | ok w s =>
      simp only [R.bind]
      cases ev cf b' fr s with
      | ok w2 s2 => simp only [R.bind]; cases cmpD o w.d w2.d <;> rfl
      | exc _ _ _ => rfl
      | bad => rfl
    | exc _ _ _ => rfl
    | bad => rfl
  rw [e] at p
  refine ⟨F, ρ, fr, st, A, p.seq fun x s1 F1 ρ1 H1 v _ _ _ A1 rv p1 => ⟨F1, ρ1, fr, s1, A1, p1.seq fun y s2 F2 ρ2 H2 u _ S2 P2 A2 ru p2 => ?_⟩⟩
  cases e : cmpD o x.d y.d with
  | none => rw [e] at p2; exact p2.elim
  | some q =>
    rw [e] at p2
    exact cmp_ok Y.G o A2 (VR.mono S2 P2 rv) ru e ⟨q, rfl, p2 F2 ρ2 H2 _ (.refl _) (pfx _) A2 rfl⟩
theorem t_chain (Y : Cy g wx cf k X c) {o o' : Cop} {a b' d : E} {x y z : Expr} {pos : Pos} (hx : PE X x (T g b wx DR (ev cf a))) (hy : PE X y (T g b wx DR (ev cf b'))) (hz : PE X z (T g b wx DR (ev cf d))) (hs : noSet y = true) (hs' : noSet z = true) :
    PT X (.Compare x [cpOf o, cpOf o'] [y, z] pos) (T g b wx BR (evB cf (.chain o o' a b' d))) := PT.by fun σ H Q q' => by
  obtain ⟨F, ρ, fr, st, A, p⟩ := q'
  refine ⟨_, pt_chain opAny opAny hx hy hz (noSet_marks hs'), ?_⟩
  have e : evB cf (.chain o o' a b' d) fr st = (ev cf a fr st).bind fun x s1 => (ev cf b' fr s1).bind fun y s2 => match cmpD o x.d y.d with
    | some true => (ev cf d fr s2).bind fun z s3 => opt (cmpD o' y.d z.d) s3
    | some false => .ok false s2
    | none => .bad := by
    simp only [evB, ev]
    cases ev cf a fr st with
    | ok w s =>
      simp only [R.bind]
      cases ev cf b' fr s with
      | ok w2 s2 =>
        simp only [R.bind]
        cases cmpD o w.d w2.d with
        | none => rfl
        | some q =>
          cases q with
          | false => rfl
          | true =>
            simp only
            cases ev cf d fr s2 with
            | ok w3 s3 => simp only [R.bind]; cases cmpD o' w2.d w3.d <;> rfl
            | exc _ _ _ => rfl
            | bad => rfl
      | exc _ _ _ => rfl
      | bad => rfl
    | exc _ _ _ => rfl
    | bad => rfl
  rw [e] at p
  refine ⟨F, ρ, fr, st, A, p.seq fun x s1 F1 ρ1 H1 v _ _ _ A1 rv p1 => ⟨F1, ρ1, fr, s1, A1, p1.seq fun y s2 F2 ρ2 H2 u _ S2 P2 A2 ru p2 => ?_⟩⟩
  have rv2 := VR.mono S2 P2 rv
  cases e : cmpD o x.d y.d with
  | none => rw [e] at p2; exact p2.elim
  | some t =>
    rw [e] at p2
    refine cmp_ok Y.G o A2 rv2 ru e ?_
    refine ⟨t, rfl, ?_⟩
    cases t with
    | true =>
      rw [if_pos rfl]
      refine ⟨F2, ρ2, fr, s2, A2, Po.seq p2 fun z s3 F3 ρ3 H3 w _ S3 P3 A3 rw' p3 => ?_⟩
      cases e' : cmpD o' y.d z.d with
      | none => rw [e'] at p3; exact p3.elim
      | some q =>
        rw [e'] at p3
        exact cmp_ok Y.G o' A3 (VR.mono S3 P3 ru) rw' e' ⟨q, rfl, p3 F3 ρ3 H3 _ (.refl _) (pfx _) A3 rfl⟩
    | false =>
      rw [if_neg Bool.false_ne_true]
      exact ⟨false, rfl, p2 F2 ρ2 H2 _ (.refl _) (pfx _) A2 rfl⟩

/-! ### what is walked -/
theorem walks_list {a : Addr} {ds : List D} {vs : List V} {K : PySem.W.Frag} (h : SqL K F a vs) (r : VRs g F ρ ds vs) : Walks g b σ fr F ρ (Itl K a) ds [] where
  go := fun i P F2 ρ2 σ' H fr' st' hi S P' A _ => by
    have hq : SqL K H a vs := A.sub.seq (S.seq h)
    have hi' : i < vs.length := by rw [← r.length]; exact hi
    exact ⟨vs, vs[i], hq, List.getElem?_eq_getElem hi'⟩
  stop := fun i P F2 ρ2 σ' H fr' st' hi S P' A _ => ⟨vs, A.sub.seq (S.seq h), by rw [← r.length]; exact Nat.le_of_eq hi⟩
  yld := fun i P F2 ρ2 σ' H fr' st' x H' hi S P' A _ y => by
    obtain ⟨rfl, y⟩ := y
    have e := y vs (A.sub.seq (S.seq h))
    obtain ⟨d, e1, e2⟩ := r.get' e
    exact ⟨d, F2, e1, .refl _, A, e2.mono S P'⟩
theorem walks_tup {a : Addr} {ds : List D} {vs : List V} {K : PySem.W.Frag} (h : SqT K F a vs) (r : VRs g F ρ ds vs) : Walks g b σ fr F ρ (Itt K a) ds [] where
  go := fun i P F2 ρ2 σ' H fr' st' hi S P' A _ => by
    have hi' : i < vs.length := by rw [← r.length]; exact hi
    exact ⟨vs, vs[i], A.sqT (same_seqT S h), List.getElem?_eq_getElem hi'⟩
  stop := fun i P F2 ρ2 σ' H fr' st' hi S P' A _ => ⟨vs, A.sqT (same_seqT S h), by rw [← r.length]; exact Nat.le_of_eq hi⟩
  yld := fun i P F2 ρ2 σ' H fr' st' x H' hi S P' A _ y => by
    obtain ⟨rfl, y⟩ := y
    have e := y vs (A.sqT (same_seqT S h))
    obtain ⟨d, e1, e2⟩ := r.get' e
    exact ⟨d, F2, e1, .refl _, A, e2.mono S P'⟩
theorem walks_mut {m : Nat} {a : Addr} {xs : List D} (h1 : fr[m]? = some (.mut xs)) (h2 : σ[m]? = some (some (.ref a))) (K : PySem.W.Frag) : Walks g b σ fr F ρ (Itl K a) xs [m] where
  go := fun i P F2 ρ2 σ' H fr' st' hi S P' A ag => by
    obtain ⟨g1, g2⟩ := ag m (by simp)
    obtain ⟨a', vs, q1, q2, q3, _⟩ := A.mu m xs (g1.trans h1)
    rw [g2, h2] at q1; cases q1
    have hi' : i < vs.length := by rw [← q3.length]; exact hi
    exact ⟨vs, vs[i], .inl (.inl q2), List.getElem?_eq_getElem hi'⟩
  stop := fun i P F2 ρ2 σ' H fr' st' hi S P' A ag => by
    obtain ⟨g1, g2⟩ := ag m (by simp)
    obtain ⟨a', vs, q1, q2, q3, _⟩ := A.mu m xs (g1.trans h1)
    rw [g2, h2] at q1; cases q1
    exact ⟨vs, .inl (.inl q2), by rw [← q3.length]; exact Nat.le_of_eq hi⟩
  yld := fun i P F2 ρ2 σ' H fr' st' x H' hi S P' A ag y => by
    obtain ⟨g1, g2⟩ := ag m (by simp)
    obtain ⟨a', vs, q1, q2, q3, _⟩ := A.mu m xs (g1.trans h1)
    rw [g2, h2] at q1; cases q1
    obtain ⟨rfl, y⟩ := y
    obtain ⟨d, e1, e2⟩ := q3.get' (y vs (.inl (.inl q2)))
    exact ⟨d, F2, e1, .refl _, A, e2⟩
theorem rng_get {a b' : Int} {i : Nat} (h : i < (b' - a).toNat) : (rng a b')[i]? = some (.int (a + (i : Nat))) := by
  unfold rng
  rw [List.getElem?_map, List.getElem?_range h]
  rfl
theorem rng_len (a b' : Int) : (rng a b').length = (b' - a).toNat := by unfold rng; rw [List.length_map, List.length_range]
theorem walks_rng {a b' : Int} : Walks g b σ fr F ρ (Itr a (b' - a).toNat) (rng a b') [] where
  go := fun i P F2 ρ2 σ' H fr' st' hi S P' A _ => by rw [rng_len] at hi; exact hi
  stop := fun i P F2 ρ2 σ' H fr' st' hi S P' A _ => by rw [rng_len] at hi; exact Nat.le_of_eq hi
  yld := fun i P F2 ρ2 σ' H fr' st' x H' hi S P' A _ y => by
    obtain ⟨rfl, rfl⟩ := y
    rw [rng_len] at hi
    exact ⟨_, F2, rng_get hi, .refl _, A, .int _⟩
theorem items_inv {d : D} {xs : List D} {v : V} (h : items d = some xs) (r : VR g F ρ d v) : ∃ a vs, v = .ref a ∧ VRs g F ρ xs vs ∧ (((∀ zs, d ≠ .tup zs) ∧ SqL g.K F a vs) ∨ (d = .tup xs ∧ SqT g.K F a vs)) := by
  cases d <;> simp only [items] at h <;> first | (cases h; done) | skip
  · cases h
    obtain ⟨a', vs, rfl, a1, a2⟩ := r.tupI
    exact ⟨a', vs, rfl, a2, .inr ⟨rfl, a1⟩⟩
  · cases h
    obtain ⟨a', vs, rfl, a1, a2⟩ := r.lstI
    exact ⟨a', vs, rfl, a2, .inl ⟨fun zs => by simp, .inl (.inl a1)⟩⟩
  · cases h
    obtain ⟨a', rfl, a1⟩ := r.scrI
    exact ⟨a', _, rfl, .of_ints _, .inl ⟨fun zs => by simp, a1⟩⟩
theorem Po.wk {ks : List Nat} {ds : List D} {J : L2.It} {Q : L2.It → Hp → Prop} (p : Po g b wx (WkR ks) (.ok ds st) F ρ σ fr Q) (A : Ab g b F ρ σ H fr st) (w : Walks g b σ fr F ρ J ds ks) : Q J H := p F ρ H J (.refl _) (pfx _) A w
theorem i_seq (Y : Cy g wx cf k X c) {a : E} {x tg : Expr} (hx : PE X x (T g b wx DR (ev cf a))) : PI X tg x (TW g b wx (evI cf (.seq a)) []) := PI.by fun σ H Q q' => by
  obtain ⟨F, ρ, fr, st, A, p⟩ := q'
  simp only [evI] at p
  cases e : ev cf a fr st with
  | bad => rw [e] at p; exact p.elim
  | exc c' p' s1 =>
    refine ⟨_, pi_list hx, F, ρ, fr, st, A, ?_⟩
    rw [e] at p ⊢
    exact p
  | ok w s1 =>
    cases e2 : items w.d with
    | none => rw [e] at p; simp only [R.bind, e2] at p; exact p.elim
    | some xs =>
      by_cases hd : ∃ zs, w.d = .tup zs
      · refine ⟨_, pi_tup hx, F, ρ, fr, st, A, p.seq fun w' s1' F1 ρ1 H1 v e' _ _ A1 rv p1 => ?_⟩
        rw [e] at e'; cases e'
        rw [e2] at p1
        obtain ⟨a', vs, rfl, h2, q⟩ := items_inv e2 rv
        rcases q with ⟨n, _⟩ | ⟨_, h1⟩
        · obtain ⟨zs, hd⟩ := hd; exact absurd hd (n zs)
        · exact ⟨a', rfl, ⟨vs, by rw [Y.G.hK]; exact A1.sqT h1⟩, Po.wk p1 A1 (walks_tup (by rw [Y.G.hK]; exact h1) h2)⟩
      · refine ⟨_, pi_list hx, F, ρ, fr, st, A, p.seq fun w' s1' F1 ρ1 H1 v e' _ _ A1 rv p1 => ?_⟩
        rw [e] at e'; cases e'
        rw [e2] at p1
        obtain ⟨a', vs, rfl, h2, q⟩ := items_inv e2 rv
        rcases q with ⟨_, h1⟩ | ⟨h1, _⟩
        · exact ⟨a', rfl, ⟨vs, by rw [Y.G.hK]; exact A1.sub.seq h1⟩, Po.wk p1 A1 (walks_list (by rw [Y.G.hK]; exact h1) h2)⟩
        · exact absurd ⟨_, h1⟩ hd
theorem i_mut (Y : Cy g wx cf k X c) {m : Nat} {x : Str} {px : Pos} {tg : Expr} (h : visB c m x = true) : PI X tg (.Name x px) (TW g b wx (evI cf (.mut m)) [m]) := PI.by fun σ H Q q' => by
  obtain ⟨F, ρ, fr, st, A, p⟩ := q'
  obtain ⟨h1, h2, h3, h4⟩ := Y.vis h
  simp only [evI] at p
  refine ⟨_, pi_list (pe_var h1 h2 h3 h4), ?_⟩
  cases e : getM fr m with
  | none => rw [e] at p; exact p.elim
  | some xs =>
    rw [e] at p
    obtain ⟨a, vs, q1, q2, q3, _⟩ := A.mu m xs (getM_some e)
    exact ⟨.ref a, q1, a, rfl, ⟨vs, .inl (.inl q2)⟩, Po.wk p A (walks_mut (getM_some e) q1 _)⟩
theorem rngOk_of {a b' : Int} (h : rngOk a b' = true) : -(2 ^ 62) ≤ a ∧ a < 2 ^ 62 ∧ -(2 ^ 62) ≤ b' ∧ b' < 2 ^ 62 := by
  simp only [rngOk, Bool.and_eq_true, decide_eq_true_eq] at h
  exact ⟨h.1.1.1.1, h.1.1.1.2, h.1.1.2, h.1.2⟩
theorem i_rng1 (Y : Cy g wx cf k X c) {a : E} {x tg : Expr} {y : Str} {py pos : Pos} (hy : y = "range") (hg : glB c y = true) (hs : noStar x = true) (hx : PE X x (T g b wx DR (ev cf a))) : PI X tg (.Call (.Name y py) [x] [] pos) (TW g b wx (evI cf (.rng1 a)) []) := PI.by fun σ H Q q' => by
  obtain ⟨F, ρ, fr, st, A, p⟩ := q'
  obtain ⟨k1, k2, k3⟩ := Y.gl hg
  subst hy
  simp only [evI] at p
  refine ⟨_, pi_range1 k1 (mem_blt (by simp [bltNames]) Y) (pa_cons hx pa_nil (noStar_cons hs _)) (noStar_cons hs _), F, ρ, fr, st, A, p.seq fun w s1 F1 ρ1 H1 v _ _ _ A1 rv p1 => ?_⟩
  have rv' : VR g F1 ρ1 w.d v := rv
  split at p1
  · rename_i n e
    rw [e] at rv'
    have e1 := rv'.intI
    subst e1
    split at p1
    · rename_i h
      have h' := rngOk_of h
      have q := Po.wk (J := Itr 0 (n - 0).toNat) p1 A1 walks_rng
      exact ⟨n, rfl, h'.2.2.1, h'.2.2.2, by rw [Int.sub_zero] at q; exact q⟩
    · exact p1.elim
  · exact p1.elim
theorem i_rng2 (Y : Cy g wx cf k X c) {a b' : E} {x z tg : Expr} {y : Str} {py pos : Pos} (hy : y = "range") (hg : glB c y = true) (hs : noStar x = true) (hs' : noStar z = true) (hx : PE X x (T g b wx DR (ev cf a))) (hz : PE X z (T g b wx DR (ev cf b'))) :
    PI X tg (.Call (.Name y py) [x, z] [] pos) (TW g b wx (evI cf (.rng2 a b')) []) := PI.by fun σ H Q q' => by
  obtain ⟨F, ρ, fr, st, A, p⟩ := q'
  obtain ⟨k1, k2, k3⟩ := Y.gl hg
  subst hy
  simp only [evI] at p
  refine ⟨_, pi_range2 k1 (mem_blt (by simp [bltNames]) Y) (pa_cons hx (pa_cons hz pa_nil (noStar_cons hs' _)) (noStar_cons hs _)) (by rw [noStar_cons hs, noStar_cons hs']; rfl) (noStar_cons hs' _), F, ρ, fr, st, A, p.seq fun w s1 F1 ρ1 H1 v _ _ _ A1 rv p1 => ⟨F1, ρ1, fr, s1, A1, p1.seq fun w2 s2 F2 ρ2 H2 u _ S2 P2 A2 ru p2 => ?_⟩⟩
  have rv' : VR g F2 ρ2 w.d v := VR.mono S2 P2 rv
  have ru' : VR g F2 ρ2 w2.d u := ru
  split at p2
  · rename_i m n e1 e2
    rw [e1] at rv'; rw [e2] at ru'
    have z1 := rv'.intI
    have z2 := ru'.intI
    subst z1; subst z2
    split at p2
    · rename_i h
      exact ⟨m, n, rfl, rngOk_of h, Po.wk p2 A2 walks_rng⟩
    · exact p2.elim
  · exact p2.elim
end
end MP

set_option Elab.async false
set_option linter.all false
set_option maxRecDepth 100000
namespace MP
open PySem PySem.Spec L2
section
variable {g : Gb} {b : Bs} {wx : WX} {cf : Nat → List D → Sto → R W} {k : Nat} {X : Cx} {c : Cc} {F F' : Hp} {ρ ρ' : Rho} {σ : L2.St} {H H' : Hp} {fr : Fr} {st st' : Sto} {Q : VK}

/-! ### stores -/
theorem Ab.set (A : Ab g b F ρ σ H fr st) {i : Nat} {d : D} {v : V} (hi : i < fr.length) (r : VR g F ρ d v) : Ab g b F ρ (σ.set i (some v)) H (fr.set i (.dat d)) st := by
  have hs : i < σ.length := by rw [← A.len]; exact hi
  have ne : ∀ {j : Nat} {xs}, (fr.set i (.dat d))[j]? = some (.mut xs) → i ≠ j ∧ fr[j]? = some (.mut xs) := fun {j xs} e => by
    by_cases z : i = j
    · subst z; rw [List.getElem?_set_self hi] at e; cases e
    · rw [List.getElem?_set_ne z] at e; exact ⟨z, e⟩
  exact {
    sub := A.sub, ext := A.ext, new := A.new, rho := A.rho, keep := A.keep, fsh := A.fsh, sto := A.sto, tb := A.tb
    len := by rw [List.length_set, List.length_set]; exact A.len
    dat := fun j d' e => by
      by_cases z : i = j
      · subst z
        rw [List.getElem?_set_self hi] at e
        cases e
        exact ⟨v, List.getElem?_set_self hs, r⟩
      · rw [List.getElem?_set_ne z] at e ⊢
        exact A.dat j d' e
    mu := fun j xs e => by
      obtain ⟨z, e⟩ := ne e
      rw [List.getElem?_set_ne z]
      exact A.mu j xs e
    apart := fun j l a xs ys e1 e2 q1 q2 => by
      obtain ⟨z1, e1⟩ := ne e1
      obtain ⟨z2, e2⟩ := ne e2
      rw [List.getElem?_set_ne z1] at q1
      rw [List.getElem?_set_ne z2] at q2
      exact A.apart j l a xs ys e1 e2 q1 q2
    pin := fun q hq => by
      obtain ⟨h1, h2, h3, h4, h5⟩ := A.pin q hq
      refine ⟨h1, h2, h3, h4, fun j ys e => ?_⟩
      obtain ⟨z, e⟩ := ne e
      rw [List.getElem?_set_ne z]
      exact h5 j ys e }
mutual
theorem putG_out : ∀ (G : G) (d : D) (fr fr' : Fr) (j : Nat), putG G d fr = some fr' → j ∉ slG G → fr'[j]? = fr[j]?
  | .nm i, d, fr, fr', j, h, n => by
    simp only [putG] at h
    split at h
    · cases h
      exact List.getElem?_set_ne fun z => n (by simp [slG, z])
    · cases h
  | .tp gs, .tup xs, fr, fr', j, h, n => putGs_out gs xs fr fr' j h n
  | .tp gs, .non, fr, fr', j, h, n => by cases h
  | .tp gs, .bl _, fr, fr', j, h, n => by cases h
  | .tp gs, .int _, fr, fr', j, h, n => by cases h
  | .tp gs, .str _, fr, fr', j, h, n => by cases h
  | .tp gs, .lst _, fr, fr', j, h, n => by cases h
  | .tp gs, .emp, fr, fr', j, h, n => by cases h
  | .tp gs, .ref _, fr, fr', j, h, n => by cases h
  | .tp gs, .fn _, fr, fr', j, h, n => by cases h
  | .tp gs, .scr _, fr, fr', j, h, n => by cases h
  | .tp gs, .err _ _, fr, fr', j, h, n => by cases h
theorem putGs_out : ∀ (G : Gs) (d : List D) (fr fr' : Fr) (j : Nat), putGs G d fr = some fr' → j ∉ slGs G → fr'[j]? = fr[j]?
  | .nil, [], fr, fr', j, h, n => by cases h; rfl
  | .nil, _ :: _, fr, fr', j, h, n => by cases h
  | .cons G r, [], fr, fr', j, h, n => by cases h
  | .cons G r, x :: xs, fr, fr', j, h, n => by
    simp only [putGs] at h
    simp only [slGs, List.mem_append, not_or] at n
    cases e : putG G x fr with
    | none => rw [e] at h; cases h
    | some f2 =>
      rw [e] at h
      rw [putGs_out r xs f2 fr' j h n.2, putG_out G x fr f2 j e n.1]
end
mutual
theorem putG_len : ∀ (G : G) (d : D) (fr fr' : Fr), putG G d fr = some fr' → fr'.length = fr.length
  | .nm i, d, fr, fr', h => by
    simp only [putG] at h
    split at h
    · cases h; exact List.length_set ..
    · cases h
  | .tp gs, .tup xs, fr, fr', h => putGs_len' gs xs fr fr' h
  | .tp gs, .non, fr, fr', h => by cases h
  | .tp gs, .bl _, fr, fr', h => by cases h
  | .tp gs, .int _, fr, fr', h => by cases h
  | .tp gs, .str _, fr, fr', h => by cases h
  | .tp gs, .lst _, fr, fr', h => by cases h
  | .tp gs, .emp, fr, fr', h => by cases h
  | .tp gs, .ref _, fr, fr', h => by cases h
  | .tp gs, .fn _, fr, fr', h => by cases h
  | .tp gs, .scr _, fr, fr', h => by cases h
  | .tp gs, .err _ _, fr, fr', h => by cases h
theorem putGs_len' : ∀ (G : Gs) (d : List D) (fr fr' : Fr), putGs G d fr = some fr' → fr'.length = fr.length
  | .nil, [], fr, fr', h => by cases h; rfl
  | .nil, _ :: _, fr, fr', h => by cases h
  | .cons G r, [], fr, fr', h => by cases h
  | .cons G r, x :: xs, fr, fr', h => by
    simp only [putGs] at h
    cases e : putG G x fr with
    | none => rw [e] at h; cases h
    | some f2 =>
      rw [e] at h
      rw [putGs_len' r xs f2 fr' h, putG_len G x fr f2 e]
end
def TGt (g : Gb) (b : Bs) (G : G) : TG := fun v σ H Q => ∃ F ρ fr st d fr', Ab g b F ρ σ H fr st ∧ VR g F ρ d v ∧ putG G d fr = some fr' ∧ ∀ σ', Ab g b F ρ σ' H fr' st → (∀ j, j ∉ slG G → σ'[j]? = σ[j]?) → Q σ' H
def TGs' (g : Gb) (b : Bs) (G : Gs) : TGs := fun vs σ H Q => ∃ F ρ fr st ds fr', Ab g b F ρ σ H fr st ∧ VRs g F ρ ds vs ∧ putGs G ds fr = some fr' ∧ ∀ σ', Ab g b F ρ σ' H fr' st → (∀ j, j ∉ slGs G → σ'[j]? = σ[j]?) → Q σ' H
theorem PGs.by {tg : List Expr} {t' : TGs} (h : ∀ v σ H Q, t' v σ H Q → ∃ t, PGs X tg t ∧ t v σ H Q) : PGs X tg t' := ⟨fun pins s σ H v u Q I r q => by
  obtain ⟨t, p, q'⟩ := h v σ H Q q
  exact p.run pins s σ H v u Q I r q'⟩
theorem each_cons {e : Expr} {es : List Expr} (h : noStar e = true) (env : PySem.Env) : assignEach (e :: es) env = (false, assign e env) :: assignEach es env := by
  cases e <;> first | rfl | cases h
theorem mGs_each : ∀ (G : Gs) (es : List Expr) (env : PySem.Env), mGs c G es = true → (assignEach es env).length = es.length ∧ (assignEach es env).findIdx? (·.1) = none
  | .nil, [], env, _ => ⟨rfl, rfl⟩
  | .nil, _ :: _, _, h => by cases h
  | .cons _ _, [], _, h => by cases h
  | .cons G r, e :: es, env, h => by
    simp only [mGs, Bool.and_eq_true] at h
    obtain ⟨h1, h2⟩ := mGs_each r es env h.2
    rw [each_cons h.1.1]
    refine ⟨by simp [h1], ?_⟩
    rw [List.findIdx?_cons, h2]
    rfl
theorem putGs_len : ∀ (G : Gs) (es : List Expr) (ds : List D) (fr fr' : Fr), mGs c G es = true → putGs G ds fr = some fr' → ds.length = es.length
  | .nil, [], [], _, _, _, _ => rfl
  | .nil, _ :: _, _, _, _, h, _ => by cases h
  | .nil, [], _ :: _, _, _, _, h => by cases h
  | .cons _ _, [], _, _, _, h, _ => by cases h
  | .cons _ _, _ :: _, [], _, _, _, h => by cases h
  | .cons G r, e :: es, x :: xs, fr, fr', h, h2 => by
    simp only [mGs, Bool.and_eq_true] at h
    simp only [putGs] at h2
    cases q : putG G x fr with
    | none => rw [q] at h2; cases h2
    | some f2 =>
      rw [q] at h2
      simp [putGs_len r es xs f2 fr' h.2 h2]
mutual
theorem g_ok (Y : Cy g wx cf k X c) : ∀ (G : G) (tg : Expr), mG c G tg = true → PG X tg (TGt g b G)
  | .nm i, tg, h => by
    cases tg <;> simp only [mG] at h <;> first | (cases h; done) | skip
    rename_i x px
    obtain ⟨h1, h2, h3⟩ := Y.loc h
    refine PG.by fun v σ H Q q => ⟨_, pg_name Y.G.nd h1 h2 h3, ?_⟩
    obtain ⟨F, ρ, fr, st, d, fr', A, rv, e, hq⟩ := q
    simp only [putG] at e
    split at e
    · rename_i hi
      cases e
      exact hq _ (A.set hi rv) fun j n => List.getElem?_set_ne fun z => n (by simp [slG, z])
    · cases e
  | .tp gs, tg, h => by
    cases tg <;> simp only [mG] at h <;> first | (cases h; done) | skip
    rename_i es k0 pos
    obtain ⟨h1, h2⟩ := mGs_each gs es X.env h
    refine PG.by fun v σ H Q q => ⟨_, pg_tup Y.G.calm (gs_ok Y gs es h) h1 h2, ?_⟩
    obtain ⟨F, ρ, fr, st, d, fr', A, rv, e, hq⟩ := q
    cases d <;> first | (cases e; done) | skip
    rename_i ds
    obtain ⟨a, vs, rfl, a1, a2⟩ := rv.tupI
    refine ⟨a, vs, rfl, by rw [Y.G.hK]; exact A.sqT a1, ?_, F, ρ, fr, st, ds, fr', A, a2, e, hq⟩
    rw [← a2.length]
    exact putGs_len gs es ds fr fr' h e
theorem gs_ok (Y : Cy g wx cf k X c) : ∀ (G : Gs) (tg : List Expr), mGs c G tg = true → PGs X tg (TGs' g b G)
  | .nil, [], _ => PGs.by fun v σ H Q q => ⟨_, pgs_nil, by
    obtain ⟨F, ρ, fr, st, d, fr', A, rv, e, hq⟩ := q
    cases d with
    | nil =>
      cases rv
      cases e
      exact ⟨rfl, hq σ A fun _ _ => rfl⟩
    | cons => cases e⟩
  | .nil, _ :: _, h => by cases h
  | .cons _ _, [], h => by cases h
  | .cons G r, e :: es, h => by
    simp only [mGs, Bool.and_eq_true] at h
    refine PGs.by fun v σ H Q q => ⟨_, pgs_cons (g_ok Y G e h.1.2) (gs_ok Y r es h.2) (by rw [each_cons h.1.1]; rfl), ?_⟩
    obtain ⟨F, ρ, fr, st, d, fr', A, rv, q, hq⟩ := q
    cases d with
    | nil => cases q
    | cons x xs =>
      cases rv with
      | cons r1 r2 =>
        simp only [putGs] at q
        cases q1 : putG G x fr with
        | none => rw [q1] at q; cases q
        | some f2 =>
          rw [q1] at q
          refine ⟨_, _, rfl, F, ρ, fr, st, x, f2, A, r1, q1, fun σ' A' ag => ⟨F, ρ, f2, st, xs, fr', A', r2, q, fun σ2 A2 ag2 => hq σ2 A2 fun j n => ?_⟩⟩
          simp only [slGs, List.mem_append, not_or] at n
          rw [ag2 j n.2, ag j n.1]
end

/-! ### a block of one's own -/
theorem wipe_at (σ : L2.St) : ∀ (vs : List Nat) (j : Nat), j ∈ vs → (wipe σ vs)[j]? = if j < σ.length then some none else none
  | [], j, h => by simp at h
  | v :: vs, j, h => by
    unfold wipe
    by_cases z : v = j
    · subst z
      by_cases hl : v < σ.length
      · rw [List.getElem?_set_self (by rw [wipe_length]; exact hl), if_pos hl]
      · rw [if_neg hl, List.getElem?_eq_none (by rw [List.length_set, wipe_length]; omega)]
    · rw [List.getElem?_set_ne z]
      exact wipe_at σ vs j (by simpa [Ne.symm z] using h)
theorem wipeE_len (fr : Fr) : ∀ vs : List Nat, (wipeE fr vs).length = fr.length
  | [] => rfl
  | v :: vs => by unfold wipeE; rw [List.length_set, wipeE_len fr vs]
theorem wipeE_out (fr : Fr) : ∀ (vs : List Nat) (j : Nat), j ∉ vs → (wipeE fr vs)[j]? = fr[j]?
  | [], j, _ => rfl
  | v :: vs, j, h => by
    simp only [List.mem_cons, not_or] at h
    unfold wipeE
    rw [List.getElem?_set_ne (Ne.symm h.1), wipeE_out fr vs j h.2]
theorem wipeE_at (fr : Fr) : ∀ (vs : List Nat) (j : Nat), j ∈ vs → (wipeE fr vs)[j]? = some .un ∨ (wipeE fr vs)[j]? = none
  | [], j, h => by simp at h
  | v :: vs, j, h => by
    unfold wipeE
    by_cases z : v = j
    · subst z
      by_cases hl : v < (wipeE fr vs).length
      · exact .inl (List.getElem?_set_self hl)
      · exact .inr (List.getElem?_eq_none (by rw [List.length_set]; omega))
    · rw [List.getElem?_set_ne z]
      exact wipeE_at fr vs j (by simpa [Ne.symm z] using h)
theorem Ab.wiped (A : Ab g b F ρ σ H fr st) (vs : List Nat) : Ab g b F ρ (wipe σ vs) H (wipeE fr vs) st := by
  have d1 : ∀ {j : Nat} {q}, (wipeE fr vs)[j]? = some q → q ≠ .un → j ∉ vs ∧ fr[j]? = some q := fun {j q} e n => by
    by_cases z : j ∈ vs
    · rcases wipeE_at fr vs j z with y | y
      · rw [y] at e; cases e; exact absurd rfl n
      · rw [y] at e; cases e
    · rw [wipeE_out fr vs j z] at e
      exact ⟨z, e⟩
  exact {
    sub := A.sub, ext := A.ext, new := A.new, rho := A.rho, keep := A.keep, fsh := A.fsh, sto := A.sto, tb := A.tb
    len := by rw [wipeE_len, wipe_length]; exact A.len
    dat := fun j d e => by
      obtain ⟨z, e⟩ := d1 e (by intro q; cases q)
      rw [wipe_out z]
      exact A.dat j d e
    mu := fun j xs e => by
      obtain ⟨z, e⟩ := d1 e (by intro q; cases q)
      rw [wipe_out z]
      exact A.mu j xs e
    apart := fun j l a xs ys e1 e2 q1 q2 => by
      obtain ⟨z1, e1⟩ := d1 e1 (by intro q; cases q)
      obtain ⟨z2, e2⟩ := d1 e2 (by intro q; cases q)
      rw [wipe_out z1] at q1
      rw [wipe_out z2] at q2
      exact A.apart j l a xs ys e1 e2 q1 q2
    pin := fun q hq => by
      obtain ⟨h1, h2, h3, h4, h5⟩ := A.pin q hq
      refine ⟨h1, h2, h3, h4, fun j ys e => ?_⟩
      obtain ⟨z, e⟩ := d1 e (by intro q; cases q)
      rw [wipe_out z]
      exact h5 j ys e }
/-- back to the frame around -/
theorem Ab.back {F1 : Hp} {ρ1 : Rho} {σ1 : L2.St} {H1 : Hp} {fr1 : Fr} {st1 : Sto} (A : Ab g b F ρ σ H fr st) (B : Ab g b F1 ρ1 σ1 H1 fr1 st1) (S : Same F F1) (P : ρ <+: ρ1) (ag : ∀ (i : Nat) xs, fr[i]? = some (.mut xs) → fr1[i]? = some (.mut xs) ∧ σ1[i]? = σ[i]?) :
    Ab g b F1 ρ1 σ H1 fr st1 where
  sub := B.sub
  ext := B.ext
  new := B.new
  rho := B.rho
  keep := B.keep
  fsh := B.fsh
  sto := B.sto
  tb := B.tb
  len := A.len
  dat := fun i d e => by
    obtain ⟨v, h1, h2⟩ := A.dat i d e
    exact ⟨v, h1, h2.mono S P⟩
  mu := fun i xs e => by
    obtain ⟨h1, h2⟩ := ag i xs e
    rw [← h2]
    exact B.mu i xs h1
  apart := A.apart
  pin := fun q hq => by
    obtain ⟨h1, h2, h3, h4, h5⟩ := B.pin q hq
    refine ⟨h1, h2, h3, h4, fun i ys e => ?_⟩
    obtain ⟨z1, z2⟩ := ag i ys e
    rw [← z2]
    exact h5 i ys z1
theorem Ab.pinNew (A : Ab g b F ρ σ H fr st) {p : Addr} (o : HO) (nt : notT o) (hp : H p = none) : Ab g { b with P := (p, o) :: b.P } F ρ σ (upd H p o) fr st := by
  have B := A.alloc o hp
  exact { B with
    tb := B.tb.pin (q := (p, o)) nt
    pin := fun q hq => by
      rcases List.mem_cons.mp hq with z | z
      · subst z
        refine ⟨upd_same, A.nF hp, A.nsh hp, A.fresh0 hp, fun i ys e z => ?_⟩
        obtain ⟨a, vs, q1, q2, _⟩ := A.mu i ys e
        rw [z] at q1; cases q1
        simp only at q2
        rw [hp] at q2; cases q2
      · exact B.pin q z }
theorem Ab.unpin {p : Addr} {o : HO} (A : Ab g { b with P := (p, o) :: b.P } F ρ σ H fr st) : Ab g b F ρ σ H fr st :=
  ⟨A.sub, A.ext, A.new, A.rho, A.keep, A.fsh, A.sto, A.len, A.dat, A.mu, A.apart, fun q hq => A.pin q (List.mem_cons_of_mem _ hq), A.tb.unpin⟩
theorem Ab.repin {p : Addr} {o : HO} (o' : HO) (nt : notT o') (nx : ∀ φ, o ≠ .ext φ) (A : Ab g { b with P := (p, o) :: b.P } F ρ σ H fr st) (np : ∀ q ∈ b.P, q.1 ≠ p) : Ab g { b with P := (p, o') :: b.P } F ρ σ (upd H p o') fr st := by
  obtain ⟨h1, h2, h3, h4, h5⟩ := A.pin (p, o) List.mem_cons_self
  simp only at h1 h2 h3 h4 h5
  exact {
    sub := fun a x e => by
      rw [upd_ne (show a ≠ p from fun z => by subst z; rw [h2] at e; cases e)]
      exact A.sub _ _ e
    ext := A.ext, new := A.new, rho := A.rho
    keep := fun a x e m nt => by
      rw [upd_ne (show a ≠ p from fun z => by subst z; simp only at e; rw [h4] at e; cases e)]
      exact A.keep a x e m nt
    tb := (A.tb.unpin.write h1 (A.tb.pnt (p, o) List.mem_cons_self) nx).pin (q := (p, o')) nt
    fsh := A.fsh
    sto := A.sto.of fun a ha => upd_ne fun z => h3 (z ▸ ha)
    len := A.len
    dat := A.dat
    mu := fun i xs e => by
      obtain ⟨a, vs, q1, q2, q3⟩ := A.mu i xs e
      refine ⟨a, vs, q1, ?_, q3⟩
      rw [upd_ne (show a ≠ p from fun z => by subst z; exact h5 i xs e q1)]
      exact q2
    apart := A.apart
    pin := fun q hq => by
      rcases List.mem_cons.mp hq with z | z
      · subst z
        exact ⟨upd_same, h2, h3, h4, h5⟩
      · obtain ⟨q1, q2⟩ := A.pin q (List.mem_cons_of_mem _ z)
        refine ⟨?_, q2⟩
        rw [upd_ne (np q z)]
        exact q1 }
end
end MP

set_option Elab.async false
set_option linter.all false
set_option maxRecDepth 100000
namespace MP
open PySem PySem.Spec L2
abbrev wx0 : WX := fun _ _ _ _ => False
section
variable {g : Gb} {b : Bs} {wx : WX} {cf : Nat → List D → Sto → R W} {k : Nat} {X : Cx} {c : Cc} {F F' : Hp} {ρ ρ' : Rho} {σ : L2.St} {H H' : Hp} {fr : Fr} {st st' : Sto} {Q : VK}
theorem Cy.block (Y : Cy g wx cf k X c) {scope : Scope} (hk : scope.kind = .function) (s : Shared) (H : Hp) (C : Addr) (cl : List (Str × Addr)) (fp : List Addr) : Cy g wx0 cf k (X.blk s H scope (compEnvC scope cl C X.env) fp) (inner c scope) where
  G := ⟨Y.G.hP, Y.G.hw, Y.G.hK, Y.G.hmg, Y.G.hbase, Y.G.calm, Y.G.nd, Y.G.room, Y.G.guards, takes0, PassesOwn.never, Y.G.sm⟩
  M := Y.M
  hN := Y.hN
  hsc := by
    show relS scope X.env.scope = relS scope c.sc
    rw [Y.hsc]
  kind := hk
  hlm := fun h => by cases h
  htr := fun h => by cases h
  hst := fun x h => by
    unfold inner at h
    simp only at h
    show (scope.names.lookup x == some .cell) = true ∨ (relS scope c.sc).names.lookup x = some .local
    split at h
    · rename_i e; rw [e]; exact .inl rfl
    · rename_i e
      exact .inr (lookup_relS_keep (by intro z; cases z) e)
    · cases h
theorem compL_exc {f : D → Sto → R (Option D)} : ∀ {ds : List D} {s s' : Sto} {c' : Nat} {p : D}, compL f ds s ≠ .exc c' p s'
  | [], _, _, _, _ => by intro h; cases h
  | x :: xs, s, s', c', p => by
    intro h
    simp only [compL] at h
    cases e : f x s with
    | ok o s1 =>
      rw [e] at h
      simp only at h
      cases e2 : compL f xs s1 with
      | ok r s2 => rw [e2] at h; cases h
      | exc _ _ _ => exact compL_exc e2
      | bad => rw [e2] at h; cases h
    | exc _ _ _ => rw [e] at h; cases h
    | bad => rw [e] at h; cases h
theorem compL_cons {f : D → Sto → R (Option D)} {x : D} {xs : List D} {s s' : Sto} {r : List D} (h : compL f (x :: xs) s = .ok r s') : ∃ o s1 r1, f x s = .ok o s1 ∧ compL f xs s1 = .ok r1 s' ∧ r = (match o with | some d => d :: r1 | none => r1) := by
  simp only [compL] at h
  cases e : f x s with
  | ok o s1 =>
    rw [e] at h
    simp only at h
    cases e2 : compL f xs s1 with
    | ok r1 s2 =>
      rw [e2] at h
      simp only at h
      cases h
      exact ⟨o, s1, r1, rfl, e2, rfl⟩
    | exc _ _ _ => rw [e2] at h; cases h
    | bad => rw [e2] at h; cases h
  | exc _ _ _ => rw [e] at h; cases h
  | bad => rw [e] at h; cases h
/-- a turn's part -/
def turnF (cf : Nat → List D → Sto → R W) (e : E) (G : G) (own : List Nat) (cd : C) (fr : Fr) : D → Sto → R (Option D) := fun x s2 => (opt (putG G x (wipeE fr own)) s2).bind fun env' s2 => (evC cf cd env' s2).bind fun k s3 =>
  if k then (ev cf e env' s3).bind fun y s4 => .ok (some y.d) s4 else .ok none s3
theorem own_map (c : Cc) (own : List Nat) : (ownN c own).map (·.2) = own := by
  unfold ownN
  rw [List.map_map]
  show List.map (fun i => i) own = own
  exact List.map_id' own
theorem wipe_same {σ σ' : L2.St} {own sl : List Nat} (hl : σ'.length = σ.length) (hsub : ∀ j ∈ sl, j ∈ own) (ag : ∀ j, j ∉ sl → σ'[j]? = (wipe σ own)[j]?) : wipe σ' own = wipe σ own := by
  refine List.ext_getElem? fun j => ?_
  by_cases hj : j ∈ own
  · rw [wipe_at _ _ _ hj, wipe_at _ _ _ hj, hl]
  · rw [wipe_out hj, ag j fun z => hj (hsub j z)]
def gAny' (g : Gb) (G : G) : TG := fun v σ H Q => ∃ b', TGt g b' G v σ H Q
def tAny' (g : Gb) (f : Fr → Sto → R Bool) : TT := fun σ H Q => ∃ b', T g b' wx0 BR f σ H Q
def eAny' (g : Gb) (f : Fr → Sto → R W) : TE := fun σ H Q => ∃ b', T g b' wx0 DR f σ H Q
theorem comp_T {elt : E} {G : G} {own : List Nat} {it : It} {cd : C} (hsub : ∀ j ∈ slG G, j ∈ own) {Q : VK} (q' : T g b wx WR (ev cf (.comp elt G own it cd)) σ H Q) :
    tLc (TW g b wx (evI cf it) (keepOf it)) (gAny' g G) (tAny' g (evC cf cd)) (eAny' g (ev cf elt)) own σ H Q := by
  obtain ⟨F, ρ, fr, st, A, p⟩ := q'
  simp only [ev] at p
  refine ⟨F, ρ, fr, st, A, p.seq fun ds s1 F1 ρ1 H1 J _ S P A1 wk p1 => fun D hD => ?_⟩
  split at p1
  · exact p1.elim
  · rename_i hown
    have hown : ∀ (i : Nat) xs, fr[i]? = some (.mut xs) → i ∉ own := fun i xs e hi => hown (List.any_eq_true.mpr ⟨i, hi, by unfold getM; rw [e]; rfl⟩)
    change Po g b wx WR ((compL (turnF cf elt G own cd fr) ds s1).bind _) F1 ρ1 σ fr Q at p1
    cases e0 : compL (turnF cf elt G own cd fr) ds s1 with
    | bad => rw [e0] at p1; exact p1.elim
    | exc _ _ _ => exact absurd e0 compL_exc
    | ok ys s5 =>
      rw [e0] at p1
      simp only [R.bind] at p1
      split at p1
      · rename_i hz
        have np : ∀ q ∈ b.P, q.1 ≠ D := fun q hq => A1.npin hD hq
        refine ⟨fun i m H2 => m = ds.length - i ∧ i ≤ ds.length ∧ ∃ F2 ρ2 st2 accD acc r, Same F1 F2 ∧ ρ1 <+: ρ2 ∧ Ab g { b with P := (D, .lst acc) :: b.P } F2 ρ2 σ H2 fr st2 ∧ VRs g F2 ρ2 accD acc ∧ compL (turnF cf elt G own cd fr) (ds.drop i) st2 = .ok r s5 ∧ accD ++ r = ys, ⟨_, rfl, Nat.zero_le _, F1, ρ1, s1, [], [], ys, .refl _, pfx _, A1.pinNew _ (nt_lst _) hD, .nil, e0, rfl⟩, ?_⟩
        rintro i m H2 ⟨rfl, hi, F2, ρ2, st2, accD, acc, r, S2, P2, A2, ra, ec, ey⟩
        have pn := A2.pin (D, .lst acc) List.mem_cons_self
        by_cases hlt : i < ds.length
        · refine .inr ⟨wk.go i _ F2 ρ2 σ H2 fr st2 hlt S2 P2 A2 fun _ _ => ⟨rfl, rfl⟩, fun H3 => ∃ F3 ρ3 st3 accD acc r, Same F1 F3 ∧ ρ1 <+: ρ3 ∧ Ab g { b with P := (D, .lst acc) :: b.P } F3 ρ3 σ H3 fr st3 ∧ VRs g F3 ρ3 accD acc ∧ compL (turnF cf elt G own cd fr) (ds.drop (i + 1)) st3 = .ok r s5 ∧ accD ++ r = ys, fun H3 h3 => ⟨_, by omega, rfl, hlt, h3⟩, fun x H3 y => ?_⟩
          obtain ⟨d, F3, ed, S3, A3, rd⟩ := wk.yld i _ F2 ρ2 σ H2 fr st2 x H3 hlt S2 P2 A2 (fun _ _ => ⟨rfl, rfl⟩) y
          have edrop : ds.drop i = d :: ds.drop (i + 1) := by
            have h1 := List.getElem?_eq_some_iff.mp ed
            obtain ⟨h1, h2⟩ := h1
            rw [← h2]
            exact List.drop_eq_getElem_cons hlt
          rw [edrop] at ec
          obtain ⟨o, s3, r1, ef, ec', er⟩ := compL_cons ec
          unfold turnF at ef
          cases eg : putG G d (wipeE fr own) with
          | none => rw [eg] at ef; cases ef
          | some fr' =>
            rw [eg] at ef
            simp only [opt, R.bind] at ef
            refine ⟨_, F3, ρ2, wipeE fr own, st2, d, fr', A3.wiped own, rd, eg, fun σ' A4 ag => ⟨?_, ?_⟩⟩
            · exact wipe_same (by rw [← A4.len, putG_len _ _ _ _ eg, wipeE_len, A3.len]) hsub ag
            · have agm : ∀ (j : Nat) xs, fr[j]? = some (.mut xs) → fr'[j]? = some (.mut xs) ∧ σ'[j]? = σ[j]? := fun j xs e => by
                have n1 := hown j xs e
                have n2 : j ∉ slG G := fun z => n1 (hsub j z)
                exact ⟨by rw [putG_out G d _ fr' j eg n2, wipeE_out fr own j n1]; exact e, by rw [ag j n2, wipe_out n1]⟩
              refine ⟨_, F3, ρ2, fr', st2, A4, ?_⟩
              cases eC : evC cf cd fr' st2 with
              | bad => rw [eC] at ef; cases ef
              | exc _ _ _ => rw [eC] at ef; cases ef
              | ok q s4 =>
                rw [eC] at ef
                simp only [R.bind] at ef
                intro F5 ρ5 H5 q' S5 P5 A5 rq
                cases rq
                cases q with
                | false =>
                  rw [if_neg Bool.false_ne_true] at ef ⊢
                  cases ef
                  simp only at er
                  subst er
                  exact ⟨F5, ρ5, _, accD, acc, _, (S2.trans S3).trans S5, P2.trans P5, A3.back A5 S5 P5 agm, ra.mono (S3.trans S5) P5, ec', ey⟩
                | true =>
                  rw [if_pos rfl] at ef ⊢
                  refine ⟨_, F5, ρ5, fr', s4, A5, ?_⟩
                  cases eE : ev cf elt fr' s4 with
                  | bad => rw [eE] at ef; cases ef
                  | exc _ _ _ => rw [eE] at ef; cases ef
                  | ok w s6 =>
                    rw [eE] at ef
                    simp only [R.bind] at ef
                    cases ef
                    simp only at er
                    subst er
                    intro F7 ρ7 H7 v S7 P7 A7 rv
                    have rv' : VR g F7 ρ7 w.d v := rv
                    have pn7 := A7.pin (D, .lst acc) List.mem_cons_self
                    refine ⟨acc, pn7.1, ?_, F7, ρ7, s3, accD ++ [w.d], acc ++ [v], r1, ((S2.trans S3).trans S5).trans S7, (P2.trans P5).trans P7, ?_, ?_, ec', by rw [List.append_assoc]; exact ey⟩
                    · rw [← ra.length]
                      have : (accD ++ w.d :: r1).length ≤ sizeLine := by rw [ey]; exact hz
                      rw [List.length_append, List.length_cons] at this
                      omega
                    · have B : Ab g { b with P := (D, .lst acc) :: b.P } F7 ρ7 σ H7 fr s3 := A3.back A7 (S5.trans S7) (P5.trans P7) agm
                      exact B.repin (.lst (acc ++ [v])) (nt_lst _) (fun _ z => by cases z) np
                    · exact (ra.mono ((S3.trans S5).trans S7) (P5.trans P7)).append (.one rv')
        · have ei : i = ds.length := by omega
          subst ei
          rw [List.drop_length] at ec
          cases ec
          rw [List.append_nil] at ey
          subst ey
          exact .inl ⟨wk.stop _ _ F2 ρ2 σ H2 fr _ rfl S2 P2 A2 fun _ _ => ⟨rfl, rfl⟩, p1 F2 ρ2 H2 (.ref D) S2 P2 A2.unpin ⟨D, acc, rfl, pn.1, ra, pn.2.1, pn.2.2.1, pn.2.2.2.1, pn.2.2.2.2, np⟩⟩
      · exact p1.elim
theorem set_fold {iter : Expr} (hs : noSet iter = true) (env : PySem.Env) : ∀ x, foldedSetIterable iter env x = pure x := by
  intro x
  cases iter <;> first | rfl | cases hs
theorem e_comp (Y : Cy g wx cf k X c) {elt : E} {G : G} {own : List Nat} {it : It} {cd : C} {elt' tg iter : Expr} {ifs : List Expr} {scope : Scope} {pos : Pos} (hb : blkC c.N c.sc scope (ownN c own) = true) (hs : noSet iter = true)
    (hsub : ∀ j ∈ slG G, j ∈ own)
    (hI : PI X tg iter (TW g b wx (evI cf it) (keepOf it)))
    (hG : ∀ s H C cl fp b', PG (X.blk s H scope (compEnvC scope cl C X.env) fp) tg (TGt g b' G))
    (hC : ∀ s H C cl fp b', PTs (X.blk s H scope (compEnvC scope cl C X.env) fp) ifs (T g b' wx0 BR (evC cf cd)))
    (hE : ∀ s H C cl fp b', PE (X.blk s H scope (compEnvC scope cl C X.env) fp) elt' (T g b' wx0 DR (ev cf elt))) :
    PE X (.ListComp elt' [⟨tg, iter, ifs, 0⟩] scope pos) (T g b wx WR (ev cf (.comp elt G own it cd))) := PE.by fun σ H Q q' => by
  refine ⟨_, pe_lc (own := ownN c own) (g := gAny' g G) (tt := tAny' g (evC cf cd)) (te := eAny' g (ev cf elt)) Y.G.calm Y.G.nd hI
    (blkOk_by (by rw [Y.hN, Y.hsc]; exact hb)) (fun s H C cl fp => PG.by fun v σ H Q ⟨b', q⟩ => ⟨_, hG _ _ _ _ _ b', q⟩)
    (fun s H C cl fp => ⟨fun pins s σ H Q I ⟨b', q⟩ => (hC _ _ _ _ _ b').run pins s σ H Q I q⟩) (fun s H C cl fp => PE.by fun σ H Q ⟨b', q⟩ => ⟨_, hE _ _ _ _ _ b', q⟩) (set_fold hs _), ?_⟩
  rw [own_map]
  exact comp_T hsub q'
theorem s_setLc (Y : Cy g wx cf k X c) {i : Nat} {y : Str} {py spos : Pos} {elt : E} {G : G} {own : List Nat} {it : It} {cd : C} {elt' tg iter : Expr} {ifs : List Expr} {scope : Scope} {pos : Pos} (hy : X.N[i]? = some y) (hyl : X.env.scope.names.lookup y = some .local)
    (hsw : swapsWith (.ListComp elt' [⟨tg, iter, ifs, 0⟩] scope pos) (some (.Name y py)) spos.line X.env = pure true)
    (hb : blkC c.N c.sc scope (ownN c own) = true) (hs : noSet iter = true) (hsub : ∀ j ∈ slG G, j ∈ own)
    (hI : PI X tg iter (TW g b wx (evI cf it) (keepOf it)))
    (hG : ∀ s H C cl fp b', PG (X.blk s H scope (compEnvC scope cl C X.env) fp) tg (TGt g b' G))
    (hC : ∀ s H C cl fp b', PTs (X.blk s H scope (compEnvC scope cl C X.env) fp) ifs (T g b' wx0 BR (evC cf cd)))
    (hE : ∀ s H C cl fp b', PE (X.blk s H scope (compEnvC scope cl C X.env) fp) elt' (T g b' wx0 DR (ev cf elt))) :
    PS X (.Assign [.Name y py] (.ListComp elt' [⟨tg, iter, ifs, 0⟩] scope pos) spos) (tAsg (T g b wx WR (ev cf (.comp elt G own it cd))) (gName i)) := PS.by fun D σ H q' => by
  refine ⟨_, ps_setLc (i := i) (own := ownN c own) (g := gAny' g G) (tt := tAny' g (evC cf cd)) (te := eAny' g (ev cf elt)) Y.G.calm Y.G.nd hy hyl hsw hI
    (blkOk_by (by rw [Y.hN, Y.hsc]; exact hb)) (fun s H C cl fp => PG.by fun v σ H Q ⟨b', q⟩ => ⟨_, hG _ _ _ _ _ b', q⟩)
    (fun s H C cl fp => ⟨fun pins s σ H Q I ⟨b', q⟩ => (hC _ _ _ _ _ b').run pins s σ H Q I q⟩) (fun s H C cl fp => PE.by fun σ H Q ⟨b', q⟩ => ⟨_, hE _ _ _ _ _ b', q⟩) (set_fold hs _), ?_⟩
  rw [own_map]
  exact comp_T hsub q'

/-! ### all expressions -/
theorem mA0_plain : ∀ (a : A) (es : List Expr) (env : PySem.Env), mA0 c a es = true → (starEach es env).any (·.1) = false
  | .nil, [], _, _ => rfl
  | .nil, _ :: _, _, h => by cases h
  | .cons _ _, [], _, h => by cases h
  | .cons e r, e' :: es, env, h => by
    simp only [mA0, Bool.and_eq_true] at h
    rw [noStar_cons h.1.1]
    show (false || (starEach es env).any (·.1)) = false
    rw [mA0_plain r es env h.2]
    rfl
  | .star _ _, _, _, h => by cases h
theorem t_other {a : E} {x : Expr} (hx : PE X x (T g b wx DR (ev cf a))) (h : ∀ o v p, x ≠ .BoolOp o v p) (h2 : ∀ o v p, x ≠ .UnaryOp o v p) (h3 : ∀ o v q p, x ≠ .IfExp o v q p) (h4 : ∀ o v q p, x ≠ .Compare o v q p) : PT X x (T g b wx BR (evB cf a)) := by
  refine t_val hx fun whole => ?_
  cases x <;> first | rfl | exact absurd rfl (h _ _ _) | exact absurd rfl (h2 _ _ _) | exact absurd rfl (h3 _ _ _ _) | exact absurd rfl (h4 _ _ _ _)
end
end MP

set_option Elab.async false
set_option linter.all false
set_option maxRecDepth 100000
set_option maxHeartbeats 8000000
namespace MP
open PySem PySem.Spec PyProof.Rows L2
/-! ### lists and tuples alike -/
def SqK (t : Bool) (K : PySem.W.Frag) (H : Hp) (a : Addr) (xs : List V) : Prop := match t with
  | true => SqT K H a xs
  | false => SqL K H a xs
def ItK (t : Bool) (h : Heap) (it a : Addr) (i : Nat) : Prop := match t with
  | true => h.IsTupleIter it a i
  | false => h.IsListIter it a i
def HdK (t : Bool) (h : Heap) (a : Addr) (its : Array Value) : Prop := match t with
  | true => h.IsTuple a its
  | false => h.IsList a its
def obK (t : Bool) (a : Addr) : Obj := match t with
  | true => { cls := .type "tuple_iterator", data := .fields #[.ref a, .int 0 0] }
  | false => { cls := .type "list_iterator", data := .fields #[.ref a, .int 0 0] }
theorem drawsK (t : Bool) {prog : Program} {w : World} {A : Around} (hh : A.handled = none) (it a : Addr) (hne : a ≠ it) (items : Array Value) :
    Draws prog w A it [it, a] items.size (fun i v => items[i]? = some v) (fun i h => ItK t h it a i ∧ HdK t h a items) := by
  cases t
  · exact Draws.list hh it a hne items
  · exact Draws.tuple hh it a hne items
theorem beginsK (t : Bool) (a : Addr) (items : Array Value) : Begins (.ref a) (obK t a) fun h => HdK t h a items := by
  cases t
  · exact begins_list a items
  · exact begins_tuple a items
theorem ItK.ob {t : Bool} {h : Heap} {it a : Addr} {i : Nat} (x : ItK t h it a i) : ∃ o, h.get? it = some o ∧ ∀ v, o.data ≠ .cell v := by
  cases t <;> obtain ⟨o, h1, _, h2⟩ := x <;> exact ⟨o, h1, fun v q => by rw [h2] at q; cases q⟩
theorem ItK.at' {t : Bool} {h h' : Heap} {it a : Addr} {i : Nat} (x : ItK t h it a i) (k : ∀ o, h.get? it = some o → h'.get? it = some o) : ItK t h' it a i := by
  cases t
  · exact Heap.IsListIter.at x k
  · exact Heap.IsTupleIter.at x k
theorem ItK.new {t : Bool} {h : Heap} {it a : Addr} (x : h.get? it = some (obK t a)) : ItK t h it a 0 := by
  cases t <;> exact ⟨_, x, rfl, rfl⟩
section
variable {X : Cx} {pins : List (Addr × Obj)} {σ : L2.St} {H : Hp} {s : Shared} {t : Bool} {a : Addr} {xs ys : List V}
theorem SqK.held (h : SqK t X.K H a xs) (I : Inv X pins σ H s) : ∃ its : List Value, Vals xs its ∧ HdK t s.heap a its.toArray ∧ a < s.heap.objs.size := by
  cases t
  · obtain ⟨its, rv, p, _⟩ := I.list h
    exact ⟨its, rv, p.isList, p.lt⟩
  · obtain ⟨its, rv, p, _⟩ := I.tuple h
    obtain ⟨o1, ho1, _⟩ := id p
    exact ⟨its, rv, p, Heap.lt_size ho1⟩
theorem SqK.inj (h : SqK t X.K H a xs) (h' : SqK t X.K H a ys) (I : Inv X pins σ H s) : xs = ys := by
  cases t
  · exact I.list_inj h h'
  · exact I.tuple_inj h h'
end
def JzK (t1 t2 : Bool) (K : PySem.W.Frag) (a b : Addr) : L2.It :=
  ⟨fun i H => ∃ (xs ys : List V) (x y : V), SqK t1 K H a xs ∧ SqK t2 K H b ys ∧ xs[i]? = some x ∧ ys[i]? = some y,
    fun i H v H' => ∃ T x y, v = .ref T ∧ H T = none ∧ H' = upd H T (.tup [x, y]) ∧ (∀ xs, SqK t1 K H a xs → xs[i]? = some x) ∧ ∀ ys, SqK t2 K H b ys → ys[i]? = some y,
    fun i H => ∃ xs ys : List V, SqK t1 K H a xs ∧ SqK t2 K H b ys ∧ min xs.length ys.length = i⟩
theorem turn_zipK {P : Program} {w : World} {K : PySem.W.Frag} {elts : List Expr} {kk : Nat} {tpos : Pos} {t1 t2 : Bool} {a b z TI TO i1 i2 : Addr} (S : ZipSep2 z TI TO i1 i2 [i1, a] [i2, b]) (n1 : a ≠ i1) (n2 : b ≠ i2) :
    Turn P w K (.Tuple elts kk tpos) (JzK t1 t2 K a b) [z, TI, TO, i1, i2] z (fun i h => IsZip h z TI TO .none ∧ IsTupOf2 h TI (.ref i1) (.ref i2) ∧ (∃ x y, IsTupOf2 h TO x y) ∧ ItK t1 h i1 a i ∧ ItK t2 h i2 b i) where
  mem := by simp
  obj := fun i h st c hc => by
    obtain ⟨hz, hTI, ⟨x, y, hTO⟩, h1, h2⟩ := st
    have e' : c = z ∨ c = TI ∨ c = TO ∨ c = i1 ∨ c = i2 := by simpa using hc
    rcases e' with q | q | q | q | q
    · rw [q]; exact ⟨_, hz, fun v q => nomatch q⟩
    · rw [q]; exact ⟨_, hTI, fun v q => nomatch q⟩
    · rw [q]; exact ⟨_, hTO, fun v q => nomatch q⟩
    · rw [q]; exact h1.ob
    · rw [q]; exact h2.ob
  keep := fun i h h' st k => by
    obtain ⟨hz, hTI, ⟨x, y, hTO⟩, h1, h2⟩ := st
    exact ⟨k z (by simp) _ hz, k TI (by simp) _ hTI, ⟨x, y, k TO (by simp) _ hTO⟩, h1.at' fun o q => k i1 (by simp) o q, h2.at' fun o q => k i2 (by simp) o q⟩
  item := by
    intro X hP hw hK hc i pins s σ H E I hf st hg
    subst hP hw hK
    obtain ⟨hz, hTI, hTO, h1, h2⟩ := st
    obtain ⟨xs, ys, x, y, hqx, hqy, hx, hy⟩ := hg
    obtain ⟨its, rv, p, _⟩ := hqx.held I
    obtain ⟨its2, rv2, p2, _⟩ := hqy.held I
    have hh : X.A.in1.handled = none := I.ok.hd hc
    have N := GoesN.zip2 (elts := elts) (x1 := kk) (pos := tpos) S (drawsK (prog := X.prog) (w := X.w) (A := X.A.in1) t1 hh i1 a n1 its.toArray) (drawsK t2 hh i2 b n2 its2.toArray)
    obtain ⟨u, hu, ru⟩ := rv.get hx
    obtain ⟨u2, hu2, ru2⟩ := rv2.get hy
    have hi : i < min its.toArray.size its2.toArray.size := by
      have q1 := (List.getElem?_eq_some_iff.mp hu).1
      have q2 := (List.getElem?_eq_some_iff.mp hu2).1
      simp only [List.size_toArray]; omega
    refine N.goes i s _ _ hi ⟨hz, hTI, hTO, ⟨h1, p⟩, ⟨h2, p2⟩⟩ fun v h' tk hY st' hk htk => ?_
    obtain ⟨T, x', y', rfl, hT0, ex, ey, hT⟩ := hY
    have ex' : x' = u := by simpa [hu] using ex.symm
    have ey' : y' = u2 := by simpa [hu2] using ey.symm
    subst ex'; subst ey'
    have lt : ∀ c ∈ [z, TI, TO, i1, i2], c < s.heap.objs.size := fun c hcm => by
      have e' : c = z ∨ c = TI ∨ c = TO ∨ c = i1 ∨ c = i2 := by simpa using hcm
      rcases e' with q | q | q | q | q
      · rw [q]; exact Heap.lt_size hz
      · rw [q]; exact Heap.lt_size hTI
      · rw [q]; obtain ⟨_, _, hTO⟩ := hTO; exact Heap.lt_size hTO
      · rw [q]; obtain ⟨_, e1, _⟩ := h1.ob; exact Heap.lt_size e1
      · rw [q]; obtain ⟨_, e2, _⟩ := h2.ob; exact Heap.lt_size e2
    have new : ObjOk X.prog X.w (upd H T (.tup [x, y])) h' T (.tup [x, y]) := ⟨by show 2 ≤ sizeLine; decide, [x', y'], .cons ru (.cons ru2 .nil), hT⟩
    have I1 : Inv X pins σ (upd H T (.tup [x, y])) { s with heap := h', toks := tk } :=
      I.turnedNew (t' := tk) (ch := [z, TI, TO, i1, i2]) (fun c o hb q => hk c o (fun q' => hb (by
        have e' : c = z ∨ c = TO ∨ c = i1 ∨ c = i2 := by simpa using q'
        rcases e' with r | r | r | r <;> simp [r])) q) hf hT0 new
    obtain ⟨s1, s2, s3, s4, s5⟩ := st'
    exact ⟨.ref T, _, I1, rfl, ⟨T, x, y, rfl, I.hok.fresh hT0, rfl, fun l hl => by rw [hl.inj hqx I]; exact hx, fun l hl => by rw [hl.inj hqy I]; exact hy⟩, ⟨s1, s2, s3, s4.1, s5.1⟩, fun c hcm => by
      rw [upd_ne (Nat.ne_of_lt (Nat.lt_of_lt_of_le (lt c hcm) hT0))]
      exact (hf c hcm).1⟩
  done := by
    intro X hP hw hK hc i pins s σ H E I hf st hg
    subst hP hw hK
    obtain ⟨hz, hTI, hTO, h1, h2⟩ := st
    obtain ⟨xs, ys, hqx, hqy, hend⟩ := hg
    obtain ⟨its, rv, p, _⟩ := hqx.held I
    obtain ⟨its2, rv2, p2, _⟩ := hqy.held I
    have hh : X.A.in1.handled = none := I.ok.hd hc
    have N := GoesN.zip2 (elts := elts) (x1 := kk) (pos := tpos) S (drawsK (prog := X.prog) (w := X.w) (A := X.A.in1) t1 hh i1 a n1 its.toArray) (drawsK t2 hh i2 b n2 its2.toArray)
    have hi : min its.toArray.size its2.toArray.size = i := by
      rw [← hend, rv.length, rv2.length, List.size_toArray, List.size_toArray]
    refine N.stops s _ _ (by rw [hi]; exact ⟨hz, hTI, hTO, ⟨h1, p⟩, ⟨h2, p2⟩⟩) fun h' tk hk htk => I.turnedL (t' := tk) (ch := [z, TI, TO, i1, i2]) (fun c o hb q => hk c o (fun q' => hb (by
        have e' : c = z ∨ c = TO ∨ c = i1 ∨ c = i2 := by simpa using q'
        rcases e' with r | r | r | r <;> simp [r])) q) hf
  self := fun A i s Q E st h => wpAny_pyIter_zip st.1 h
def iZipK (K : PySem.W.Frag) (ta : TA) : TI := fun σ H R => ta σ H fun vs H1 => ∃ t1 t2 a b xs ys, vs = [.ref a, .ref b] ∧ SqK t1 K H1 a xs ∧ SqK t2 K H1 b ys ∧ R (JzK t1 t2 K a b) H1
theorem pi_zipK {X : Cx} {e e2 : Expr} {ta : TA} {p pos tpos : Pos} {elts : List Expr} {kk : Nat} (hg : Gl X "zip") (hm : X.mg "zip" = none) (ha : PA X [e, e2] ta)
    (hs : starEach [e, e2] X.env = (false, eval e X.env) :: starEach [e2] X.env) (hpl : (backTo pos (starEach [e2] X.env)).any (·.1) = false) :
    PI X (.Tuple elts kk tpos) (.Call (.Name "zip" p) [e, e2] [] pos) (iZipK X.K ta) := by
  refine ⟨fun pins s σ H R I h => ?_⟩
  refine Call_ (ld_blt I hg hm PyProof.Rows.boot_zip (PyProof.Rows.callWith_type1 (thn (ha.run pos pins s σ H _ I h) fun us s1 ⟨vs, H1, I1, r1, q1⟩ => ?_) hs hpl))
  obtain ⟨t1, t2, a, b, xs, ys, rfl, hqx, hqy, q⟩ := q1
  cases r1 with
  | cons r rr =>
    cases rr with
    | cons r' rr =>
      cases rr
      cases r
      cases r'
      obtain ⟨its, rv, p1, la⟩ := hqx.held I1
      obtain ⟨its2, rv2, p2, lb⟩ := hqy.held I1
      refine zip_begins2 (beginsK t1 a its.toArray) (beginsK t2 b its2.toArray) p1 p2 fun h' hz hTI hTO h1 h2 hsz hk => wpAny_pyIter_zip hz ?_
      have I2 : Inv X pins σ H1 { s1 with heap := h' } := I1.kept (t' := s1.toks) hk
      have S := zip_sep2 (N := s1.heap.objs.size) (fp1 := [a]) (fp2 := [b]) (fun c hc => by rw [List.mem_singleton.mp hc]; exact la) (fun c hc => by rw [List.mem_singleton.mp hc]; exact lb)
      refine ⟨s1.heap.objs.size + 4, [s1.heap.objs.size + 4, s1.heap.objs.size + 2, s1.heap.objs.size + 3, s1.heap.objs.size, s1.heap.objs.size + 1], _, _, H1, rfl, I2, turn_zipK S (Nat.ne_of_lt la) (Nat.ne_of_lt (Nat.lt_succ_of_lt lb)), ⟨hz, hTI, ⟨_, _, hTO⟩, .new h1, .new h2⟩, fun c hcm => ?_, q⟩
      have e' : c = s1.heap.objs.size + 4 ∨ c = s1.heap.objs.size + 2 ∨ c = s1.heap.objs.size + 3 ∨ c = s1.heap.objs.size ∨ c = s1.heap.objs.size + 1 := by simpa using hcm
      have hle : s1.heap.objs.size ≤ c := by
        rcases e' with z | z | z | z | z
        · rw [z]; exact Nat.le_add_right _ _
        · rw [z]; exact Nat.le_add_right _ _
        · rw [z]; exact Nat.le_add_right _ _
        · rw [z]; exact Nat.le_refl _
        · rw [z]; exact Nat.le_add_right _ _
      exact I1.fpOk hle (I1.hok.fresh hle)

/-! ### enumerate -/
theorem meets_enumerate_newK {v : Value} {o : Obj} {H : Heap → Prop} (B : Begins v o H) :
    Meets (Builtin.«enumerate.__new__» ⟨[.type "enumerate", v], []⟩) (fun _ R s => H s.heap ∧
      R (.ok (.ret (.ref (s.heap.push o).objs.size))) { s with heap := (s.heap.push o).push { cls := .type "enumerate", data := .fields #[.none, .bool false, .ref s.heap.objs.size, rawInt 0, .none, .none] } }) :=
  .of_wp fun prog w A R s h => by
    obtain ⟨hp, g, d, tk, os⟩ := s; obtain ⟨h1, h⟩ := h
    have hsub := sub_enumerate
    have q1 : ∀ {A' : Around} {E : Value → Shared → Prop} {Q : Value → Shared → Prop}, Q (.ref hp.objs.size) ⟨hp.push o, g, d, tk, os⟩ → wpAny (model prog w) A' (pyIter v) Q E ⟨hp, g, d, tk, os⟩ :=
      fun q => B.iter prog w _ _ ⟨hp, g, d, tk, os⟩ _ h1 q
    wp_walk using q1
    refine wpAny_stack_any fun st => wpAny_pure ?_
    split
    · rename_i c _ _ _ _ _
      cases (c == Value.type "enumerate")
      · wp_walk using q1
        exact ⟨_, rfl, h⟩
      · wp_walk using q1
        exact ⟨_, rfl, h⟩
    · wp_walk using q1
      exact ⟨_, rfl, h⟩
theorem enum_beginsK {prog : Program} {w : World} {A : Around} {E : Value → Shared → Prop} {s : Shared} {v : Value} {o : Obj} {H : Heap → Prop} {Q : Value → Shared → Prop} (B : Begins v o H) (h1 : H s.heap)
    (h : ∀ h', IsEnum h' (s.heap.objs.size + 1) s.heap.objs.size 0 .none → h'.get? s.heap.objs.size = some o → h'.objs.size = s.heap.objs.size + 2 →
      (∀ b o, s.heap.get? b = some o → h'.get? b = some o) → Q (.ref (s.heap.objs.size + 1)) { s with heap := h' }) :
    wpAny (model prog w) A (call (.type "enumerate") [v]) Q E s := by
  refine callType_new F.called_enumerate (by decide) (F.typeCall_enumerate_1 _) (F.newCall_enumerate_1 _) (fun obj => F.args_object_init_2 obj _) F.entry_enumerate_new
    (meets_enumerate_newK B) ⟨h1, ?_⟩
  have hz : (s.heap.push o).objs.size = s.heap.objs.size + 1 := Heap.size_push ..
  show _ ∧ _
  rw [hz]
  have he : IsEnum ((s.heap.push o).push { cls := .type "enumerate", data := .fields #[.none, .bool false, .ref s.heap.objs.size, rawInt 0, .none, .none] }) (s.heap.objs.size + 1) s.heap.objs.size 0 .none := by
    have := Heap.get?_push_size (s.heap.push o) (o := { cls := .type "enumerate", data := .fields #[.none, .bool false, .ref s.heap.objs.size, rawInt 0, .none, .none] }) rfl
    rw [hz] at this; exact this
  refine ⟨⟨_, he, rfl⟩, h _ he (Heap.get?_push_of_some _ (Heap.get?_push_size _ B.free)) (by rw [Heap.size_push, hz]) fun b o x => Heap.get?_push_of_some _ (Heap.get?_push_of_some _ x)⟩
def JeK (t : Bool) (K : PySem.W.Frag) (a : Addr) : L2.It :=
  ⟨fun i H => ∃ (xs : List V) (x : V), SqK t K H a xs ∧ xs[i]? = some x,
    fun i H v H' => ∃ T x, v = .ref T ∧ H T = none ∧ H' = upd H T (.tup [.int (i : Nat), x]) ∧ ∀ xs, SqK t K H a xs → xs[i]? = some x,
    fun i H => ∃ xs : List V, SqK t K H a xs ∧ xs.length = i⟩
theorem turn_enumK {P : Program} {w : World} {K : PySem.W.Frag} {elts : List Expr} {kk : Nat} {tpos : Pos} {t : Bool} {a e it : Addr} (n1 : a ≠ it) (n2 : e ≠ it) (n3 : e ≠ a) :
    Turn P w K (.Tuple elts kk tpos) (JeK t K a) [e, it] e (fun i h => (∃ old, IsEnum h e it (0 + (i : Int)) old) ∧ ItK t h it a i) where
  mem := by simp
  obj := fun i h st c hc => by
    obtain ⟨⟨old, he⟩, h1⟩ := st
    have e' : c = e ∨ c = it := by simpa using hc
    rcases e' with q | q
    · rw [q]; exact ⟨_, he, fun v q => nomatch q⟩
    · rw [q]; exact h1.ob
  keep := fun i h h' st k => by
    obtain ⟨⟨old, he⟩, h1⟩ := st
    exact ⟨⟨old, k e (by simp) _ he⟩, h1.at' fun o q => k it (by simp) o q⟩
  item := by
    intro X hP hw hK hc i pins s σ H E I hf st hg
    subst hP hw hK
    obtain ⟨he, h1⟩ := st
    obtain ⟨xs, x, hqx, hx⟩ := hg
    obtain ⟨its, rv, p, _⟩ := hqx.held I
    have hh : X.A.in1.handled = none := I.ok.hd hc
    have N := GoesN.enumFrom (elts := elts) (x1 := kk) (pos := tpos) 0 (drawsK (prog := X.prog) (w := X.w) (A := X.A.in1) t hh it a n1 its.toArray) e n2 (by simp [n2, n3]) (by simp)
    obtain ⟨u, hu, ru⟩ := rv.get hx
    have hi : i < its.toArray.size := by
      have q1 := (List.getElem?_eq_some_iff.mp hu).1
      simpa using q1
    refine N.goes i s _ _ hi ⟨he, ⟨h1, p⟩⟩ fun v h' tk hY st' hk htk => ?_
    obtain ⟨T, t0, x', rfl, hT0, ex, hT⟩ := hY
    have ex' : x' = u := by simpa [hu] using ex.symm
    subst ex'
    have lt : ∀ c ∈ [e, it], c < s.heap.objs.size := fun c hcm => by
      have e' : c = e ∨ c = it := by simpa using hcm
      rcases e' with q | q
      · rw [q]; obtain ⟨_, he⟩ := he; exact Heap.lt_size he
      · rw [q]; obtain ⟨_, e1, _⟩ := h1.ob; exact Heap.lt_size e1
    have new : ObjOk X.prog X.w (upd H T (.tup [.int (i : Nat), x])) h' T (.tup [.int (i : Nat), x]) := ⟨by show 2 ≤ sizeLine; decide, [.int (0 + (i : Int)) t0, x'], .cons ⟨t0, by rw [Int.zero_add]⟩ (.cons ru .nil), hT⟩
    have I1 : Inv X pins σ (upd H T (.tup [.int (i : Nat), x])) { s with heap := h', toks := tk } := I.turnedNew (t' := tk) (ch := [e, it]) hk hf hT0 new
    exact ⟨.ref T, _, I1, rfl, ⟨T, x, rfl, I.hok.fresh hT0, rfl, fun l hl => by rw [hl.inj hqx I]; exact hx⟩, ⟨st'.1, st'.2.1⟩, fun c hcm => by
      rw [upd_ne (Nat.ne_of_lt (Nat.lt_of_lt_of_le (lt c hcm) hT0))]
      exact (hf c hcm).1⟩
  done := by
    intro X hP hw hK hc i pins s σ H E I hf st hg
    subst hP hw hK
    obtain ⟨he, h1⟩ := st
    obtain ⟨xs, hqx, hend⟩ := hg
    obtain ⟨its, rv, p, _⟩ := hqx.held I
    have hh : X.A.in1.handled = none := I.ok.hd hc
    have N := GoesN.enumFrom (elts := elts) (x1 := kk) (pos := tpos) 0 (drawsK (prog := X.prog) (w := X.w) (A := X.A.in1) t hh it a n1 its.toArray) e n2 (by simp [n2, n3]) (by simp)
    have hi : its.toArray.size = i := by rw [← hend, rv.length, List.size_toArray]
    exact N.stops s _ _ (by rw [hi]; exact ⟨he, ⟨h1, p⟩⟩) fun h' tk hk htk => I.turnedL (t' := tk) (ch := [e, it]) hk hf
  self := fun A i s Q E st h => by
    obtain ⟨⟨_, he⟩, _⟩ := st
    exact wpAny_pyIter_enum he h
def iEnumK (K : PySem.W.Frag) (ta : TA) : TI := fun σ H R => ta σ H fun vs H1 => ∃ t a xs, vs = [.ref a] ∧ SqK t K H1 a xs ∧ R (JeK t K a) H1
theorem pi_enumK {X : Cx} {e : Expr} {ta : TA} {p pos tpos : Pos} {elts : List Expr} {kk : Nat} (hg : Gl X "enumerate") (hm : X.mg "enumerate" = none) (ha : PA X [e] ta) (hs : starEach [e] X.env = [(false, eval e X.env)]) :
    PI X (.Tuple elts kk tpos) (.Call (.Name "enumerate" p) [e] [] pos) (iEnumK X.K ta) := by
  refine ⟨fun pins s σ H R I h => ?_⟩
  refine Call_ (ld_blt I hg hm boot_enumerate (PyProof.Rows.callWith_type1 (thn (ha.run pos pins s σ H _ I h) fun us s1 ⟨vs, H1, I1, r1, q1⟩ => ?_) hs rfl))
  obtain ⟨t, a, xs, rfl, hqx, q⟩ := q1
  cases r1 with
  | cons r rr =>
    cases rr
    cases r
    obtain ⟨its, rv, p1, la⟩ := hqx.held I1
    refine enum_beginsK (beginsK t a its.toArray) p1 fun h' he hit hsz hk => wpAny_pyIter_enum he ?_
    have I2 : Inv X pins σ H1 { s1 with heap := h' } := I1.kept (t' := s1.toks) hk
    refine ⟨s1.heap.objs.size + 1, [s1.heap.objs.size + 1, s1.heap.objs.size], _, _, H1, rfl, I2, turn_enumK (Nat.ne_of_lt la) (Nat.succ_ne_self _) (Nat.ne_of_gt (Nat.lt_succ_of_lt la)), ⟨⟨.none, he⟩, .new hit⟩, fun b hb => ?_, q⟩
    have e' : b = s1.heap.objs.size + 1 ∨ b = s1.heap.objs.size := by simpa using hb
    have hle : s1.heap.objs.size ≤ b := by
      rcases e' with z | z
      · rw [z]; exact Nat.le_add_right _ _
      · rw [z]; exact Nat.le_refl _
    exact I1.fpOk hle (I1.hok.fresh hle)

/-! ### the readings -/
section
variable {g : Gb} {b : Bs} {wx : WX} {cf : Nat → List D → Sto → R W} {k : Nat} {X : Cx} {c : Cc} {F F' : Hp} {ρ ρ' : Rho} {σ : L2.St} {H H' : Hp} {fr : Fr} {st st' : Sto} {Q : VK}
theorem SqK.of (t : Bool) {K : PySem.W.Frag} {a : Addr} {vs : List V} (h : SqK t K F a vs) (S : Same F H) : SqK t K H a vs := by
  cases t
  · exact S.seq h
  · exact same_seqT S h
theorem items_K {d : D} {xs : List D} {v : V} (h : items d = some xs) (r : VR g F ρ d v) : ∃ t a vs, v = .ref a ∧ VRs g F ρ xs vs ∧ SqK t g.K F a vs := by
  obtain ⟨a, vs, e, r2, q⟩ := items_inv h r
  rcases q with ⟨_, q⟩ | ⟨_, q⟩
  · exact ⟨false, a, vs, e, r2, q⟩
  · exact ⟨true, a, vs, e, r2, q⟩
theorem zipF_len (xs ys : List D) : (zipF xs ys).length = min xs.length ys.length := by simp [zipF]
theorem zipF_get {xs ys : List D} {i : Nat} {x y : D} (h1 : xs[i]? = some x) (h2 : ys[i]? = some y) : (zipF xs ys)[i]? = some (.tup [x, y]) := by
  unfold zipF
  rw [List.getElem?_map, show (xs.zip ys)[i]? = some (x, y) from by rw [List.getElem?_zip_eq_some]; exact ⟨h1, h2⟩]
  rfl
theorem enumF_len (xs : List D) : (enumF xs).length = xs.length := by simp [enumF]
theorem enumF_get {xs : List D} {i : Nat} {x : D} (h1 : xs[i]? = some x) : (enumF xs)[i]? = some (.tup [.int (i : Nat), x]) := by
  unfold enumF
  rw [List.getElem?_map, List.getElem?_zipIdx, h1]
  simp
theorem walks_zip {t1 t2 : Bool} {a a' : Addr} {xs ys : List D} {vs us : List V} (h1 : SqK t1 g.K F a vs) (h2 : SqK t2 g.K F a' us) (r1 : VRs g F ρ xs vs) (r2 : VRs g F ρ ys us) : Walks g b σ fr F ρ (JzK t1 t2 g.K a a') (zipF xs ys) [] where
  go := fun i P F2 ρ2 σ' H fr' st' hi S P' A _ => by
    rw [zipF_len, r1.length, r2.length] at hi
    have k1 : i < vs.length := by omega
    have k2 : i < us.length := by omega
    exact ⟨vs, us, vs[i], us[i], .of t1 h1 (S.trans A.sub), .of t2 h2 (S.trans A.sub), List.getElem?_eq_getElem k1, List.getElem?_eq_getElem k2⟩
  stop := fun i P F2 ρ2 σ' H fr' st' hi S P' A _ => by
    rw [zipF_len, r1.length, r2.length] at hi
    exact ⟨vs, us, .of t1 h1 (S.trans A.sub), .of t2 h2 (S.trans A.sub), hi⟩
  yld := fun i P F2 ρ2 σ' H fr' st' x H' hi S P' A _ y => by
    obtain ⟨T, x1, y1, rfl, hT, rfl, f1, f2⟩ := y
    obtain ⟨d1, e1, v1⟩ := r1.get' (f1 vs (.of t1 h1 (S.trans A.sub)))
    obtain ⟨d2, e2, v2⟩ := r2.get' (f2 us (.of t2 h2 (S.trans A.sub)))
    obtain ⟨A2, S2⟩ := A.allocF (.tup [x1, y1]) (nt_tup _) hT
    exact ⟨_, _, zipF_get e1 e2, S2, A2, .tup (.inl (.inl upd_same)) (.cons ((v1.mono S P').mono S2 (pfx _)) (.cons ((v2.mono S P').mono S2 (pfx _)) .nil))⟩
theorem walks_enum {t1 : Bool} {a : Addr} {xs : List D} {vs : List V} (h1 : SqK t1 g.K F a vs) (r1 : VRs g F ρ xs vs) : Walks g b σ fr F ρ (JeK t1 g.K a) (enumF xs) [] where
  go := fun i P F2 ρ2 σ' H fr' st' hi S P' A _ => by
    rw [enumF_len, r1.length] at hi
    exact ⟨vs, vs[i], .of t1 h1 (S.trans A.sub), List.getElem?_eq_getElem hi⟩
  stop := fun i P F2 ρ2 σ' H fr' st' hi S P' A _ => by
    rw [enumF_len, r1.length] at hi
    exact ⟨vs, .of t1 h1 (S.trans A.sub), hi⟩
  yld := fun i P F2 ρ2 σ' H fr' st' x H' hi S P' A _ y => by
    obtain ⟨T, x1, rfl, hT, rfl, f1⟩ := y
    obtain ⟨d1, e1, v1⟩ := r1.get' (f1 vs (.of t1 h1 (S.trans A.sub)))
    obtain ⟨A2, S2⟩ := A.allocF (.tup [.int (i : Nat), x1]) (nt_tup _) hT
    exact ⟨_, _, enumF_get e1, S2, A2, .tup (.inl (.inl upd_same)) (.cons (.int _) (.cons ((v1.mono S P').mono S2 (pfx _)) .nil))⟩
theorem isTup_tp {tg : Expr} (h : isTup tg = true) : ∃ es kk pos, tg = .Tuple es kk pos := by
  cases tg <;> first | exact ⟨_, _, _, rfl⟩ | cases h
theorem i_zip (Y : Cy g wx cf k X c) {a b' : E} {x z tg : Expr} {y : Str} {py pos : Pos} (ht : isTup tg = true) (hy : y = "zip") (hg : glB c y = true) (hs : noStar x = true) (hs' : noStar z = true) (hx : PE X x (T g b wx DR (ev cf a))) (hz : PE X z (T g b wx DR (ev cf b'))) :
    PI X tg (.Call (.Name y py) [x, z] [] pos) (TW g b wx (evI cf (.zip a b')) []) := PI.by fun σ H Q q' => by
  obtain ⟨F, ρ, fr, st, A, p⟩ := q'
  obtain ⟨k1, k2, k3⟩ := Y.gl hg
  obtain ⟨es, kk, tp, rfl⟩ := isTup_tp ht
  subst hy
  simp only [evI] at p
  refine ⟨_, pi_zipK k1 (mem_blt (by simp [bltNames]) Y) (pa_cons hx (pa_cons hz pa_nil (noStar_cons hs' _)) (noStar_cons hs _)) (noStar_cons hs _) (by rw [backTo_any, noStar_cons hs']; rfl), ?_⟩
  refine ⟨F, ρ, fr, st, A, p.seq fun x s1 F1 ρ1 H1 v _ _ _ A1 rv0 p1 => ⟨F1, ρ1, fr, s1, A1, p1.seq fun y s2 F2 ρ2 H2 u _ S2 P2 A2 ru p2 => ?_⟩⟩
  have rv := VR.mono S2 P2 rv0
  split at p2
  · rename_i xs ys e1 e2
    obtain ⟨t1, a1, vs, rfl, r1, h1⟩ := items_K e1 rv
    obtain ⟨t2, a2, us, rfl, r2, h2⟩ := items_K e2 ru
    refine ⟨t1, t2, a1, a2, vs, us, rfl, by rw [Y.G.hK]; exact .of t1 h1 A2.sub, by rw [Y.G.hK]; exact .of t2 h2 A2.sub, ?_⟩
    rw [Y.G.hK]
    exact Po.wk p2 A2 (walks_zip h1 h2 r1 r2)
  · exact p2.elim
theorem i_enum (Y : Cy g wx cf k X c) {a : E} {x tg : Expr} {y : Str} {py pos : Pos} (ht : isTup tg = true) (hy : y = "enumerate") (hg : glB c y = true) (hs : noStar x = true) (hx : PE X x (T g b wx DR (ev cf a))) :
    PI X tg (.Call (.Name y py) [x] [] pos) (TW g b wx (evI cf (.enum a)) []) := PI.by fun σ H Q q' => by
  obtain ⟨F, ρ, fr, st, A, p⟩ := q'
  obtain ⟨k1, k2, k3⟩ := Y.gl hg
  obtain ⟨es, kk, tp, rfl⟩ := isTup_tp ht
  subst hy
  simp only [evI] at p
  refine ⟨_, pi_enumK k1 (mem_blt (by simp [bltNames]) Y) (pa_cons hx pa_nil (noStar_cons hs _)) (noStar_cons hs _), ?_⟩
  refine one p A fun x s2 F2 ρ2 H2 v A2 rv p2 => ?_
  cases e1 : items x.d with
  | none => rw [e1] at p2; exact p2.elim
  | some xs =>
    rw [e1] at p2
    obtain ⟨t1, a1, vs, rfl, r1, h1⟩ := items_K e1 rv
    refine ⟨t1, a1, vs, rfl, by rw [Y.G.hK]; exact .of t1 h1 A2.sub, ?_⟩
    rw [Y.G.hK]
    exact Po.wk p2 A2 (walks_enum h1 r1)
end
end MP

set_option Elab.async false
set_option linter.all false
set_option maxRecDepth 100000
set_option maxHeartbeats 8000000
namespace MP
open PySem PySem.Spec PyProof.Rows L2
/-! ### t[::-1] -/
section
variable {prog : Program} {w : World} {A : Around} {E : Value → Shared → Prop} {s : Shared}
theorem adjust_rev (n : Nat) : Builtin.Slice.sliceAdjust none none (-1) (n : Int) = ((n : Int) - 1, -1) := by
  unfold Builtin.Slice.sliceAdjust
  simp
theorem places_rev (n : Nat) : Builtin.Slice.slicePlaces ((n : Int) - 1) (-1) (-1) = n := by
  unfold Builtin.Slice.slicePlaces
  have h1 : ¬ ((-1 : Int) > 0) := by omega
  rw [if_neg h1]
  split
  · rw [show (- -1 : Int) = 1 by decide, Int.ediv_one]; omega
  · omega
theorem pick_rev (xs : Array Value) : ((List.range xs.size).filterMap fun (m : Nat) => xs[(((xs.size : Nat) : Int) - 1 + (m : Int) * -1).toNat]?).toArray = xs.toList.reverse.toArray := by
  have e := PySem.W.krv_pick xs
  unfold slicePick at e
  rw [PySem.W.krv_bounds] at e
  rw [show (((xs.size : Int) - 1, (-1 : Int), (-1 : Int)) : Int × Int × Int).1 = (xs.size : Int) - 1 from rfl] at e
  have e2 : sliceRange ((xs.size : Int) - 1) (-1) (-1) = (List.range xs.size).map fun k => xs.size - 1 - k := PySem.W.krv_sliceRange xs.size
  rw [← e]
  show _ = ((sliceRange ((xs.size : Int) - 1) (-1) (-1)).filterMap (xs[·]?)).toArray
  rw [e2, List.filterMap_map]
  have e4 : (fun (m : Nat) => xs[(((xs.size : Nat) : Int) - 1 + (m : Int) * -1).toNat]?) = ((fun x => xs[x]?) ∘ fun k => xs.size - 1 - k) := by
    funext m
    show xs[_]? = xs[xs.size - 1 - m]?
    have e3 : (((xs.size : Nat) : Int) - 1 + (m : Int) * -1).toNat = xs.size - 1 - m := by omega
    rw [e3]
  rw [e4]
theorem getItem_tuple_rev {t sl : Addr} {items : Array Value} {u : Tok} {Q : Value → Shared → Prop} (ht : IsTup s.heap t items) (hs : s.heap.IsSliceOf sl .none .none (.int (-1) u))
    (h : Q (.ref s.heap.objs.size) { s with heap := s.heap.push { cls := .type "tuple", data := .seq items.toList.reverse.toArray } })
    (hsz : items.size ≤ sizeLine) : wpAny (model prog w) A (getItem (.ref t) (.ref sl)) Q E s := by
  have htake : sizeOk (.seq items.toList.reverse.toArray) := by
    show items.toList.reverse.toArray.size ≤ sizeLine
    rw [List.size_toArray, List.length_reverse, Array.length_toList]
    exact hsz
  obtain ⟨os, hos, hcs, hds⟩ := id hs
  have hTs : s.TypeIs (.ref sl) "slice" := ⟨os, hos, hcs⟩
  unfold getItem
  try with_reducible refine wpAny_holding ?_
  first | refine wpAny_bind (wpAny_pure ?_) | skip
  refine wpAny_bind (wpAny_sequenceKey ht.typeIs (by decide) ?_)
  refine wpAny_bind (wpAny_callSpecial?_slot (name := Str.ofString "__getitem__") ht.typeIs PyProof.Rows.slot_tuple_getitem
    (wpAny_call_entry PyProof.Rows.slot_tuple_getitem ht.typeIs entry_tuple_getitem ?_ (args_tuple_getitem _ _)))
  show wpAny _ _ (Builtin.Tuple.tupleItemsOf (.ref t) >>= _) _ _ s
  refine wpAny_bind (tupleItemsOf_ ht ?_)
  refine wpAny_bind (wpAny_typeOf hTs ?_)
  rw [if_pos (by decide)]
  refine wpAny_bind ?_
  unfold Builtin.Slice.sliceApplied Builtin.Slice.sliceFields
  refine wpAny_bind (wpAny_bind (wpAny_field hos hds (x := .none) rfl (wpAny_bind (wpAny_field hos hds (x := .none) rfl (wpAny_bind (wpAny_field hos hds (x := .int (-1) u) rfl (wpAny_pure ?_)))))))
  refine wpAny_bind (slicePart_int ?_)
  show wpAny _ _ (if ((-1 : Int) == 0) = true then _ else _) _ _ s
  rw [if_neg (by decide)]
  refine wpAny_bind (slicePart_none (wpAny_bind (slicePart_none (wpAny_bind (wpAny_pure ?_)))))
  show wpAny _ _ (match Builtin.Slice.sliceAdjust none none (-1) (items.size : Int) with | (lo, hi) => pure (lo, (-1 : Int), Builtin.Slice.slicePlaces lo hi (-1))) _ _ s
  rw [adjust_rev]
  show wpAny _ _ (pure (((items.size : Nat) : Int) - 1, (-1 : Int), Builtin.Slice.slicePlaces (((items.size : Nat) : Int) - 1) (-1) (-1))) _ _ s
  rw [places_rev]
  refine wpAny_pure ?_
  show wpAny _ _ (if ((((items.size : Nat) : Int) - 1) == 0 && (-1 : Int) == 1 && items.size == items.size) = true then _ else _) _ _ s
  rw [if_neg (by rw [show ((-1 : Int) == 1) = false by decide, Bool.and_false]; exact Bool.false_ne_true), pick_rev]
  first
    | exact wpAny_bind (m := Builtin.Tuple.tupleExact _) (wpAny_newObj_type (wpAny_pure ⟨_, rfl, wpAny_pure h⟩) htake)
    | exact wpAny_bind (m := Builtin.Tuple.tupleExact _) (wpAny_newObj_type (wpAny_bind (wpAny_pure (wpAny_pure ⟨_, rfl, wpAny_pure h⟩))) htake)
    | exact wpAny_bind (wpAny_bind (m := Builtin.Tuple.tupleExact _) (wpAny_newObj_type (wpAny_pure (wpAny_pure ⟨_, rfl, wpAny_pure h⟩)) htake))
    | exact wpAny_bind (wpAny_bind (m := Builtin.Tuple.tupleExact _) (wpAny_newObj_type (wpAny_pure ⟨_, rfl, wpAny_pure h⟩) htake))
end
def tRevT (K : PySem.W.Frag) (te : TE) : TE := fun σ H Q => te σ H fun x H1 => ∃ a xs, x = .ref a ∧ SqT K H1 a xs ∧ ∀ p, H1 p = none → Q (.ref p) (upd H1 p (.tup xs.reverse))
theorem pe_revT {X : Cx} {e : Expr} {te : TE} {k : Nat} {p1 p2 p3 pos : Pos} (he : PE X e te) : PE X (.Subscript e (.Slice none none (some (.UnaryOp .USub (.Constant (.int 1) k p1) p2)) p3) pos) (tRevT X.K te) := by
  refine ⟨fun pins s σ H Q I h => ?_⟩
  refine Subscript_ (thn (he.run pins s σ H _ I h) fun v s1 ⟨x, H1, I1, r1, q1⟩ => ?_)
  obtain ⟨a, xs, ex, hx, q⟩ := q1
  subst ex
  cases r1
  have hst : PO X (some (.UnaryOp .USub (.Constant (.int 1) k p1) p2)) (tPart (tUn (rU fun i => .int (-i)) (tC (.int 1)))) := po_some (pe_un un_neg pe_int)
  refine wpAny_Slice (thn (po_none.run pins s1 σ H1 (fun o H2 => o = none ∧ H2 = H1) I1 ⟨rfl, rfl⟩) fun vl s2 ⟨l, H2, I2, pl, el, e2⟩ => ?_)
  subst el e2
  refine thn (po_none.run pins s2 σ H2 (fun o H3 => o = none ∧ H3 = H2) I2 ⟨rfl, rfl⟩) fun vu s3 ⟨u, H3, I3, pu, eu, e3⟩ => ?_
  subst eu e3
  refine thn (hst.run pins s3 σ H3 (fun o H4 => o = some (-1) ∧ H4 = H3) I3 ⟨1, rfl, -1, rfl, rfl, rfl⟩) fun vs s4 ⟨o, H4, I4, ps, eo, e4⟩ => ?_
  subst eo e4
  have I5 : Inv X pins σ H4 { s4 with heap := s4.heap.push { cls := .type "slice", data := .fields #[vl, vu, vs] } } := I4.kept (t' := s4.toks) fun b ob q => Heap.get?_push_of_some _ q
  obtain ⟨its, r, ht, hz⟩ := I5.tuple hx
  have hlen := r.length
  show wpAny (model X.prog X.w) X.A (subscriptTail e (.Slice none none (some (.UnaryOp .USub (.Constant (.int 1) k p1) p2)) p3) (.ref a) (.ref s4.heap.objs.size)) (EP X pins σ Q) X.xe { s4 with heap := s4.heap.push { cls := .type "slice", data := .fields #[vl, vu, vs] } }
  refine tail_any (ops := [.ref a, .ref s4.heap.objs.size]) ht.typeIs (PyProof.Rows.slot_tuple_getitem.lookup) ?_ (by with_unfolding_all rfl)
  cases pl; cases pu; cases ps
  refine getItem_tuple_rev ht (Heap.IsSliceOf.new _ _ _ _) ?_ (by rw [List.size_toArray]; omega)
  refine ⟨.ref _, _, I5.laid (t' := s4.toks) (o := .tup xs.reverse) (fun b ob q => Heap.get?_push_of_some _ q) (Nat.le_refl _) ?_, rfl, q _ (I5.hok.fresh (Nat.le_refl _))⟩
  exact ⟨by rw [List.length_reverse]; exact hz, _, r.reverse, IsTup.new _ _⟩
section
variable {g : Gb} {b : Bs} {wx : WX} {cf : Nat → List D → Sto → R W} {k : Nat} {X : Cx} {c : Cc} {F F' : Hp} {ρ ρ' : Rho} {σ : L2.St} {H H' : Hp} {fr : Fr} {st st' : Sto} {Q : VK}
theorem e_rev (Y : Cy g wx cf k X c) {a : E} {x : Expr} {j : Nat} {p1 p2 p3 pos : Pos} (hx : PE X x (T g b wx DR (ev cf a))) :
    PE X (.Subscript x (.Slice none none (some (.UnaryOp .USub (.Constant (.int 1) j p1) p2)) p3) pos) (T g b wx WR (ev cf (.rev a))) := PE.by fun σ H Q q' => by
  obtain ⟨F, ρ, fr, st, A, p⟩ := q'
  simp only [ev] at p
  cases e : ev cf a fr st with
  | bad => rw [e] at p; exact p.elim
  | exc c' p' s1 =>
    refine ⟨_, pe_revT hx, F, ρ, fr, st, A, ?_⟩
    rw [e] at p ⊢
    exact p
  | ok w s1 =>
    by_cases ht : ∃ xs, w.d = .tup xs
    · obtain ⟨xs, ht⟩ := ht
      refine ⟨_, pe_revT hx, F, ρ, fr, st, A, p.seq fun w' s1' F1 ρ1 H1 v e' _ _ A1 rv p1 => ?_⟩
      rw [e] at e'; cases e'
      have rv' : VR g F1 ρ1 w.d v := rv
      rw [ht] at rv' p1
      obtain ⟨a', vs, rfl, h1, h2⟩ := rv'.tupI
      exact ⟨a', vs, rfl, by rw [Y.G.hK]; exact A1.sqT h1, Po.tup p1 A1 h2.reverse⟩
    · by_cases hl : ∃ xs, w.d = .lst xs
      · obtain ⟨xs, ht⟩ := hl
        refine ⟨_, pe_revL hx, F, ρ, fr, st, A, p.seq fun w' s1' F1 ρ1 H1 v e' _ _ A1 rv p1 => ?_⟩
        rw [e] at e'; cases e'
        have rv' : VR g F1 ρ1 w.d v := rv
        rw [ht] at rv' p1
        obtain ⟨a', vs, rfl, h1, h2⟩ := rv'.lstI
        exact ⟨a', vs, rfl, .inl (.inl (A1.sub _ _ h1)), Po.lst p1 A1 h2.reverse⟩
      · rw [e] at p
        have e2 : revD w.d = none := by
          revert ht hl
          generalize w.d = d
          intro h1 h2
          cases d <;> first | rfl | exact absurd ⟨_, rfl⟩ h1 | exact absurd ⟨_, rfl⟩ h2
        rw [show (R.bind (R.ok w s1) fun x s1 => opt (revD x.d) s1) = opt (revD w.d) s1 from rfl, e2] at p
        exact p.elim

theorem VRs.of_rng (m n : Int) : VRs g F ρ (rng m n) (rgV m n) := by
  unfold rng rgV
  generalize (List.range (n - m).toNat) = l
  induction l with
  | nil => exact .nil
  | cons i l ih => exact .cons (.int _) ih
theorem rngOk_rg {m n : Int} (h : rngOk m n = true) : RgOk m n := by
  unfold rngOk at h
  simp only [Bool.and_eq_true, decide_eq_true_eq] at h
  obtain ⟨⟨⟨⟨h1, h2⟩, h3⟩, h4⟩, h5⟩ := h
  exact ⟨h1, h2, h3, h4, h5⟩
theorem lr_end {tp : Bool} {m n : Int} (p : Po g b wx WR (.ok (if tp then .dat (.tup (rng m n)) else .own (rng m n)) st) F ρ σ fr Q) (A : Ab g b F ρ σ H fr st) (t : tp = true) : ∀ q, H q = none → Q (.ref q) (upd H q (.tup (rgV m n))) := by
  subst t; exact Po.tup p A (.of_rng m n)
theorem lr_end' {tp : Bool} {m n : Int} (p : Po g b wx WR (.ok (if tp then .dat (.tup (rng m n)) else .own (rng m n)) st) F ρ σ fr Q) (A : Ab g b F ρ σ H fr st) (t : tp = false) : ∀ q, H q = none → Q (.ref q) (upd H q (.lst (rgV m n))) := by
  subst t; exact Po.lst p A (.of_rng m n)
theorem lr1 {a : E} {tp : Bool} {r : Int → Int → Hp → Prop} (p : Po g b wx WR (ev cf (.lrng tp (.rng1 a)) fr st) F ρ σ fr Q) (A : Ab g b F ρ σ H fr st)
    (h : ∀ s2 F2 ρ2 H2 (n : Int), Ab g b F2 ρ2 σ H2 fr s2 → RgOk 0 n → Po g b wx WR (.ok (if tp then .dat (.tup (rng 0 n)) else .own (rng 0 n)) s2) F2 ρ2 σ fr Q → r 0 n H2) : tRg1 (T g b wx DR (ev cf a)) σ H r := by
  have e : ev cf (.lrng tp (.rng1 a)) fr st = (ev cf a fr st).bind fun x s1 => match x.d with
    | .int n => if rngOk 0 n then .ok (if tp then .dat (.tup (rng 0 n)) else .own (rng 0 n)) s1 else .bad
    | _ => .bad := by
    simp only [ev, evI]
    cases ev cf a fr st with
    | ok w s =>
      simp only [R.bind]
      cases w.d <;> first | rfl | skip
      rename_i n
      simp only
      cases rngOk 0 n <;> rfl
    | exc _ _ _ => rfl
    | bad => rfl
  rw [e] at p
  refine one p A fun x s1 F1 ρ1 H1 v A1 rv p1 => ?_
  split at p1
  · rename_i n e2
    rw [e2] at rv; cases rv
    split at p1
    · rename_i h1
      exact ⟨n, rfl, h s1 F1 ρ1 H1 n A1 (rngOk_rg h1) p1⟩
    · exact p1.elim
  · exact p1.elim
theorem lr2 {a b' : E} {tp : Bool} {r : Int → Int → Hp → Prop} (p : Po g b wx WR (ev cf (.lrng tp (.rng2 a b')) fr st) F ρ σ fr Q) (A : Ab g b F ρ σ H fr st)
    (h : ∀ s2 F2 ρ2 H2 (m n : Int), Ab g b F2 ρ2 σ H2 fr s2 → RgOk m n → Po g b wx WR (.ok (if tp then .dat (.tup (rng m n)) else .own (rng m n)) s2) F2 ρ2 σ fr Q → r m n H2) : tRg2 (T g b wx DR (ev cf a)) (T g b wx DR (ev cf b')) σ H r := by
  have e : ev cf (.lrng tp (.rng2 a b')) fr st = (ev cf a fr st).bind fun x s1 => (ev cf b' fr s1).bind fun y s2 => match x.d, y.d with
    | .int m, .int n => if rngOk m n then .ok (if tp then .dat (.tup (rng m n)) else .own (rng m n)) s2 else .bad
    | _, _ => .bad := by
    simp only [ev, evI]
    cases ev cf a fr st with
    | ok w s =>
      simp only [R.bind]
      cases ev cf b' fr s with
      | ok w2 s2 =>
        simp only [R.bind]
        cases w.d <;> cases w2.d <;> first | rfl | skip
        rename_i m n
        simp only
        cases rngOk m n <;> rfl
      | exc _ _ _ => rfl
      | bad => rfl
    | exc _ _ _ => rfl
    | bad => rfl
  rw [e] at p
  refine two p A fun x y s1 F1 ρ1 H1 v u A1 rv ru p1 => ?_
  split at p1
  · rename_i m n e2 e3
    rw [e2] at rv; cases rv
    rw [e3] at ru; cases ru
    split at p1
    · rename_i h1
      exact ⟨m, n, rfl, rfl, h s1 F1 ρ1 H1 m n A1 (rngOk_rg h1) p1⟩
    · exact p1.elim
  · exact p1.elim
theorem e_lrng1 (Y : Cy g wx cf k X c) {tp : Bool} {a : E} {x : Expr} {y z : Str} {py pz pos zos : Pos} (hy : y = if tp then "tuple" else "list") (hg : glB c y = true) (hz : z = "range") (hgz : glB c z = true) (hs : noStar x = true) (hx : PE X x (T g b wx DR (ev cf a))) :
    PE X (.Call (.Name y py) [.Call (.Name z pz) [x] [] zos] [] pos) (T g b wx WR (ev cf (.lrng tp (.rng1 a)))) := PE.by fun σ H Q q' => by
  obtain ⟨F, ρ, fr, st, A, p⟩ := q'
  obtain ⟨k1, k2, k3⟩ := Y.gl hg
  obtain ⟨l1, l2, l3⟩ := Y.gl hgz
  subst hz
  have rg := prg_1 (X := X) (p := pz) (pos := zos) l1 (mem_blt (by simp [bltNames]) Y) hx (noStar_cons hs _)
  cases tp with
  | true =>
    subst hy
    refine ⟨_, pe_tupRg Y.G.calm k1 (mem_blt (by simp [bltNames]) Y) rg (noStar_cons rfl _), ?_⟩
    exact lr1 p A fun s2 F2 ρ2 H2 n A2 ok p2 => ⟨ok, lr_end p2 A2 rfl⟩
  | false =>
    subst hy
    refine ⟨_, pe_listRg Y.G.calm k1 (mem_blt (by simp [bltNames]) Y) rg (noStar_cons rfl _), ?_⟩
    exact lr1 p A fun s2 F2 ρ2 H2 n A2 ok p2 => ⟨ok, lr_end' p2 A2 rfl⟩
theorem e_lrng2 (Y : Cy g wx cf k X c) {tp : Bool} {a b' : E} {x x' : Expr} {y z : Str} {py pz pos zos : Pos} (hy : y = if tp then "tuple" else "list") (hg : glB c y = true) (hz : z = "range") (hgz : glB c z = true) (hs : noStar x = true) (hs' : noStar x' = true) (hx : PE X x (T g b wx DR (ev cf a))) (hx' : PE X x' (T g b wx DR (ev cf b'))) :
    PE X (.Call (.Name y py) [.Call (.Name z pz) [x, x'] [] zos] [] pos) (T g b wx WR (ev cf (.lrng tp (.rng2 a b')))) := PE.by fun σ H Q q' => by
  obtain ⟨F, ρ, fr, st, A, p⟩ := q'
  obtain ⟨k1, k2, k3⟩ := Y.gl hg
  obtain ⟨l1, l2, l3⟩ := Y.gl hgz
  subst hz
  have rg := prg_2 (X := X) (p := pz) (pos := zos) l1 (mem_blt (by simp [bltNames]) Y) hx hx' (noStar_cons hs _) (noStar_cons hs' _) (by rw [backTo_any, noStar_cons hs']; rfl)
  cases tp with
  | true =>
    subst hy
    refine ⟨_, pe_tupRg Y.G.calm k1 (mem_blt (by simp [bltNames]) Y) rg (noStar_cons rfl _), ?_⟩
    exact lr2 p A fun s2 F2 ρ2 H2 m n A2 ok p2 => ⟨ok, lr_end p2 A2 rfl⟩
  | false =>
    subst hy
    refine ⟨_, pe_listRg Y.G.calm k1 (mem_blt (by simp [bltNames]) Y) rg (noStar_cons rfl _), ?_⟩
    exact lr2 p A fun s2 F2 ρ2 H2 m n A2 ok p2 => ⟨ok, lr_end' p2 A2 rfl⟩
end
end MP

set_option Elab.async false
set_option linter.all false
set_option maxRecDepth 100000
set_option maxHeartbeats 8000000
namespace MP
open PySem PySem.Spec L2
section
variable {g : Gb} {b : Bs} {wx : WX} {cf : Nat → List D → Sto → R W} {k : Nat} {X : Cx} {c : Cc} {F F' : Hp} {ρ ρ' : Rho} {σ : L2.St} {H H' : Hp} {fr : Fr} {st st' : Sto} {Q : VK}
theorem ob_kind {o : Ob} {p : Addr} (h : ObR g F ρ H o p) (l : o.live = true) : ∃ u : HO, H p = Option.some u ∧ notT u ∧ ∀ φ, u ≠ HO.ext φ := by
  cases o with
  | lst xs => obtain ⟨vs, h, _⟩ := h; exact ⟨_, h, nt_lst _, fun _ z => by cases z⟩
  | dct kvs => obtain ⟨vs, h, _⟩ := h; exact ⟨_, h, nt_dK _, fun _ z => by cases z⟩
  | gone => cases l
/-- a new object of the store: a cell that nobody else holds -/
theorem Ab.newOb (A : Ab g b F ρ σ H fr st) {a : Addr} {o : Ob} (ho : ObR g F (ρ ++ [a]) H o a) (f1 : F a = none) (n1 : a ∉ sh ρ) (h1 : b.H0 a = none) (m1 : ∀ (i : Nat) ys, fr[i]? = some (.mut ys) → σ[i]? ≠ some (some (.ref a))) (q1 : ∀ q ∈ b.P, q.1 ≠ a) : Ab g b F (ρ ++ [a]) σ H fr (st ++ [o]) := by
  have pf : ρ <+: ρ ++ [a] := List.prefix_append _ _
  exact {
    sub := A.sub, ext := A.ext, new := A.new
    rho := by
      obtain ⟨more, e, h⟩ := A.rho
      refine ⟨more ++ [a], by rw [e, List.append_assoc], fun x hx => ?_⟩
      rcases List.mem_append.mp hx with hx | hx
      · exact h x hx
      · rw [List.mem_singleton.mp hx]; exact h1
    keep := A.keep
    tb := A.tb
    fsh := fun n x o' e1 e2 l => by
      by_cases hn : n < st.length
      · have hn' : n < ρ.length := by rw [A.sto.len]; exact hn
        rw [List.getElem?_append_left hn'] at e1
        rw [List.getElem?_append_left hn] at e2
        exact A.fsh n x o' e1 e2 l
      · have hn' : ¬ n < ρ.length := by rw [A.sto.len]; exact hn
        rw [List.getElem?_append_right (Nat.le_of_not_lt hn')] at e1
        have := List.mem_of_getElem? e1
        rw [List.mem_singleton.mp this]; exact f1
    sto := by
      refine ⟨by simp [A.sto.len], fun n o' q e1 e2 => ?_, ?_⟩
      · by_cases hn : n < st.length
        · have hn' : n < ρ.length := by rw [A.sto.len]; exact hn
          rw [List.getElem?_append_left hn] at e1
          rw [List.getElem?_append_left hn'] at e2
          exact (A.sto.at_ n o' q e1 e2).mono (.refl _) pf
        · have hn' : ¬ n < ρ.length := by rw [A.sto.len]; exact hn
          rw [List.getElem?_append_right (Nat.le_of_not_lt hn)] at e1
          rw [List.getElem?_append_right (Nat.le_of_not_lt hn'), A.sto.len] at e2
          cases e : n - st.length with
          | zero =>
            rw [e] at e1 e2
            simp at e1 e2
            subst e1; subst e2
            exact ho
          | succ j => rw [e] at e1; simp at e1
      · exact List.nodup_append.mpr ⟨A.sto.nd, by simp, fun x hx y hy z => by
          subst z
          rw [List.mem_singleton.mp hy] at hx
          exact n1 hx⟩
    len := A.len
    dat := fun i d h => by
      obtain ⟨v, q1, q2⟩ := A.dat i d h
      exact ⟨v, q1, q2.mono (.refl _) pf⟩
    mu := fun i xs h => by
      obtain ⟨a', vs, k1, k2, k3, k4, k5, k6⟩ := A.mu i xs h
      refine ⟨a', vs, k1, k2, k3.mono (.refl _) pf, k4, fun z => ?_, k6⟩
      rcases List.mem_append.mp z with z | z
      · exact k5 z
      · exact m1 i xs h (by rw [← List.mem_singleton.mp z]; exact k1)
    apart := A.apart
    pin := fun q hq => by
      obtain ⟨k1, k2, k3, k4, k5⟩ := A.pin q hq
      refine ⟨k1, k2, fun z => ?_, k4, k5⟩
      rcases List.mem_append.mp z with z | z
      · exact k3 z
      · exact q1 q hq (List.mem_singleton.mp z) }
/-- an object of the store is written -/
theorem Ab.setOb (A : Ab g b F ρ σ H fr st) {n : Nat} {a : Addr} {o o' : Ob} {u : HO} (hs : st[n]? = some o) (hr : ρ[n]? = some a) (l : o.live = true) (ho : ObR g F ρ (upd H a u) o' a) (l' : o'.live = true) : Ab g b F ρ σ (upd H a u) fr (st.set n o') := by
  have fa := A.fsh n a o hr hs l
  have ma : a ∈ sh ρ := List.mem_of_getElem? hr
  have hn : n < st.length := (List.getElem?_eq_some_iff.mp hs).1
  have inj : ∀ {m : Nat}, ρ[m]? = some a → m = n := fun {m} e => by
    have h1 := (List.getElem?_eq_some_iff.mp e)
    have h2 := (List.getElem?_eq_some_iff.mp hr)
    obtain ⟨l1, e1⟩ := h1
    obtain ⟨l2, e2⟩ := h2
    exact (List.getElem_inj A.sto.nd).mp (e1.trans e2.symm)
  exact {
    sub := fun x v e => by
      rw [upd_ne (show x ≠ a from fun z => by subst z; rw [fa] at e; cases e)]
      exact A.sub _ _ e
    ext := A.ext, new := A.new, rho := A.rho
    tb := by
      obtain ⟨v, h1, h2, h3⟩ := ob_kind (A.sto.at_ n o a hs hr) l
      exact A.tb.write h1 h2 h3
    keep := fun x v e m nt => by
      have : x ≠ a := fun z => by
        subst z
        obtain ⟨more, er, hm⟩ := A.rho
        rw [er] at ma
        rcases List.mem_append.mp ma with ma | ma
        · exact m ma
        · rw [hm x ma] at e; cases e
      rw [upd_ne this]
      exact A.keep x v e m nt
    fsh := fun m x o2 e1 e2 l2 => by
      by_cases z : n = m
      · subst z
        rw [hr] at e1; cases e1
        exact fa
      · rw [List.getElem?_set_ne z] at e2
        exact A.fsh m x o2 e1 e2 l2
    sto := by
      refine ⟨by rw [List.length_set]; exact A.sto.len, fun m o2 x e1 e2 => ?_, A.sto.nd⟩
      by_cases z : n = m
      · subst z
        rw [List.getElem?_set_self hn] at e1
        cases e1
        rw [hr] at e2; cases e2
        exact ho
      · rw [List.getElem?_set_ne z] at e1
        exact (A.sto.at_ m o2 x e1 e2).of (upd_ne fun y => z (by subst y; exact (inj e2).symm))
    len := A.len, dat := A.dat
    mu := fun i xs h => by
      obtain ⟨a', vs, k1, k2, k3, k4, k5, k6⟩ := A.mu i xs h
      refine ⟨a', vs, k1, ?_, k3, k4, k5, k6⟩
      rw [upd_ne (show a' ≠ a from fun z => k5 (z ▸ ma))]
      exact k2
    apart := A.apart
    pin := fun q hq => by
      obtain ⟨k1, k2, k3, k4, k5⟩ := A.pin q hq
      refine ⟨?_, k2, k3, k4, k5⟩
      rw [upd_ne (show q.1 ≠ a from fun z => k3 (z ▸ ma))]
      exact k1 }
/-- a list of the store becomes data -/
theorem Ab.meltOb (A : Ab g b F ρ σ H fr st) {n : Nat} {a : Addr} {xs : List D} (hs : st[n]? = some (.lst xs)) (hr : ρ[n]? = some a) : ∃ F', Same F F' ∧ Ab g b F' ρ σ H fr (st.set n .gone) ∧ VR g F' ρ (.lst xs) (.ref a) := by
  obtain ⟨vs, ha, rv⟩ := A.sto.at_ n _ a hs hr
  have fa := A.fsh n a _ hr hs rfl
  have ma : a ∈ sh ρ := List.mem_of_getElem? hr
  have hn : n < st.length := (List.getElem?_eq_some_iff.mp hs).1
  have s : Same F (upd F a (.lst vs)) := same_upd fa
  have inj : ∀ {m : Nat}, ρ[m]? = some a → m = n := fun {m} e => by
    obtain ⟨l1, e1⟩ := (List.getElem?_eq_some_iff.mp e)
    obtain ⟨l2, e2⟩ := (List.getElem?_eq_some_iff.mp hr)
    exact (List.getElem_inj A.sto.nd).mp (e1.trans e2.symm)
  refine ⟨_, s, ?_, .lst upd_same (rv.mono s (pfx _))⟩
  exact {
    sub := fun x v e => by
      by_cases z : x = a
      · subst z; rw [upd_same] at e; cases e; exact ha
      · rw [upd_ne z] at e; exact A.sub _ _ e
    ext := A.ext.trans s
    new := fun x v e => by
      by_cases z : x = a
      · subst z
        obtain ⟨more, er, hm⟩ := A.rho
        rw [er] at ma
        rcases List.mem_append.mp ma with ma | ma
        · exact .inr (.inr ma)
        · exact .inr (.inl (hm _ ma))
      · rw [upd_ne z] at e; exact A.new _ _ e
    rho := A.rho
    keep := A.keep
    tb := A.tb.frz (nt_lst _)
    fsh := fun m x o2 e1 e2 l2 => by
      by_cases z : n = m
      · subst z
        rw [List.getElem?_set_self hn] at e2
        cases e2; cases l2
      · rw [List.getElem?_set_ne z] at e2
        rw [upd_ne (show x ≠ a from fun y => z (by subst y; exact (inj e1).symm))]
        exact A.fsh m x o2 e1 e2 l2
    sto := by
      refine ⟨by rw [List.length_set]; exact A.sto.len, fun m o2 x e1 e2 => ?_, A.sto.nd⟩
      by_cases z : n = m
      · subst z
        rw [List.getElem?_set_self hn] at e1
        cases e1
        rw [hr] at e2; cases e2
        exact ⟨_, upd_same⟩
      · rw [List.getElem?_set_ne z] at e1
        exact (A.sto.at_ m o2 x e1 e2).mono s (pfx _)
    len := A.len
    dat := fun i d h => by
      obtain ⟨v, q1, q2⟩ := A.dat i d h
      exact ⟨v, q1, q2.mono s (pfx _)⟩
    mu := fun i xs h => by
      obtain ⟨a', vs, k1, k2, k3, k4, k5, k6⟩ := A.mu i xs h
      refine ⟨a', vs, k1, k2, k3.mono s (pfx _), ?_, k5, k6⟩
      rw [upd_ne (show a' ≠ a from fun z => k5 (z ▸ ma))]
      exact k4
    apart := A.apart
    pin := fun q hq => by
      obtain ⟨k1, k2, k3, k4, k5⟩ := A.pin q hq
      refine ⟨k1, ?_, k3, k4, k5⟩
      rw [upd_ne (show q.1 ≠ a from fun z => k3 (z ▸ ma))]
      exact k2 }
theorem valD_ok {x : Str} : ∀ {kvs : List (Str × D)} {vs : List V} {d : D}, VRs g F ρ (kvs.map (·.2)) vs → valD x kvs = some d → ∃ v, valV ((kvs.map fun kv => (Sum.inr kv.1 : Key)).zip vs) (.inr x) = some v ∧ VR g F ρ d v
  | [], _, _, _, e => by cases e
  | (y, e0) :: r, vs, d, h, e => by
    cases h with
    | cons r1 r2 =>
      rename_i v vs
      simp only [valD] at e
      simp only [List.map_cons, List.zip_cons_cons]
      split at e
      · rename_i h1
        cases e
        subst h1
        exact ⟨v, valV_pos rfl, r1⟩
      · rename_i h1
        obtain ⟨v', e1, e2⟩ := valD_ok r2 e
        exact ⟨v', (valV_neg (by simpa using h1)).trans e1, e2⟩
theorem valV_none {x : Str} : ∀ {ks : List Str} {vs : List V}, ks.contains x = false → (((ks.map fun k => (Sum.inr k : Key)).zip vs).any fun kv => decide (kv.1 = Sum.inr x)) = false
  | [], _, _ => rfl
  | y :: r, [], _ => rfl
  | y :: r, v :: vs, h => by
    simp only [List.contains_cons, Bool.or_eq_false_iff] at h
    simp only [List.map_cons, List.zip_cons_cons, List.any_cons]
    rw [valV_none h.2, Bool.or_false, decide_eq_false]
    intro z
    have : x = y := by simpa using z.symm
    subst this
    simp at h
theorem map_id {x : Str} {v : V} : ∀ {ks : List Str} {vs : List V}, ks.contains x = false → ((ks.map fun k => (Sum.inr k : Key)).zip vs).map (fun kv => if kv.1 = Sum.inr x then (kv.1, v) else kv) = (ks.map fun k => (Sum.inr k : Key)).zip vs
  | [], _, _ => rfl
  | y :: r, [], _ => rfl
  | y :: r, u :: vs, h => by
    simp only [List.contains_cons, Bool.or_eq_false_iff] at h
    simp only [List.map_cons, List.zip_cons_cons]
    rw [map_id h.2, if_neg]
    intro z
    have : x = y := by simpa using z.symm
    subst this
    simp at h
theorem putD_any {x : Str} {d : D} : ∀ {kvs q : List (Str × D)} {vs : List V}, VRs g F ρ (kvs.map (·.2)) vs → putD x d kvs = some q → (((kvs.map fun kv => (Sum.inr kv.1 : Key)).zip vs).any fun kv => decide (kv.1 = Sum.inr x)) = true
  | [], _, _, _, e => by cases e
  | (y, e0) :: r, q, vs, h, e => by
    cases h with
    | cons r1 r2 =>
      simp only [putD] at e
      simp only [List.map_cons, List.zip_cons_cons, List.any_cons]
      split at e
      · rename_i h1
        rw [h1]; simp
      · cases e2 : putD x d r with
        | none => rw [e2] at e; cases e
        | some q' => rw [putD_any r2 e2, Bool.or_true]
theorem putD_ok {x : Str} {d : D} {v : V} : ∀ {kvs q : List (Str × D)} {vs : List V}, VRs g F ρ (kvs.map (·.2)) vs → VR g F ρ d v → keysOk (kvs.map (·.1)) = true → putD x d kvs = some q →
    ∃ us, ((kvs.map fun kv => (Sum.inr kv.1 : Key)).zip vs).map (fun kv => if kv.1 = Sum.inr x then (kv.1, v) else kv) = (q.map fun kv => (Sum.inr kv.1 : Key)).zip us ∧ VRs g F ρ (q.map (·.2)) us
  | [], _, _, _, _, _, e => by cases e
  | (y, e0) :: r, q, vs, h, rv, hk, e => by
    cases h with
    | cons r1 r2 =>
      rename_i u vs
      simp only [List.map_cons, keysOk, Bool.and_eq_true, Bool.not_eq_true'] at hk
      simp only [putD] at e
      simp only [List.map_cons, List.zip_cons_cons]
      split at e
      · rename_i h1
        cases e
        subst h1
        refine ⟨v :: vs, ?_, .cons rv r2⟩
        have := map_id (v := v) (vs := vs) hk.1
        simp only [List.map_map] at this
        have e3 : ((fun k => (Sum.inr k : Key)) ∘ fun kv : Str × D => kv.1) = fun kv : Str × D => (Sum.inr kv.1 : Key) := rfl
        rw [e3] at this
        rw [this, if_pos rfl]
        rfl
      · rename_i h1
        cases e2 : putD x d r with
        | none => rw [e2] at e; cases e
        | some q' =>
          rw [e2] at e
          cases e
          obtain ⟨us, z1, z2⟩ := putD_ok r2 rv hk.2 e2
          refine ⟨u :: us, ?_, .cons r1 z2⟩
          rw [z1, if_neg (by simpa using h1)]
          rfl
theorem getF_inv {x : Str} {e d : D} (h : getF x e st = some d) : ∃ n kvs, e = .ref n ∧ st[n]? = some (.dct kvs) ∧ valD x kvs = some d := by
  cases e <;> simp only [getF] at h <;> first | (cases h; done) | skip
  split at h
  · exact ⟨_, _, rfl, by assumption, h⟩
  · cases h
theorem lstF_inv {e : D} {xs : List D} (h : lstF e st = some xs) : ∃ n, e = .ref n ∧ st[n]? = some (.lst xs) := by
  cases e <;> simp only [lstF] at h <;> first | (cases h; done) | skip
  split at h
  · cases h; exact ⟨_, rfl, by assumption⟩
  · cases h
theorem VR.refI {n : Nat} {v : V} (h : VR g F ρ (.ref n) v) : ∃ a, v = .ref a ∧ ρ[n]? = some a := by
  cases h with
  | ref e => exact ⟨_, rfl, e⟩
/-- a store's list stands so -/
theorem Ab.lstAt (A : Ab g b F ρ σ H fr st) {d : D} {xs : List D} {v : V} (h : lstF d st = some xs) (r : VR g F ρ d v) : ∃ n a vs, d = .ref n ∧ v = .ref a ∧ st[n]? = some (.lst xs) ∧ ρ[n]? = some a ∧ H a = some (.lst vs) ∧ VRs g F ρ xs vs := by
  obtain ⟨n, rfl, e⟩ := lstF_inv h
  obtain ⟨a, rfl, er⟩ := r.refI
  obtain ⟨vs, h1, h2⟩ := A.sto.at_ n _ a e er
  exact ⟨n, a, vs, rfl, rfl, e, er, h1, h2⟩
theorem noSl_str {x : Str} {j : Nat} {p : Pos} : NoSl (.Constant (.str x) j p) := fun _ _ => rfl
theorem e_get (Y : Cy g wx cf k X c) {a : E} {x : Str} {a' : Expr} {j : Nat} {p pos : Pos} (ha : PE X a' (T g b wx DR (ev cf a))) : PE X (.Subscript a' (.Constant (.str x) j p) pos) (T g b wx WR (ev cf (.get a x))) := PE.by fun σ H Q q' => by
  obtain ⟨F, ρ, fr, st, A, p⟩ := q'
  simp only [ev] at p
  refine ⟨_, pe_dget (Nat.lt_of_le_of_lt (Nat.add_le_add_left (by decide) _) Y.G.room.units) ha pe_str noSl_str, one p A fun w s1 F1 ρ1 H1 v A1 rv p1 => ?_⟩
  cases e : getF x w.d s1 with
  | none => rw [e] at p1; exact p1.elim
  | some d =>
    rw [e] at p1
    obtain ⟨n, kvs, e1, e2, e3⟩ := getF_inv e
    rw [e1] at rv
    obtain ⟨a0, rfl, er⟩ := rv.refI
    obtain ⟨vs, h1, h2⟩ := A1.sto.at_ n _ a0 e2 er
    obtain ⟨u, h3, h4⟩ := valD_ok h2 e3
    exact ⟨a0, u, rfl, .inl ⟨_, .inr x, .inl h1, rfl, h3.symm⟩, Po.dat (d := d) p1 A1 h4⟩
theorem e_obi (Y : Cy g wx cf k X c) {a i : E} {a' i' : Expr} {pos : Pos} (hs : noSlice i' = true) (ha : PE X a' (T g b wx DR (ev cf a))) (hi : PE X i' (T g b wx DR (ev cf i))) : PE X (.Subscript a' i' pos) (T g b wx WR (ev cf (.obi a i))) := PE.by fun σ H Q q' => by
  obtain ⟨F, ρ, fr, st, A, p⟩ := q'
  simp only [ev] at p
  refine ⟨_, pe_ix ix_list ha hi (plain_ix hs), two p A fun x y s2 F2 ρ2 H2 v u A2 rv ru p2 => ?_⟩
  split at p2
  · rename_i xs i e1 e2
    rw [e2] at ru; cases ru
    obtain ⟨n, a0, vs, _, rfl, h2, h3, h4, h5⟩ := A2.lstAt e1 rv
    cases e : atD xs i with
    | none => rw [e] at p2; exact p2.elim
    | some d =>
      rw [e] at p2
      obtain ⟨z, z1, z2⟩ := atD_ok h5 e
      exact ⟨a0, vs, i, z, rfl, rfl, .inl (.inl h4), z1, Po.dat (d := d) p2 A2 z2⟩
  · exact p2.elim
theorem e_obl (Y : Cy g wx cf k X c) {a : E} {a' : Expr} {f : Str} {pf pos : Pos} (hf : f = "len") (hg : glB c f = true) (hs : noStar a' = true) (ha : PE X a' (T g b wx DR (ev cf a))) : PE X (.Call (.Name f pf) [a'] [] pos) (T g b wx WR (ev cf (.obl a))) := PE.by fun σ H Q q' => by
  obtain ⟨F, ρ, fr, st, A, p⟩ := q'
  obtain ⟨k1, k2, k3⟩ := Y.gl hg
  subst hf
  simp only [ev] at p
  refine ⟨_, pe_callB call_len k1 (mem_blt (by simp [bltNames]) Y) boot_len (pa_cons ha pa_nil (noStar_cons hs _)) k3 k2 (noStar_cons hs _), one p A fun x s2 F2 ρ2 H2 v A2 rv p2 => ?_⟩
  cases e : lstF x.d s2 with
  | none => rw [e] at p2; exact p2.elim
  | some xs =>
    rw [e] at p2
    obtain ⟨n, a0, vs, _, rfl, h2, h3, h4, h5⟩ := A2.lstAt e rv
    exact ⟨_, _, rfl, .inl ⟨vs, .inl (.inl h4), h5.length⟩, Po.dat (d := .int xs.length) p2 A2 (.int _)⟩
theorem eqv_nil (xs : List D) : PyData.eqv (toPy 60 (.lst xs)) (toPy 60 (.lst [])) = xs.isEmpty := by
  cases xs <;> rfl
theorem e_obe (Y : Cy g wx cf k X c) {a : E} {a' : Expr} {p1 pos : Pos} (ha : PE X a' (T g b wx DR (ev cf a))) : PE X (.Compare a' [.NotEq] [.List [] p1] pos) (T g b wx WR (ev cf (.obe a))) := PE.by fun σ H Q q' => by
  obtain ⟨F, ρ, fr, st, A, p⟩ := q'
  simp only [ev] at p
  refine ⟨_, pe_cmpR (op_neD Y.G.room.units) ha (pe_lst pa_nil) (by rfl), one p A fun x s2 F2 ρ2 H2 v A2 rv p2 => ?_⟩
  cases e : lstF x.d s2 with
  | none => rw [e] at p2; exact p2.elim
  | some xs =>
    rw [e] at p2
    simp only at p2
    split at p2
    · rename_i ok
      obtain ⟨n, a0, vs, _, rfl, h2, h3, h4, h5⟩ := A2.lstAt e rv
      refine ⟨by simp, fun q hq => ?_⟩
      have A3 := A2.alloc (.lst []) hq
      have s2 : Same H2 (upd H2 q (.lst [])) := same_upd hq
      have v1 : VR g (upd H2 q (.lst [])) ρ2 (.lst xs) (.ref a0) := .lst (s2 _ _ h4) (h5.mono A3.sub (pfx _))
      have v2 : VR g (upd H2 q (.lst [])) ρ2 (.lst []) (.ref q) := .lst upd_same .nil
      refine ⟨_, _, VR.dp Y.G.hK (.refl _) 60 _ _ ok v1, VR.dp Y.G.hK (.refl _) 60 _ _ rfl v2, ok_shaped ok, ok_shaped rfl, ?_⟩
      rw [eqv_nil]
      exact Po.dat (d := .bl (!xs.isEmpty)) p2 A3 (.bl _)
    · exact p2.elim
theorem t_obe (Y : Cy g wx cf k X c) {a : E} {a' : Expr} {p1 pos : Pos} (ha : PE X a' (T g b wx DR (ev cf a))) : PT X (.Compare a' [.NotEq] [.List [] p1] pos) (T g b wx BR (evB cf (.obe a))) := PT.by fun σ H Q q' => by
  obtain ⟨F, ρ, fr, st, A, p⟩ := q'
  refine ⟨_, pt_cmpR (op_neD Y.G.room.units) ha (pe_lst pa_nil) (by rfl), ?_⟩
  have e : evB cf (.obe a) fr st = (ev cf a fr st).bind fun d s1 => match lstF d.d s1 with
      | some xs => if okD 60 (.lst xs) then .ok (!xs.isEmpty) s1 else .bad
      | none => .bad := by
    simp only [evB, ev]
    cases ev cf a fr st with
    | ok w s =>
      simp only [R.bind]
      cases lstF w.d s with
      | none => rfl
      | some xs =>
        simp only
        cases okD 60 (.lst xs) <;> rfl
    | exc _ _ _ => rfl
    | bad => rfl
  rw [e] at p
  refine one p A fun x s2 F2 ρ2 H2 v A2 rv p2 => ?_
  cases e : lstF x.d s2 with
  | none => rw [e] at p2; exact p2.elim
  | some xs =>
    rw [e] at p2
    simp only at p2
    split at p2
    · rename_i ok
      obtain ⟨n, a0, vs, _, rfl, h2, h3, h4, h5⟩ := A2.lstAt e rv
      refine ⟨by simp, fun q hq => ?_⟩
      have A3 := A2.alloc (.lst []) hq
      have s2 : Same H2 (upd H2 q (.lst [])) := same_upd hq
      have v1 : VR g (upd H2 q (.lst [])) ρ2 (.lst xs) (.ref a0) := .lst (s2 _ _ h4) (h5.mono A3.sub (pfx _))
      have v2 : VR g (upd H2 q (.lst [])) ρ2 (.lst []) (.ref q) := .lst upd_same .nil
      refine ⟨_, _, VR.dp Y.G.hK (.refl _) 60 _ _ ok v1, VR.dp Y.G.hK (.refl _) 60 _ _ rfl v2, ok_shaped ok, ok_shaped rfl, ?_⟩
      rw [eqv_nil]
      exact ⟨_, rfl, p2 F2 ρ2 _ _ (.refl _) (pfx _) A3 rfl⟩
    · exact p2.elim
theorem e_new {a : E} {a' : Expr} (ha : PE X a' (T g b wx WR (ev cf a))) : PE X a' (T g b wx WR (ev cf (.new a))) := PE.by fun σ H Q q' => by
  obtain ⟨F, ρ, fr, st, A, p⟩ := q'
  simp only [ev] at p
  refine ⟨_, ha, F, ρ, fr, st, A, p.seq fun w s1 F1 ρ1 H1 v _ _ _ A1 rv p1 => ?_⟩
  cases w with
  | dat d => exact p1.elim
  | own xs =>
    obtain ⟨a0, vs, rfl, h1, h2, h3, h4, h5, h6, h7⟩ := rv
    have B := A1.newOb (o := .lst xs) ⟨vs, h1, h2.mono (.refl _) (List.prefix_append _ _)⟩ h3 h4 h5 h6 h7
    refine p1 F1 (ρ1 ++ [a0]) H1 (.ref a0) (.refl _) (List.prefix_append _ _) B (VR.ref ?_)
    rw [← A1.sto.len, List.getElem?_append_right (Nat.le_refl _), Nat.sub_self]; rfl
end
end MP

set_option Elab.async false
set_option linter.all false
set_option maxRecDepth 100000
set_option maxHeartbeats 8000000
namespace MP
open PySem PySem.Spec PyProof.Rows L2
/-! ### enumerate(zip(xs, ys)) over two lists -/
/-- a zip object: v what it lent, f whether it knows -/
abbrev ZipX (h : Heap) (z TI TO : Addr) (v : Value) (f : Bool) : Prop :=
  h.get? z = some { cls := .type "zip", dict := none, data := .fields #[v, .bool f, .bool false, .ref TI, .ref TO], slots := #[] }
def Lent (v : Value) (f : Bool) : Prop := (v = .none ∧ f = false) ∨ ∃ T : Addr, v = rawInt (T : Nat)
section
variable {prog : Program} {w : World} {A : Around} {E : Value → Shared → Prop} {s : Shared}
/-- what it lent is gone -/
theorem free_gone {z TI TO T : Addr} {f : Bool} {Q : Bool → Shared → Prop} (hz : ZipX s.heap z TI TO (rawInt (T : Nat)) f) (hT : s.heap.get? T = none) (h : Q true s) : wpAny (model prog w) A (Builtin.SmallTypes.ownedTupleIsFree (.ref z)) Q E s := by
  unfold Builtin.SmallTypes.ownedTupleIsFree
  refine wpAny_bind (wpAny_field hz rfl (x := rawInt (T : Nat)) rfl ?_)
  show wpAny _ _ (loadIfAlive ((T : Int).toNat) >>= _) _ _ _
  rw [Int.toNat_natCast]
  have h' : wpAny (model prog w) A (loadIfAlive T) (fun o s' => o = none ∧ s' = s) E s := fun _ _ _ => ⟨hT, rfl⟩
  refine wpAny_bind (wpAny_mono h' (fun o s' e => ?_) fun _ _ z => z)
  obtain ⟨rfl, rfl⟩ := e
  simp only [Option.isNone_none, if_true]
  exact wpAny_pure h
theorem next_gone {z TI TO T i1 i2 l1 l2 : Addr} {f : Bool} {k1 k2 : Nat} {xs ys : Array Value} {x y a b : Value} {Q : Value → Shared → Prop} (D : ZipApart z TI TO i1 i2 l1 l2)
    (hz : ZipX s.heap z TI TO (rawInt (T : Nat)) f) (hT : s.heap.get? T = none) (hTI : IsPair s.heap TI (.ref i1) (.ref i2)) (hTO : IsPair s.heap TO a b)
    (j1 : s.heap.IsListIter i1 l1 k1) (j2 : s.heap.IsListIter i2 l2 k2) (m1 : s.heap.IsList l1 xs) (m2 : s.heap.IsList l2 ys) (hx : xs[k1]? = some x) (hy : ys[k2]? = some y)
    (hQ : ∀ h' v f', ZipX h' z TI TO v f' → Lent v f' → (∃ a b, IsPair h' TO a b) → h'.IsListIter i1 l1 (k1 + 1) → h'.IsListIter i2 l2 (k2 + 1) → IsPair h' s.heap.objs.size x y → h'.objs.size = s.heap.objs.size + 1 →
      (∀ c o, c ≠ z → c ≠ TO → c ≠ i1 → c ≠ i2 → s.heap.get? c = some o → h'.get? c = some o) → Q (.ref s.heap.objs.size) { s with heap := h' }) :
    wpAny (model prog w) A (Builtin.«zip.__next__» ⟨[.ref z], []⟩) (fun fin s' => ∃ v, fin = .done (.ret v) ∧ Q v s') E s := by
  show wpAny _ _ (field (.ref z) 2 >>= _) _ _ _
  refine wpAny_bind (wpAny_field hz rfl (x := .bool false) rfl ?_)
  show wpAny _ _ (field (.ref z) 3 >>= _) _ _ _
  refine wpAny_bind (wpAny_field hz rfl (x := .ref TI) rfl (wpAny_bind (wpAny_seqItems hTI rfl ?_)))
  show wpAny _ _ (Builtin.SmallTypes.ownedTupleIsFree (.ref z) >>= _) _ _ _
  refine wpAny_bind (free_gone hz hT ?_)
  simp only [if_true]
  refine wpAny_bind (wpAny_rule (wpAny_bind (wpAny_field hz rfl (x := .ref TO) rfl (wpAny_bind (wpAny_setField_rec hz (by simp) fun q1 z1 e1 => ?_)))))
  replace z1 : ZipX q1 z TI TO .ellipsis f := z1
  refine wpAny_bind ?_
  simp only [List.zipIdx_cons, List.zipIdx_nil, List.forIn_cons, List.forIn_nil]
  refine wpAny_bind (wpAny_bind (wpAny_onRaise ?_))
  show wpAny _ _ (Builtin.SmallTypes.nextOf (.ref i1) >>= _) _ _ _
  refine wpAny_bind (wpAny_nextOf_list_item (j1.extBut e1.extBut D.i1z) (m1.extBut e1.extBut D.l1z) hx fun q2 j2' e2 => wpAny_pure ?_)
  have o2 : IsPair q2 TO a b := e2.extBut _ _ D.TOi1 (e1.extBut _ _ D.TOz hTO)
  refine wpAny_bind (wpAny_seqItems o2 rfl (wpAny_bind (wpAny_updateSeq_pair o2 fun q3 o3 e3 => wpAny_bind (wpAny_letGo (wpAny_pure ?_)))))
  replace o3 : IsPair q3 TO x b := o3
  refine wpAny_bind (wpAny_bind (wpAny_onRaise ?_))
  show wpAny _ _ (Builtin.SmallTypes.nextOf (.ref i2) >>= _) _ _ _
  have n2 : q3.IsListIter i2 l2 k2 := ((j2.extBut e1.extBut D.i2z).extBut e2.extBut D.i12.symm).extBut e3.extBut D.TOi2.symm
  have n3 : q3.IsList l2 ys := ((m2.extBut e1.extBut D.l2z).extBut e2.extBut D.l2i1).extBut e3.extBut D.l2TO
  refine wpAny_bind (wpAny_nextOf_list_item n2 n3 hy fun q4 j4 e4 => wpAny_pure ?_)
  have o4 : IsPair q4 TO x b := e4.extBut _ _ D.TOi2 o3
  refine wpAny_bind (wpAny_seqItems o4 rfl (wpAny_bind (wpAny_updateSeq_pair o4 fun q5 o5 e5 => wpAny_bind (wpAny_letGo (wpAny_pure (wpAny_pure ?_))))))
  replace o5 : IsPair q5 TO x y := o5
  refine wpAny_bind (wpAny_seqItems o5 rfl (wpAny_bind (wpAny_newTuple ?_)))
  have sz : q5.objs.size = s.heap.objs.size := by rw [e5.1, e4.1, e3.1, e2.1, e1.1]
  have z5 : ZipX q5 z TI TO .ellipsis f := e5.extBut _ _ D.TOz.symm (e4.extBut _ _ D.i2z.symm (e3.extBut _ _ D.TOz.symm (e2.extBut _ _ D.i1z.symm z1)))
  have kp : ∀ c o, c ≠ z → c ≠ TO → c ≠ i1 → c ≠ i2 → s.heap.get? c = some o → q5.get? c = some o := fun c o c1 c2 c3 c4 e =>
    e5.extBut _ _ c2 (e4.extBut _ _ c4 (e3.extBut _ _ c2 (e2.extBut _ _ c3 (e1.extBut _ _ c1 e))))
  have p1 : q5.IsListIter i1 l1 (k1 + 1) := ((j2'.extBut e3.extBut D.TOi1.symm).extBut e4.extBut D.i12).extBut e5.extBut D.TOi1.symm
  have p2 : q5.IsListIter i2 l2 (k2 + 1) := j4.extBut e5.extBut D.TOi2.symm
  have lz : z < q5.objs.size := Heap.lt_size z5
  show wpAny _ _ (Builtin.SmallTypes.ownedTupleHandOut (.ref z) (.ref q5.objs.size) >>= _) _ _ _
  refine wpAny_bind ?_
  unfold Builtin.SmallTypes.ownedTupleHandOut
  have z6 : ZipX (q5.push { cls := .type "tuple", data := .seq #[x, y] }) z TI TO .ellipsis f := Heap.get?_push_of_some _ z5
  refine wpAny_bind (wpAny_setField_rec z6 (by simp) fun q7 z7 e7 => ?_)
  replace z7 : ZipX q7 z TI TO (rawInt q5.objs.size) f := z7
  refine wpAny_setField_rec z7 (by simp) fun q8 z8 e8 => ?_
  replace z8 : ZipX q8 z TI TO (rawInt q5.objs.size) false := z8
  have up : ∀ c o, c ≠ z → q5.get? c = some o → q8.get? c = some o := fun c o c1 e => e8.extBut _ _ c1 (e7.extBut _ _ c1 (Heap.get?_push_of_some _ e))
  have t8 : IsPair q8 q5.objs.size x y := e8.extBut _ _ (Nat.ne_of_gt lz) (e7.extBut _ _ (Nat.ne_of_gt lz) (Heap.get?_push_size _ rfl))
  have s8 : q8.objs.size = q5.objs.size + 1 := by rw [e8.1, e7.1, Heap.size_push]
  refine wpAny_pure ⟨_, rfl, ?_⟩
  show Q (.ref q5.objs.size) _
  rw [sz] at z8 t8 s8 ⊢
  exact hQ q8 _ _ z8 (.inr ⟨_, rfl⟩) ⟨_, _, up _ _ D.TOz o5⟩ (p1.at fun o e => up _ _ D.i1z e) (p2.at fun o e => up _ _ D.i2z e) t8 s8 fun c o c1 c2 c3 c4 e => up c o c1 (kp c o c1 c2 c3 c4 e)
/-- the next pair, whatever it lent -/
theorem next_pair {z TI TO i1 i2 l1 l2 : Addr} {v0 : Value} {f : Bool} {k1 k2 : Nat} {xs ys : Array Value} {x y : Value} {Q : Value → Shared → Prop} (D : ZipApart z TI TO i1 i2 l1 l2)
    (hz : ZipX s.heap z TI TO v0 f) (hl : Lent v0 f) (hTI : IsPair s.heap TI (.ref i1) (.ref i2)) (hTO : ∃ a b, IsPair s.heap TO a b)
    (j1 : s.heap.IsListIter i1 l1 k1) (j2 : s.heap.IsListIter i2 l2 k2) (m1 : s.heap.IsList l1 xs) (m2 : s.heap.IsList l2 ys) (hx : xs[k1]? = some x) (hy : ys[k2]? = some y)
    (hQ : ∀ h' v f', ZipX h' z TI TO v f' → Lent v f' → (∃ a b, IsPair h' TO a b) → h'.IsListIter i1 l1 (k1 + 1) → h'.IsListIter i2 l2 (k2 + 1) → IsPair h' s.heap.objs.size x y → h'.objs.size = s.heap.objs.size + 1 →
      (∀ c o, c ≠ z → c ≠ TO → c ≠ i1 → c ≠ i2 → s.heap.get? c = some o → h'.get? c = some o) → Q (.ref s.heap.objs.size) { s with heap := h' }) :
    wpAny (model prog w) A (Builtin.«zip.__next__» ⟨[.ref z], []⟩) (fun fin s' => ∃ v, fin = .done (.ret v) ∧ Q v s') E s := by
  obtain ⟨a, b, hTO⟩ := hTO
  rcases hl with ⟨rfl, rfl⟩ | ⟨T, rfl⟩
  · exact zip_next_item D hz hTI hTO j1 j2 m1 m2 hx hy fun h' a1 a2 a3 a4 a5 a6 a7 => hQ h' _ _ a1 (.inr ⟨_, rfl⟩) ⟨_, _, a2⟩ a3 a4 a5 a6 a7
  · cases hT : s.heap.get? T with
    | none => exact next_gone D hz hT hTI hTO j1 j2 m1 m2 hx hy hQ
    | some oT => exact zip_next_item_held D hz hT hTI j1 j2 m1 m2 hx hy fun h' a1 a3 a4 a5 a6 a7 => hQ h' _ _ a1 (.inr ⟨_, rfl⟩) ⟨a, b, a7 TO _ D.TOz D.TOi1 D.TOi2 hTO⟩ a3 a4 a5 a6 fun c o c1 _ c3 c4 e => a7 c o c1 c3 c4 e
theorem nextOf_pair {z TI TO i1 i2 l1 l2 : Addr} {v0 : Value} {f : Bool} {k1 k2 : Nat} {xs ys : Array Value} {x y : Value} {Q : Value → Shared → Prop} (D : ZipApart z TI TO i1 i2 l1 l2)
    (hz : ZipX s.heap z TI TO v0 f) (hl : Lent v0 f) (hTI : IsPair s.heap TI (.ref i1) (.ref i2)) (hTO : ∃ a b, IsPair s.heap TO a b)
    (j1 : s.heap.IsListIter i1 l1 k1) (j2 : s.heap.IsListIter i2 l2 k2) (m1 : s.heap.IsList l1 xs) (m2 : s.heap.IsList l2 ys) (hx : xs[k1]? = some x) (hy : ys[k2]? = some y)
    (hQ : ∀ h' v f', ZipX h' z TI TO v f' → Lent v f' → (∃ a b, IsPair h' TO a b) → h'.IsListIter i1 l1 (k1 + 1) → h'.IsListIter i2 l2 (k2 + 1) → IsPair h' s.heap.objs.size x y → h'.objs.size = s.heap.objs.size + 1 →
      (∀ c o, c ≠ z → c ≠ TO → c ≠ i1 → c ≠ i2 → s.heap.get? c = some o → h'.get? c = some o) → Q (.ref s.heap.objs.size) { s with heap := h' }) :
    wpAny (model prog w) A (Builtin.SmallTypes.nextOf (.ref z)) Q E s := by
  have hT : s.TypeIs (.ref z) "zip" := ⟨_, hz, rfl⟩
  unfold Builtin.SmallTypes.nextOf
  exact wpAny_bind (wpAny_callSpecial?_slot (name := Str.ofString "__next__") hT F.slot_zip_next
    (wpAny_call_entry F.slot_zip_next hT F.entry_zip_next
      (next_pair D hz hl hTI hTO j1 j2 m1 m2 hx hy fun h' v f' a1 a2 a3 a4 a5 a6 a7 a8 => wpAny_pure (hQ h' v f' a1 a2 a3 a4 a5 a6 a7 a8)) (F.args_zip_next_1 _)))
theorem end_gone {z TI TO T i1 i2 l1 l2 : Addr} {f : Bool} {k1 k2 : Nat} {xs ys : Array Value} {a b : Value} {Q : Fin → Shared → Prop} (hh : A.handled = none) (D : ZipApart z TI TO i1 i2 l1 l2)
    (hz : ZipX s.heap z TI TO (rawInt (T : Nat)) f) (hT : s.heap.get? T = none) (hTI : IsPair s.heap TI (.ref i1) (.ref i2)) (hTO : IsPair s.heap TO a b)
    (j1 : s.heap.IsListIter i1 l1 k1) (j2 : s.heap.IsListIter i2 l2 k2) (m1 : s.heap.IsList l1 xs) (m2 : s.heap.IsList l2 ys) (hend : xs[k1]? = none ∨ ys[k2]? = none)
    (hE : ∀ h' e, (∀ c o, c ≠ z → c ≠ TO → c ≠ i1 → c ≠ i2 → s.heap.get? c = some o → h'.get? c = some o) → (∃ o, h'.get? e = some o ∧ o.cls = .type "StopIteration") → E (.ref e) { s with heap := h' }) :
    wpAny (model prog w) A (Builtin.«zip.__next__» ⟨[.ref z], []⟩) Q E s := by
  show wpAny _ _ (field (.ref z) 2 >>= _) _ _ _
  refine wpAny_bind (wpAny_field hz rfl (x := .bool false) rfl ?_)
  show wpAny _ _ (field (.ref z) 3 >>= _) _ _ _
  refine wpAny_bind (wpAny_field hz rfl (x := .ref TI) rfl (wpAny_bind (wpAny_seqItems hTI rfl ?_)))
  show wpAny _ _ (Builtin.SmallTypes.ownedTupleIsFree (.ref z) >>= _) _ _ _
  refine wpAny_bind (free_gone hz hT ?_)
  simp only [if_true]
  refine wpAny_bind (wpAny_rule (wpAny_bind (wpAny_field hz rfl (x := .ref TO) rfl (wpAny_bind (wpAny_setField_rec hz (by simp) fun q1 z1 e1 => ?_)))))
  replace z1 : ZipX q1 z TI TO .ellipsis f := z1
  refine wpAny_bind ?_
  simp only [List.zipIdx_cons, List.zipIdx_nil, List.forIn_cons, List.forIn_nil]
  refine wpAny_bind (wpAny_bind (wpAny_onRaise ?_))
  show wpAny _ _ (Builtin.SmallTypes.nextOf (.ref i1) >>= _) _ _ _
  have fin : ∀ (q : Heap) (e : Addr) (oe : Obj), ZipX q z TI TO .ellipsis f → q.get? e = some oe → oe.cls = .type "StopIteration" → e ≠ z := fun q e oe hq he hc x => by
    subst x; rw [hq] at he; cases he; simp at hc
  cases hx : xs[k1]? with
  | none =>
    refine wpAny_bind (wpAny_nextOf_list_end hh (j1.extBut e1.extBut D.i1z) (m1.extBut e1.extBut D.l1z) hx fun q2 e e2 he => ?_)
    obtain ⟨oe, hoe, hce⟩ := he
    have z2 : ZipX q2 z TI TO .ellipsis f := e2 _ _ D.i1z.symm z1
    exact wpAny_setField_rec z2 (by simp) fun q3 _ e3 => hE q3 e (fun c o c1 _ c3 _ y => e3.extBut _ _ c1 (e2 _ _ c3 (e1.extBut _ _ c1 y))) ⟨oe, e3.extBut _ _ (fin _ _ _ z2 hoe hce) hoe, hce⟩
  | some x =>
    have hy : ys[k2]? = none := by rcases hend with h | h; rw [hx] at h; cases h; exact h
    refine wpAny_bind (wpAny_nextOf_list_item (j1.extBut e1.extBut D.i1z) (m1.extBut e1.extBut D.l1z) hx fun q2 _ e2 => wpAny_pure ?_)
    have o2 : IsPair q2 TO a b := e2.extBut _ _ D.TOi1 (e1.extBut _ _ D.TOz hTO)
    refine wpAny_bind (wpAny_seqItems o2 rfl (wpAny_bind (wpAny_updateSeq_pair o2 fun q3 _ e3 => wpAny_bind (wpAny_letGo (wpAny_pure ?_)))))
    refine wpAny_bind (wpAny_bind (wpAny_onRaise ?_))
    show wpAny _ _ (Builtin.SmallTypes.nextOf (.ref i2) >>= _) _ _ _
    have n2 : q3.IsListIter i2 l2 k2 := ((j2.extBut e1.extBut D.i2z).extBut e2.extBut D.i12.symm).extBut e3.extBut D.TOi2.symm
    have n3 : q3.IsList l2 ys := ((m2.extBut e1.extBut D.l2z).extBut e2.extBut D.l2i1).extBut e3.extBut D.l2TO
    refine wpAny_bind (wpAny_nextOf_list_end hh n2 n3 hy fun q4 e e4 he => ?_)
    obtain ⟨oe, hoe, hce⟩ := he
    have z4 : ZipX q4 z TI TO .ellipsis f := e4 _ _ D.i2z.symm (e3.extBut _ _ D.TOz.symm (e2.extBut _ _ D.i1z.symm z1))
    exact wpAny_setField_rec z4 (by simp) fun q5 _ e5 => hE q5 e (fun c o c1 c2 c3 c4 y => e5.extBut _ _ c1 (e4 _ _ c4 (e3.extBut _ _ c2 (e2.extBut _ _ c3 (e1.extBut _ _ c1 y))))) ⟨oe, e5.extBut _ _ (fin _ _ _ z4 hoe hce) hoe, hce⟩
theorem nextOf_end {z TI TO i1 i2 l1 l2 : Addr} {v0 : Value} {f : Bool} {k1 k2 : Nat} {xs ys : Array Value} {Q : Value → Shared → Prop} (hh : A.handled = none) (D : ZipApart z TI TO i1 i2 l1 l2)
    (hz : ZipX s.heap z TI TO v0 f) (hl : Lent v0 f) (hTI : IsPair s.heap TI (.ref i1) (.ref i2)) (hTO : ∃ a b, IsPair s.heap TO a b)
    (j1 : s.heap.IsListIter i1 l1 k1) (j2 : s.heap.IsListIter i2 l2 k2) (m1 : s.heap.IsList l1 xs) (m2 : s.heap.IsList l2 ys) (hend : xs[k1]? = none ∨ ys[k2]? = none)
    (hE : ∀ h' e, (∀ c o, c ≠ z → c ≠ TO → c ≠ i1 → c ≠ i2 → s.heap.get? c = some o → h'.get? c = some o) → (∃ o, h'.get? e = some o ∧ o.cls = .type "StopIteration") → E (.ref e) { s with heap := h' }) :
    wpAny (model prog w) A (Builtin.SmallTypes.nextOf (.ref z)) Q E s := by
  have hT : s.TypeIs (.ref z) "zip" := ⟨_, hz, rfl⟩
  obtain ⟨a, b, hTO⟩ := hTO
  unfold Builtin.SmallTypes.nextOf
  refine wpAny_bind (wpAny_callSpecial?_slot (name := Str.ofString "__next__") hT F.slot_zip_next
    (wpAny_call_entry F.slot_zip_next hT F.entry_zip_next ?_ (F.args_zip_next_1 _)))
  rcases hl with ⟨rfl, rfl⟩ | ⟨T, rfl⟩
  · exact zip_next_end hh D hz hTI hTO j1 j2 m1 m2 hend hE
  · cases hT : s.heap.get? T with
    | none => exact end_gone hh D hz hT hTI hTO j1 j2 m1 m2 hend hE
    | some oT => exact zip_next_end_held hh D hz hT hTI j1 j2 m1 m2 hend fun h' e k x => hE h' e (fun c o c1 _ c3 c4 y => k c o c1 c3 c4 y) x
/-! ### enumerate over that -/
theorem enum_next_pair {e z TI TO i1 i2 l1 l2 : Addr} {v0 : Value} {f : Bool} {c : Int} {k1 k2 : Nat} {xs ys : Array Value} {x y old : Value} {Q : Value → Shared → Prop} (D : ZipApart z TI TO i1 i2 l1 l2)
    (he : IsEnum s.heap e z c old) (hez : e ≠ z) (heo : e ≠ TO) (he1 : e ≠ i1) (he2 : e ≠ i2) (heI : e ≠ TI)
    (hz : ZipX s.heap z TI TO v0 f) (hl : Lent v0 f) (hTI : IsPair s.heap TI (.ref i1) (.ref i2)) (hTO : ∃ a b, IsPair s.heap TO a b)
    (j1 : s.heap.IsListIter i1 l1 k1) (j2 : s.heap.IsListIter i2 l2 k2) (m1 : s.heap.IsList l1 xs) (m2 : s.heap.IsList l2 ys) (hx : xs[k1]? = some x) (hy : ys[k2]? = some y)
    (hQ : ∀ h' v f' tk, IsEnumOut h' e z (c + 1) (.ref s.heap.objs.size) (s.heap.objs.size + 1) → ZipX h' z TI TO v f' → Lent v f' → IsPair h' TI (.ref i1) (.ref i2) → (∃ a b, IsPair h' TO a b) → h'.IsListIter i1 l1 (k1 + 1) → h'.IsListIter i2 l2 (k2 + 1) →
      IsPair h' (s.heap.objs.size + 1) (.int c tk) (.ref s.heap.objs.size) →
      (∃ q : Heap, IsPair q s.heap.objs.size x y ∧ q.objs.size = s.heap.objs.size + 1 ∧ (∀ d o, d ≠ z → d ≠ TO → d ≠ i1 → d ≠ i2 → s.heap.get? d = some o → q.get? d = some o) ∧ ∀ d o, d ≠ e → q.get? d = some o → h'.get? d = some o) → Q (.ref (s.heap.objs.size + 1)) { s with heap := h', toks := tk + 1 }) :
    wpAny (model prog w) A (Builtin.«enumerate.__next__» ⟨[.ref e], []⟩) (fun fin s' => ∃ v, fin = .done (.ret v) ∧ Q v s') E s := by
  obtain ⟨hp, g, d, tk, os⟩ := s
  show wpAny _ _ (field (.ref e) 2 >>= _) _ _ _
  refine wpAny_bind (wpAny_field he rfl (x := .ref z) rfl (wpAny_bind (nextOf_pair D hz hl hTI hTO j1 j2 m1 m2 hx hy fun q1 v f' z1 l1' o1 r1 r2 t1 s1 k1' => ?_)))
  have b1 : IsEnum q1 e z c old := k1' e _ hez heo he1 he2 he
  have iI : IsPair q1 TI (.ref i1) (.ref i2) := k1' TI _ D.TIz D.TITO D.TIi1 D.TIi2 hTI
  show wpAny _ _ (field (.ref e) 3 >>= _) _ _ ⟨q1, g, d, tk, os⟩
  refine wpAny_bind (wpAny_field b1 rfl (x := rawInt c) rfl ?_)
  show wpAny _ _ (field (.ref e) 4 >>= _) _ _ ⟨q1, g, d, tk, os⟩
  refine wpAny_bind (wpAny_field b1 rfl (x := .none) rfl ?_)
  show wpAny _ _ (mkInt c >>= _) _ _ ⟨q1, g, d, tk, os⟩
  refine wpAny_bind (wpAny_mkInt ?_)
  show wpAny _ _ (setField (.ref e) 3 (rawInt (c + 1)) >>= _) _ _ ⟨q1, g, d, tk + 1, os⟩
  refine wpAny_bind (wpAny_setField_rec b1 (by simp) fun q2 b2 e2 => ?_)
  replace e2 : Heap.SameBut e q1 q2 := e2
  replace b2 : IsEnum q2 e z (c + 1) old := b2
  show wpAny _ _ (setField (.ref e) 4 .none >>= _) _ _ ⟨q2, g, d, tk + 1, os⟩
  refine wpAny_bind (wpAny_setField_rec b2 (by simp) fun q3 b3 e3 => ?_)
  replace e3 : Heap.SameBut e q2 q3 := e3
  replace b3 : IsEnum q3 e z (c + 1) old := b3
  replace s1 : q1.objs.size = hp.objs.size + 1 := s1
  replace t1 : IsPair q1 hp.objs.size x y := t1
  have s3 : q3.objs.size = hp.objs.size + 1 := by rw [e3.1, e2.1, s1]
  show wpAny _ _ (newTuple [.int c tk, .ref hp.objs.size] >>= _) _ _ ⟨q3, g, d, tk + 1, os⟩
  refine wpAny_bind (wpAny_newTuple ?_)
  have b4 : IsEnum (q3.push { cls := .type "tuple", data := .seq #[.int c tk, .ref hp.objs.size] }) e z (c + 1) old := Heap.get?_push_of_some _ b3
  have t4 : IsPair (q3.push { cls := .type "tuple", data := .seq #[.int c tk, .ref hp.objs.size] }) (hp.objs.size + 1) (.int c tk) (.ref hp.objs.size) := by rw [← s3]; exact Heap.get?_push_size _ rfl
  have u4 : ∀ a o, a ≠ e → q1.get? a = some o → (q3.push { cls := .type "tuple", data := .seq #[.int c tk, .ref hp.objs.size] }).get? a = some o := fun a o ha q => Heap.get?_push_of_some _ (e3.extBut a o ha (e2.extBut a o ha q))
  generalize q3.push { cls := .type "tuple", data := .seq #[.int c tk, .ref hp.objs.size] } = q4 at b4 t4 u4
  show wpAny _ _ (Builtin.SmallTypes.ownedTupleIsFree (.ref e) >>= _) _ _ ⟨q4, g, d, tk + 1, os⟩
  rw [s3]
  refine wpAny_bind ?_
  unfold Builtin.SmallTypes.ownedTupleIsFree
  refine wpAny_bind (wpAny_field b4 rfl (x := .none) rfl (wpAny_pure ?_))
  simp only [if_true]
  refine wpAny_bind (wpAny_rule (wpAny_bind (wpAny_field b4 rfl (x := old) rfl (wpAny_bind (wpAny_setField_rec b4 (by simp) fun q5 b5 e5 => ?_)))))
  replace e5 : Heap.SameBut e q4 q5 := e5
  replace b5 : IsEnum q5 e z (c + 1) (.ref hp.objs.size) := b5
  show wpAny _ _ (Builtin.SmallTypes.ownedTupleHandOut (.ref e) (.ref (hp.objs.size + 1)) >>= _) _ _ ⟨q5, g, d, tk + 1, os⟩
  refine wpAny_bind ?_
  unfold Builtin.SmallTypes.ownedTupleHandOut
  refine wpAny_bind (wpAny_setField_rec b5 (by simp) fun q6 b6 e6 => ?_)
  replace e6 : Heap.SameBut e q5 q6 := e6
  replace b6 : IsEnumOut q6 e z (c + 1) (.ref hp.objs.size) (hp.objs.size + 1) := b6
  refine wpAny_setField_rec b6 (by simp) fun q7 b7 e7 => ?_
  replace e7 : Heap.SameBut e q6 q7 := e7
  replace b7 : IsEnumOut q7 e z (c + 1) (.ref hp.objs.size) (hp.objs.size + 1) := b7
  have u7 : ∀ a o, a ≠ e → q4.get? a = some o → q7.get? a = some o := fun a o ha q => e7.extBut a o ha (e6.extBut a o ha (e5.extBut a o ha q))
  have u : ∀ a o, a ≠ e → q1.get? a = some o → q7.get? a = some o := fun a o ha q => u7 a o ha (u4 a o ha q)
  have le : e < hp.objs.size := Heap.lt_size he
  have n1 : hp.objs.size ≠ e := Nat.ne_of_gt le
  have n2 : hp.objs.size + 1 ≠ e := Nat.ne_of_gt (Nat.lt_succ_of_lt le)
  obtain ⟨a', b', o1⟩ := o1
  refine wpAny_bind (wpAny_letGo (wpAny_pure ⟨_, rfl, hQ q7 v f' tk b7 (u _ _ hez.symm z1) l1' (u _ _ heI.symm iI) ⟨a', b', u _ _ heo.symm o1⟩ (r1.at fun o q => u _ o he1.symm q) (r2.at fun o q => u _ o he2.symm q) (u7 _ _ n2 t4) ⟨q1, t1, s1, k1', u⟩⟩))
theorem pyNext_enum_pair {e z TI TO i1 i2 l1 l2 : Addr} {v0 : Value} {f : Bool} {c : Int} {k1 k2 : Nat} {xs ys : Array Value} {x y old : Value} {Q : Option Value → Shared → Prop} (D : ZipApart z TI TO i1 i2 l1 l2)
    (he : IsEnum s.heap e z c old) (hez : e ≠ z) (heo : e ≠ TO) (he1 : e ≠ i1) (he2 : e ≠ i2) (heI : e ≠ TI)
    (hz : ZipX s.heap z TI TO v0 f) (hl : Lent v0 f) (hTI : IsPair s.heap TI (.ref i1) (.ref i2)) (hTO : ∃ a b, IsPair s.heap TO a b)
    (j1 : s.heap.IsListIter i1 l1 k1) (j2 : s.heap.IsListIter i2 l2 k2) (m1 : s.heap.IsList l1 xs) (m2 : s.heap.IsList l2 ys) (hx : xs[k1]? = some x) (hy : ys[k2]? = some y)
    (hQ : ∀ h' v f' tk, IsEnumOut h' e z (c + 1) (.ref s.heap.objs.size) (s.heap.objs.size + 1) → ZipX h' z TI TO v f' → Lent v f' → IsPair h' TI (.ref i1) (.ref i2) → (∃ a b, IsPair h' TO a b) → h'.IsListIter i1 l1 (k1 + 1) → h'.IsListIter i2 l2 (k2 + 1) →
      IsPair h' (s.heap.objs.size + 1) (.int c tk) (.ref s.heap.objs.size) →
      (∃ q : Heap, IsPair q s.heap.objs.size x y ∧ q.objs.size = s.heap.objs.size + 1 ∧ (∀ d o, d ≠ z → d ≠ TO → d ≠ i1 → d ≠ i2 → s.heap.get? d = some o → q.get? d = some o) ∧ ∀ d o, d ≠ e → q.get? d = some o → h'.get? d = some o) → Q (some (.ref (s.heap.objs.size + 1))) { s with heap := h', toks := tk + 1 }) :
    wpAny (model prog w) A (pyNext (.ref e)) Q E s := by
  have hT : s.TypeIs (.ref e) "enumerate" := ⟨_, he, rfl⟩
  unfold pyNext
  exact wpAny_bind (wpAny_attempt (wpAny_callSpecial?_slot (name := Str.ofString "__next__") hT F.slot_enumerate_next
    (wpAny_call_entry F.slot_enumerate_next hT F.entry_enumerate_next
      (enum_next_pair D he hez heo he1 he2 heI hz hl hTI hTO j1 j2 m1 m2 hx hy fun h' v f' tk a1 a2 a3 a4 a5 a6 a7 a8 a9 => wpAny_pure (hQ h' v f' tk a1 a2 a3 a4 a5 a6 a7 a8 a9)) (F.args_enumerate_next_1 _))))
theorem pyNext_enum_end {e z TI TO i1 i2 l1 l2 : Addr} {v0 : Value} {f : Bool} {c : Int} {k1 k2 : Nat} {xs ys : Array Value} {old : Value} {Q : Option Value → Shared → Prop} (hh : A.in1.handled = none) (D : ZipApart z TI TO i1 i2 l1 l2)
    (he : IsEnum s.heap e z c old) (hz : ZipX s.heap z TI TO v0 f) (hl : Lent v0 f) (hTI : IsPair s.heap TI (.ref i1) (.ref i2)) (hTO : ∃ a b, IsPair s.heap TO a b)
    (j1 : s.heap.IsListIter i1 l1 k1) (j2 : s.heap.IsListIter i2 l2 k2) (m1 : s.heap.IsList l1 xs) (m2 : s.heap.IsList l2 ys) (hend : xs[k1]? = none ∨ ys[k2]? = none)
    (hQ : ∀ h', (∀ d o, d ≠ z → d ≠ TO → d ≠ i1 → d ≠ i2 → s.heap.get? d = some o → h'.get? d = some o) → Q none { s with heap := h' }) :
    wpAny (model prog w) A (pyNext (.ref e)) Q E s := by
  have hT : s.TypeIs (.ref e) "enumerate" := ⟨_, he, rfl⟩
  unfold pyNext
  refine wpAny_bind (wpAny_attempt (wpAny_callSpecial?_slot (name := Str.ofString "__next__") hT F.slot_enumerate_next
    (wpAny_call_entry F.slot_enumerate_next hT F.entry_enumerate_next ?_ (F.args_enumerate_next_1 _))))
  show wpAny _ _ (field (.ref e) 2 >>= _) _ _ _
  refine wpAny_bind (wpAny_field he rfl (x := .ref z) rfl (wpAny_bind (nextOf_end hh D hz hl hTI hTO j1 j2 m1 m2 hend fun h' x k hx => ?_)))
  obtain ⟨o, ho, hc⟩ := hx
  refine wpAny_bind (wpAny_isInstance (T := "StopIteration") (b := true) ⟨o, ho, hc⟩ isSubtype_stop ?_)
  exact wpAny_pure (hQ _ k)
end

def JezK (K : PySem.W.Frag) (a b : Addr) : L2.It :=
  ⟨fun i H => ∃ (xs ys : List V) (x y : V), SqL K H a xs ∧ SqL K H b ys ∧ xs[i]? = some x ∧ ys[i]? = some y,
    fun i H v H' => ∃ U T x y, v = .ref T ∧ H U = none ∧ upd H U (.tup [x, y]) T = none ∧ H' = upd (upd H U (.tup [x, y])) T (.tup [.int (i : Nat), .ref U]) ∧ (∀ xs, SqL K H a xs → xs[i]? = some x) ∧ ∀ ys, SqL K H b ys → ys[i]? = some y,
    fun i H => ∃ xs ys : List V, SqL K H a xs ∧ SqL K H b ys ∧ min xs.length ys.length = i⟩
theorem turn_enumz {P : Program} {w : World} {K : PySem.W.Frag} {elts : List Expr} {kk : Nat} {tpos : Pos} {a b e z TI TO i1 i2 : Addr} (D : ZipApart z TI TO i1 i2 a b) (hez : e ≠ z) (heo : e ≠ TO) (he1 : e ≠ i1) (he2 : e ≠ i2) (heI : e ≠ TI) :
    Turn P w K (.Tuple elts kk tpos) (JezK K a b) [e, z, TI, TO, i1, i2] e (fun i h => (∃ old, IsEnum h e z (i : Nat) old) ∧ (∃ v f, ZipX h z TI TO v f ∧ Lent v f) ∧ IsPair h TI (.ref i1) (.ref i2) ∧ (∃ x y, IsPair h TO x y) ∧ h.IsListIter i1 a i ∧ h.IsListIter i2 b i) where
  mem := by simp
  obj := fun i h st c hc => by
    obtain ⟨⟨old, he⟩, ⟨v, f, hz, _⟩, hTI, ⟨x, y, hTO⟩, ⟨o1, h1, _, d1⟩, ⟨o2, h2, _, d2⟩⟩ := st
    have e' : c = e ∨ c = z ∨ c = TI ∨ c = TO ∨ c = i1 ∨ c = i2 := by simpa using hc
    rcases e' with q | q | q | q | q | q
    · rw [q]; exact ⟨_, he, fun v q => nomatch q⟩
    · rw [q]; exact ⟨_, hz, fun v q => nomatch q⟩
    · rw [q]; exact ⟨_, hTI, fun v q => nomatch q⟩
    · rw [q]; exact ⟨_, hTO, fun v q => nomatch q⟩
    · rw [q]; exact ⟨_, h1, fun v q => by rw [d1] at q; cases q⟩
    · rw [q]; exact ⟨_, h2, fun v q => by rw [d2] at q; cases q⟩
  keep := fun i h h' st k => by
    obtain ⟨⟨old, he⟩, ⟨v, f, hz, hl⟩, hTI, ⟨x, y, hTO⟩, h1, h2⟩ := st
    exact ⟨⟨old, k e (by simp) _ he⟩, ⟨v, f, k z (by simp) _ hz, hl⟩, k TI (by simp) _ hTI, ⟨x, y, k TO (by simp) _ hTO⟩, h1.at fun o q => k i1 (by simp) o q, h2.at fun o q => k i2 (by simp) o q⟩
  item := by
    intro X hP hw hK hc i pins s σ H E I hf st hg
    subst hP hw hK
    obtain ⟨⟨old, he⟩, ⟨v0, f0, hz, hl⟩, hTI, hTO, h1, h2⟩ := st
    obtain ⟨xs, ys, x, y, hqx, hqy, hx, hy⟩ := hg
    obtain ⟨its, rv, p, _⟩ := I.list hqx
    obtain ⟨its2, rv2, p2, _⟩ := I.list hqy
    obtain ⟨u, hu, ru⟩ := rv.get hx
    obtain ⟨u2, hu2, ru2⟩ := rv2.get hy
    refine pyNext_enum_pair D he hez heo he1 he2 heI hz hl hTI hTO h1 h2 p.isList p2.isList (x := u) (y := u2) (by simpa using hu) (by simpa using hu2) fun h' v f' tk a1 a2 a3 a4 a5 a6 a7 a9 ⟨q1, t1, s1, k1, u1⟩ => ⟨_, rfl, ?_⟩
    refine wpAny_letOwnedTupleGo_enum a1 fun g2 b1 e2 => ?_
    replace e2 : Heap.SameBut e h' g2 := e2
    have u2' : ∀ d o, d ≠ e → q1.get? d = some o → g2.get? d = some o := fun d o hd q => e2.extBut d o hd (u1 d o hd q)
    have le : e < s.heap.objs.size := Heap.lt_size he
    have hU : H s.heap.objs.size = none := I.hok.fresh (Nat.le_refl _)
    have new1 : ObjOk X.prog X.w (upd H s.heap.objs.size (.tup [x, y])) q1 s.heap.objs.size (.tup [x, y]) := ⟨by show 2 ≤ sizeLine; decide, [u, u2], .cons ru (.cons ru2 .nil), ⟨_, t1, rfl, _, rfl⟩⟩
    have I1 : Inv X pins σ (upd H s.heap.objs.size (.tup [x, y])) { s with heap := q1, toks := s.toks } :=
      I.turnedNew (t' := s.toks) (ch := [e, z, TI, TO, i1, i2]) (fun c o hb q => k1 c o (fun z => hb (by simp [z])) (fun z => hb (by simp [z])) (fun z => hb (by simp [z])) (fun z => hb (by simp [z])) q) hf (Nat.le_refl _) new1
    have lt : ∀ c ∈ [e, z, TI, TO, i1, i2], c < s.heap.objs.size := fun c hcm => by
      have e' : c = e ∨ c = z ∨ c = TI ∨ c = TO ∨ c = i1 ∨ c = i2 := by simpa using hcm
      rcases e' with q | q | q | q | q | q
      · rw [q]; exact le
      · rw [q]; exact Heap.lt_size hz
      · rw [q]; exact Heap.lt_size hTI
      · rw [q]; obtain ⟨_, _, hTO⟩ := hTO; exact Heap.lt_size hTO
      · rw [q]; obtain ⟨_, e1, _⟩ := h1; exact Heap.lt_size e1
      · rw [q]; obtain ⟨_, e1, _⟩ := h2; exact Heap.lt_size e1
    have hf1 : ∀ c ∈ [e, z, TI, TO, i1, i2], FpOk X pins (upd H s.heap.objs.size (.tup [x, y])) c := fun c hcm => by
      have := hf c hcm
      exact ⟨by rw [upd_ne (Nat.ne_of_lt (lt c hcm))]; exact this.1, this.2⟩
    have hTn : upd H s.heap.objs.size (.tup [x, y]) (s.heap.objs.size + 1) = none := by rw [upd_ne (Nat.succ_ne_self _)]; exact I.hok.fresh (Nat.le_succ _)
    have new2 : ObjOk X.prog X.w (upd (upd H s.heap.objs.size (.tup [x, y])) (s.heap.objs.size + 1) (.tup [.int (i : Nat), .ref s.heap.objs.size])) g2 (s.heap.objs.size + 1) (.tup [.int (i : Nat), .ref s.heap.objs.size]) :=
      ⟨by show 2 ≤ sizeLine; decide, [.int (i : Nat) tk, .ref s.heap.objs.size], .cons ⟨tk, rfl⟩ (.cons rfl .nil), ⟨_, e2.extBut _ _ (Nat.ne_of_gt (Nat.lt_succ_of_lt le)) a9, rfl, _, rfl⟩⟩
    have I2 := I1.turnedNew (t' := tk + 1) (h' := g2) (ch := [e, z, TI, TO, i1, i2]) (fun c o hb q => u2' c o (fun z => hb (by simp [z])) q) hf1 (show q1.objs.size ≤ s.heap.objs.size + 1 by rw [s1]; exact Nat.le_refl _) new2
    refine ⟨.ref (s.heap.objs.size + 1), _, I2, rfl, ⟨_, _, x, y, rfl, hU, hTn, rfl, fun l hl => by rw [I.list_inj hl hqx]; exact hx, fun l hl => by rw [I.list_inj hl hqy]; exact hy⟩, ?_, fun c hcm => ?_⟩
    · refine ⟨⟨_, b1⟩, ⟨v, f', e2.extBut _ _ hez.symm a2, a3⟩, e2.extBut _ _ heI.symm a4, ?_, a6.at fun o q => e2.extBut _ _ he1.symm q, a7.at fun o q => e2.extBut _ _ he2.symm q⟩
      obtain ⟨x', y', a5⟩ := a5
      exact ⟨x', y', e2.extBut _ _ heo.symm a5⟩
    · have l := lt c hcm
      rw [upd_ne (Nat.ne_of_lt (Nat.lt_succ_of_lt l)), upd_ne (Nat.ne_of_lt l)]
      exact (hf c hcm).1
  done := by
    intro X hP hw hK hc i pins s σ H E I hf st hg
    subst hP hw hK
    obtain ⟨⟨old, he⟩, ⟨v0, f0, hz, hl⟩, hTI, hTO, h1, h2⟩ := st
    obtain ⟨xs, ys, hqx, hqy, hend⟩ := hg
    obtain ⟨its, rv, p, _⟩ := I.list hqx
    obtain ⟨its2, rv2, p2, _⟩ := I.list hqy
    have hh : X.A.in1.handled = none := I.ok.hd hc
    have hn : its.toArray[i]? = none ∨ its2.toArray[i]? = none := by
      have r1 := rv.length
      have r2 := rv2.length
      by_cases q : xs.length = i
      · left; simp; omega
      · right; simp; omega
    exact pyNext_enum_end hh D he hz hl hTI hTO h1 h2 p.isList p2.isList hn fun h' k => ⟨rfl, I.turnedL (t' := s.toks) (ch := [e, z, TI, TO, i1, i2]) (fun c o hb q => k c o (fun z => hb (by simp [z])) (fun z => hb (by simp [z])) (fun z => hb (by simp [z])) (fun z => hb (by simp [z])) q) hf⟩
  self := fun A i s Q E st h => by
    obtain ⟨⟨_, he⟩, _⟩ := st
    exact wpAny_pyIter_enum he h

theorem meets_enumerate_newZ {z TI TO : Addr} :
    Meets (Builtin.«enumerate.__new__» ⟨[.type "enumerate", .ref z], []⟩) (fun _ R s => IsZip s.heap z TI TO .none ∧
      R (.ok (.ret (.ref s.heap.objs.size))) { s with heap := s.heap.push { cls := .type "enumerate", data := .fields #[.none, .bool false, .ref z, rawInt 0, .none, .none] } }) :=
  .of_wp fun prog w A R s h => by
    obtain ⟨hp, g, d, tk, os⟩ := s; obtain ⟨h1, h⟩ := h
    have hsub := sub_enumerate
    have q1 : ∀ {A' : Around} {E : Value → Shared → Prop} {Q : Value → Shared → Prop}, Q (.ref z) ⟨hp, g, d, tk, os⟩ → wpAny (model prog w) A' (pyIter (.ref z)) Q E ⟨hp, g, d, tk, os⟩ :=
      fun q => wpAny_pyIter_zip h1 q
    wp_walk using q1
    refine wpAny_stack_any fun st => wpAny_pure ?_
    split
    · rename_i c _ _ _ _ _
      cases (c == Value.type "enumerate")
      · wp_walk using q1
        exact ⟨_, rfl, h⟩
      · wp_walk using q1
        exact ⟨_, rfl, h⟩
    · wp_walk using q1
      exact ⟨_, rfl, h⟩
theorem enum_beginsZ {prog : Program} {w : World} {A : Around} {E : Value → Shared → Prop} {s : Shared} {z TI TO : Addr} {Q : Value → Shared → Prop} (h1 : IsZip s.heap z TI TO .none)
    (h : ∀ h', IsEnum h' s.heap.objs.size z 0 .none → (∀ b o, s.heap.get? b = some o → h'.get? b = some o) → Q (.ref s.heap.objs.size) { s with heap := h' }) :
    wpAny (model prog w) A (call (.type "enumerate") [.ref z]) Q E s := by
  refine callType_new F.called_enumerate (by decide) (F.typeCall_enumerate_1 _) (F.newCall_enumerate_1 _) (fun obj => F.args_object_init_2 obj _) F.entry_enumerate_new
    (meets_enumerate_newZ (z := z) (TI := TI) (TO := TO)) ⟨h1, ?_⟩
  have he : IsEnum (s.heap.push { cls := .type "enumerate", data := .fields #[.none, .bool false, .ref z, rawInt 0, .none, .none] }) s.heap.objs.size z 0 .none := Heap.get?_push_size _ rfl
  exact ⟨⟨_, he, rfl⟩, h _ he fun b o x => Heap.get?_push_of_some _ x⟩
def iEnz (K : PySem.W.Frag) (ta : TA) : TI := fun σ H R => ta σ H fun vs H1 => ∃ a b xs ys, vs = [.ref a, .ref b] ∧ SqL K H1 a xs ∧ SqL K H1 b ys ∧ R (JezK K a b) H1
theorem pi_enumz {X : Cx} {e e2 : Expr} {ta : TA} {p pz pos posz tpos : Pos} {elts : List Expr} {kk : Nat} (hg : Gl X "enumerate") (hm : X.mg "enumerate" = none) (hgz : Gl X "zip") (hmz : X.mg "zip" = none) (ha : PA X [e, e2] ta)
    (hs : starEach [e, e2] X.env = (false, eval e X.env) :: starEach [e2] X.env) (hpl : (backTo posz (starEach [e2] X.env)).any (·.1) = false) :
    PI X (.Tuple elts kk tpos) (.Call (.Name "enumerate" p) [.Call (.Name "zip" pz) [e, e2] [] posz] [] pos) (iEnz X.K ta) := by
  refine ⟨fun pins s σ H R I h => ?_⟩
  refine Call_ (ld_blt I hg hm boot_enumerate (PyProof.Rows.callWith_type1 ?_ rfl rfl))
  show wpAny _ _ (spliced ((false, eval (.Call (.Name "zip" pz) [e, e2] [] posz) X.env) :: backTo pos (starEach [] X.env))) _ _ s
  refine Calls.spliced_cons (Call_ (ld_blt I hgz hmz PyProof.Rows.boot_zip (PyProof.Rows.callWith_type1 (thn (ha.run posz pins s σ H _ I h) fun us s1 ⟨vs, H1, I1, r1, q1⟩ => ?_) hs hpl)))
  obtain ⟨a, b, xs, ys, rfl, hqx, hqy, q⟩ := q1
  cases r1 with
  | cons r rr =>
    cases rr with
    | cons r' rr =>
      cases rr
      cases r
      cases r'
      obtain ⟨its, rv, p1, la⟩ := SqK.held (t := false) hqx I1
      obtain ⟨its2, rv2, p2, lb⟩ := SqK.held (t := false) hqy I1
      refine zip_begins2 (beginsK false a its.toArray) (beginsK false b its2.toArray) p1 p2 fun h' hz hTI hTO h1 h2 hsz hk => Calls.spliced_nil ?_
      refine enum_beginsZ hz fun h3 he hk3 => wpAny_pyIter_enum he ?_
      have hk' : ∀ c o, s1.heap.get? c = some o → h3.get? c = some o := fun c o x => hk3 c o (hk c o x)
      have I2 : Inv X pins σ H1 { s1 with heap := h3 } := I1.kept (t' := s1.toks) hk'
      have he' : IsEnum h3 (s1.heap.objs.size + 5) (s1.heap.objs.size + 4) ((0 : Nat) : Int) .none := by rw [← hsz]; exact he
      have D : ZipApart (s1.heap.objs.size + 4) (s1.heap.objs.size + 2) (s1.heap.objs.size + 3) s1.heap.objs.size (s1.heap.objs.size + 1) a b := by
        have la' : @LT.lt Nat _ a s1.heap.objs.size := la
        have lb' : @LT.lt Nat _ b s1.heap.objs.size := lb
        constructor <;> exact fun h => by have h2 : @Eq Nat _ _ := h; omega
      have ne : ∀ n m : Nat, n ≠ m → s1.heap.objs.size + n ≠ s1.heap.objs.size + m := fun n m h h' => h (Nat.add_left_cancel h')
      have TZ := turn_enumz (P := X.prog) (w := X.w) (K := X.K) (elts := elts) (kk := kk) (tpos := tpos) (e := s1.heap.objs.size + 5) D (ne 5 4 (by decide)) (ne 5 3 (by decide)) (ne 5 0 (by decide)) (ne 5 1 (by decide)) (ne 5 2 (by decide))
      refine ⟨s1.heap.objs.size + 5, [s1.heap.objs.size + 5, s1.heap.objs.size + 4, s1.heap.objs.size + 2, s1.heap.objs.size + 3, s1.heap.objs.size, s1.heap.objs.size + 1], _, _, H1, congrArg Value.ref hsz, I2, TZ, ?_, fun c hcm => ?_, q⟩
      · exact ⟨⟨_, he'⟩, ⟨_, _, hk3 _ _ hz, .inl ⟨rfl, rfl⟩⟩, hk3 _ _ hTI, ⟨_, _, hk3 _ _ hTO⟩, ⟨_, hk3 _ _ h1, rfl, rfl⟩, ⟨_, hk3 _ _ h2, rfl, rfl⟩⟩
      · have e' : c = s1.heap.objs.size + 5 ∨ c = s1.heap.objs.size + 4 ∨ c = s1.heap.objs.size + 2 ∨ c = s1.heap.objs.size + 3 ∨ c = s1.heap.objs.size ∨ c = s1.heap.objs.size + 1 := by simpa using hcm
        have hle : s1.heap.objs.size ≤ c := by
          rcases e' with z | z | z | z | z | z
          · rw [z]; exact Nat.le_add_right _ _
          · rw [z]; exact Nat.le_add_right _ _
          · rw [z]; exact Nat.le_add_right _ _
          · rw [z]; exact Nat.le_add_right _ _
          · rw [z]; exact Nat.le_refl _
          · rw [z]; exact Nat.le_add_right _ _
        exact I1.fpOk hle (I1.hok.fresh hle)
section
variable {g : Gb} {b : Bs} {wx : WX} {cf : Nat → List D → Sto → R W} {k : Nat} {X : Cx} {c : Cc} {F F' : Hp} {ρ ρ' : Rho} {σ : L2.St} {H H' : Hp} {fr : Fr} {st st' : Sto} {Q : VK}
theorem walks_enumz {a a' : Addr} {xs ys : List D} {vs us : List V} (h1 : SqL g.K F a vs) (h2 : SqL g.K F a' us) (r1 : VRs g F ρ xs vs) (r2 : VRs g F ρ ys us) : Walks g b σ fr F ρ (JezK g.K a a') (enumF (zipF xs ys)) [] where
  go := fun i P F2 ρ2 σ' H fr' st' hi S P' A _ => by
    rw [enumF_len, zipF_len, r1.length, r2.length] at hi
    have k1 : i < vs.length := by omega
    have k2 : i < us.length := by omega
    exact ⟨vs, us, vs[i], us[i], (S.trans A.sub).seq h1, (S.trans A.sub).seq h2, List.getElem?_eq_getElem k1, List.getElem?_eq_getElem k2⟩
  stop := fun i P F2 ρ2 σ' H fr' st' hi S P' A _ => by
    rw [enumF_len, zipF_len, r1.length, r2.length] at hi
    exact ⟨vs, us, (S.trans A.sub).seq h1, (S.trans A.sub).seq h2, hi⟩
  yld := fun i P F2 ρ2 σ' H fr' st' x H' hi S P' A _ y => by
    obtain ⟨U, T, x1, y1, rfl, hU, hT, rfl, f1, f2⟩ := y
    obtain ⟨d1, e1, v1⟩ := r1.get' (f1 vs ((S.trans A.sub).seq h1))
    obtain ⟨d2, e2, v2⟩ := r2.get' (f2 us ((S.trans A.sub).seq h2))
    obtain ⟨A1, S1⟩ := A.allocF (.tup [x1, y1]) (nt_tup _) hU
    obtain ⟨A2, S2⟩ := A1.allocF (.tup [.int (i : Nat), .ref U]) (nt_tup _) hT
    refine ⟨_, _, enumF_get (zipF_get e1 e2), S1.trans S2, A2, .tup (.inl (.inl upd_same)) (.cons (.int _) (.cons ?_ .nil))⟩
    refine .tup (same_seqT S2 (.inl (.inl upd_same))) (.cons (((v1.mono S P').mono S1 (pfx _)).mono S2 (pfx _)) (.cons (((v2.mono S P').mono S1 (pfx _)).mono S2 (pfx _)) .nil))
theorem i_enumz (Y : Cy g wx cf k X c) {a b' : E} {x z tg : Expr} {y y2 : Str} {py py2 pos pos2 : Pos} (ht : isTup tg = true) (hy : y = "enumerate") (hg : glB c y = true) (hy2 : y2 = "zip") (hg2 : glB c y2 = true) (hs : noStar x = true) (hs' : noStar z = true) (hx : PE X x (T g b wx DR (ev cf a))) (hz : PE X z (T g b wx DR (ev cf b'))) :
    PI X tg (.Call (.Name y py) [.Call (.Name y2 py2) [x, z] [] pos2] [] pos) (TW g b wx (evI cf (.enumz a b')) []) := PI.by fun σ H Q q' => by
  obtain ⟨F, ρ, fr, st, A, p⟩ := q'
  obtain ⟨k1, k2, k3⟩ := Y.gl hg
  obtain ⟨l1, l2, l3⟩ := Y.gl hg2
  obtain ⟨es, kk, tp, rfl⟩ := isTup_tp ht
  subst hy hy2
  simp only [evI] at p
  refine ⟨_, pi_enumz k1 (mem_blt (by simp [bltNames]) Y) l1 (mem_blt (by simp [bltNames]) Y) (pa_cons hx (pa_cons hz pa_nil (noStar_cons hs' _)) (noStar_cons hs _)) (noStar_cons hs _) (by rw [backTo_any, noStar_cons hs']; rfl), ?_⟩
  refine ⟨F, ρ, fr, st, A, p.seq fun x s1 F1 ρ1 H1 v _ _ _ A1 rv0 p1 => ⟨F1, ρ1, fr, s1, A1, p1.seq fun y s2 F2 ρ2 H2 u _ S2 P2 A2 ru p2 => ?_⟩⟩
  have rv : VR g F2 ρ2 x.d v := VR.mono S2 P2 rv0
  have ru' : VR g F2 ρ2 y.d u := ru
  split at p2
  · rename_i xs ys e1 e2
    rw [e1] at rv
    rw [e2] at ru'
    obtain ⟨a1, vs, rfl, h1, r1⟩ := rv.lstI
    obtain ⟨a2, us, rfl, h2, r2⟩ := ru'.lstI
    refine ⟨a1, a2, vs, us, rfl, .inl (.inl (A2.sub _ _ h1)), .inl (.inl (A2.sub _ _ h2)), ?_⟩
    rw [Y.G.hK]
    exact Po.wk p2 A2 (walks_enumz (.inl (.inl h1)) (.inl (.inl h2)) r1 r2)
  · exact p2.elim
end
end MP

set_option Elab.async false
set_option linter.all false
set_option maxRecDepth 100000
set_option maxHeartbeats 8000000
namespace MP
open PySem PySem.Spec L2 PySem.W PyProof.Rows
/-! ### a lambda is made -/
abbrev lamFn (q : Str) (ps : Arguments) (body : Expr) (sc : Scope) (cl : List (Str × Addr)) (pm : Value) (cd : Addr) (ct dV : Value) : FuncData :=
  { name := "<lambda>", qualname := q, params := ps, body := .expr body, scope := sc, globals := mainGlobals, closure := cl, defaults := dV, kwdefaults := .none, doc := .none, pyModule := pm, annotations := none, code := .ref cd, closureTuple := ct, builtins := builtinsNs }
abbrev lamOb (q : Str) (ps : Arguments) (body : Expr) (sc : Scope) (cl : List (Str × Addr)) (pm : Value) (cd : Addr) (ct dV : Value) : Obj := { cls := .type "function", data := .func (lamFn q ps body sc cl pm cd ct dV) }
section
variable {M : Model} {A : Around} {E : Value → Shared → Prop} {s : Shared} {q : Str} {ps : Arguments} {body : Expr} {sc : Scope} {env : PySem.Env} {c P : Addr} {ts : Array Value} {pos : Pos} {fl : Nat} {mg : Str → Option Value} {cl : List (Str × Addr)} {dV : Value} {Q : Value → Shared → Prop}
/-- what follows the closure, by what the code object's finding tells (X) -/
theorem lam_tail {X : Addr → Heap → Prop} (hcl : closureFor sc env = pure cl) (hge : env.globals = mainGlobals) (hg : s.heap.Ns mainGlobals mg) (hgP : mainGlobals ≠ P) (hb : s.heap.BuiltinsAt mg P)
    (hf : ∀ s1 : Shared, (∀ b o, s.heap.get? b = some o → s1.heap.get? b = some o) → s.heap.objs.size ≤ s1.heap.objs.size → wpAny M A (functionCode env pos fl "<lambda>" q ps sc (.expr body)) (fun cdv s2 => ∃ cd h' tk, cdv = .ref cd ∧ s2 = { s1 with heap := h', toks := tk } ∧ Heap.ExtBut P s.heap h' ∧ s.heap.objs.size ≤ h'.objs.size ∧ X cd h') E s1)
    (h : ∀ cd ct h' tk, Heap.ExtBut P s.heap h' → s.heap.objs.size ≤ h'.objs.size → X cd h' → Q (.ref h'.objs.size) { s with heap := h'.push (lamOb q ps body sc cl ((mg "__name__").getD .none) cd ct dV), toks := tk }) :
    wpAny M A (makeTail "<lambda>" q ps (.expr body) sc env dV .none none pos fl) Q E s := by
  obtain ⟨bm, ob, b1, b2, _, b3, b4, b5, b6, b7⟩ := hb
  unfold makeTail
  rw [hcl, hge]
  refine wpAny_bind (wpAny_pure ?_)
  have last : ∀ (ct cdv : Value) (h0 : Heap) (s2 : Shared), (∃ cd h' tk, cdv = .ref cd ∧ s2 = { s with heap := h', toks := tk } ∧ Heap.ExtBut P s.heap h' ∧ s.heap.objs.size ≤ h'.objs.size ∧ X cd h') → wpAny M A (do
          let bl ← builtinsFor mainGlobals env.builtins
          let nm ← nsGet mainGlobals "__name__"
          newObj (.type "function") (.func { name := "<lambda>", qualname := q, params := ps, body := .expr body, scope := sc, globals := mainGlobals, closure := cl, defaults := dV, kwdefaults := .none, doc := .none, pyModule := nm.getD .none, annotations := none, code := cdv, closureTuple := ct, builtins := bl })) Q E s2 := fun ct cdv h0 s2 hz => by
    obtain ⟨cd, h', tk, rfl, rfl, hx, hs, hX⟩ := hz
    have hg2 := hg.extBut hx hgP
    refine wpAny_bind (wpAny_builtinsFor hg2 b1 b2 (hx _ _ b3 b4) b5 b6 b7 ?_)
    exact wpAny_bind (wpAny_nsGet hg2 (wpAny_newObj_type (h cd ct h' tk hx hs hX) (by size_fits)))
  cases cl with
  | nil =>
    simp only [List.isEmpty_nil, if_true]
    refine wpAny_bind (wpAny_pure (wpAny_bind (wpAny_mono (hf s (fun _ _ e => e) (Nat.le_refl _)) (fun cdv s2 hz => ?_) fun _ _ z => z)))
    have z := last .none cdv s.heap s2 hz
    simpa [pure_bind] using z
  | cons x r =>
    simp only [List.isEmpty_cons, Bool.false_eq_true, if_false]
    refine wpAny_bind (wpAny_newTextTuple (wpAny_bind (wpAny_mono (hf _ (fun b o e => Heap.get?_push_of_some _ e) (by show s.heap.objs.size ≤ (s.heap.push _).objs.size; rw [Heap.size_push]; exact Nat.le_succ _)) (fun cdv s2 hz => ?_) fun _ _ z => z)))
    have z := last (.ref s.heap.objs.size) cdv s.heap s2 hz
    simpa [pure_bind] using z
/-- the code object is new -/
theorem code_miss (hcode : env.code = .ref c) (C : CodeHd s.heap c P) (hP : s.heap.get? P = some (tabObj ts)) (ht : TriplesOk ts.toList) (hn : codeAmong pos ts.toList = none) (s1 : Shared) (k : ∀ b o, s.heap.get? b = some o → s1.heap.get? b = some o) (hsz : s.heap.objs.size ≤ s1.heap.objs.size) :
    wpAny M A (functionCode env pos fl "<lambda>" q ps sc (.expr body)) (fun cdv s2 => ∃ cd h' tk, cdv = .ref cd ∧ s2 = { s1 with heap := h', toks := tk } ∧ Heap.ExtBut P s.heap h' ∧ s.heap.objs.size ≤ h'.objs.size ∧
      (s.heap.objs.size ≤ cd ∧ cd < h'.objs.size ∧ h'.CodeRec (.ref cd) q ∧ h'.get? P = some (tabObj (ts ++ #[rawInt pos.line, rawInt pos.col, .ref cd])))) E s1 := by
  refine wpAny_functionCodeX hcode ((C.keeps k).code (k _ _ hP) ht) ((C.keeps k).tab (k _ _ hP)) hn fun cd h' tk hx hge hlt _ hrec htb _ => ?_
  exact ⟨cd, h', tk, rfl, rfl, fun b o hb' e => hx b o hb' (k b o e), Nat.le_trans hsz (Nat.le_trans hge (Nat.le_of_lt hlt)), Nat.le_trans hsz hge, hlt, hrec, htb.2⟩
/-- the code object stands in the table -/
theorem code_hit {cd : Addr} (hcode : env.code = .ref c) (C : CodeHd s.heap c P) (hP : s.heap.get? P = some (tabObj ts)) (ht : TriplesOk ts.toList) (hn : codeAmong pos ts.toList = some (.ref cd)) (s1 : Shared) (k : ∀ b o, s.heap.get? b = some o → s1.heap.get? b = some o) (hsz : s.heap.objs.size ≤ s1.heap.objs.size) :
    wpAny M A (functionCode env pos fl "<lambda>" q ps sc (.expr body)) (fun cdv s2 => ∃ cd' h' tk, cdv = .ref cd' ∧ s2 = { s1 with heap := h', toks := tk } ∧ Heap.ExtBut P s.heap h' ∧ s.heap.objs.size ≤ h'.objs.size ∧ (cd' = cd ∧ ∀ b o, s.heap.get? b = some o → h'.get? b = some o)) E s1 :=
  wpAny_functionCode_hit hcode ((C.keeps k).code (k _ _ hP) ht) hn ⟨cd, s1.heap, s1.toks, rfl, rfl, fun b o _ e => k b o e, hsz, rfl, k⟩
end
/-- all but the tables stay, tables stay tables -/
structure LamExt (H H1 : Hp) : Prop where
  keep : ∀ a o, H a = some o → notT o → H1 a = some o
  tab : ∀ a ps, H a = some (.tbl ps) → ∃ ps', H1 a = some (.tbl ps')
theorem LamExt.refl (H : Hp) : LamExt H H := ⟨fun _ _ h _ => h, fun _ ps h => ⟨ps, h⟩⟩
section
variable {g : Gb} {b : Bs} {F : Hp} {ρ : Rho} {σ : L2.St} {H H1 : Hp} {fr : Fr} {st : Sto}
theorem Ab.lam (A : Ab g b F ρ σ H fr st) (e : LamExt H H1) (t : LamX.Tabs g.T H1) : Ab g b F ρ σ H1 fr st where
  sub := fun a o h => e.keep a o (A.sub a o h) (A.tb.ntb a o h)
  ext := A.ext
  new := A.new
  rho := A.rho
  keep := fun a o h m nt => e.keep a o (A.keep a o h m nt) nt
  fsh := A.fsh
  sto := ⟨A.sto.len, fun n o p h1 h2 => by
    have h := A.sto.at_ n o p h1 h2
    cases o with
    | lst xs => obtain ⟨vs, a1, a2⟩ := h; exact ⟨vs, e.keep _ _ a1 (nt_lst _), a2⟩
    | dct kvs => obtain ⟨vs, a1, a2⟩ := h; exact ⟨vs, e.keep _ _ a1 (nt_dK _), a2⟩
    | gone => exact h, A.sto.nd⟩
  len := A.len
  dat := A.dat
  mu := fun i xs h => by
    obtain ⟨a, vs, q1, q2, q3⟩ := A.mu i xs h
    exact ⟨a, vs, q1, e.keep _ _ q2 (nt_lst _), q3⟩
  apart := A.apart
  pin := fun q hq => by
    obtain ⟨q1, q2⟩ := A.pin q hq
    exact ⟨e.keep _ _ q1 (A.tb.pnt q hq), q2⟩
  tb := ⟨t, A.tb.ntb, fun a ps h => by
    obtain ⟨ps', h1⟩ := A.tb.kpt a ps h
    exact e.tab a ps' h1, A.tb.pnt⟩
end
theorem among_new {pos : Pos} {c : Value} (l : List Value) (h : TriplesOk l) (hn : codeAmong pos l = none) : codeAmong pos (l ++ [rawInt pos.line, rawInt pos.col, c]) = some c := by
  fun_induction TriplesOk l with
  | case1 => simp [rawInt, codeAmong]
  | case2 a t b u x rest ih =>
    simp only [List.cons_append, codeAmong] at hn ⊢
    split at hn
    · cases hn
    · rename_i q
      rw [if_neg q]
      exact ih h hn
  | case3 l h1 h2 => exact h.elim
theorem among_old {pos : Pos} {c : Value} (l m : List Value) (h : TriplesOk l) (hn : codeAmong pos l = some c) : codeAmong pos (l ++ m) = some c := by
  fun_induction TriplesOk l with
  | case1 => simp [codeAmong] at hn
  | case2 a t b u x rest ih =>
    simp only [List.cons_append, codeAmong] at hn ⊢
    split at hn
    · rename_i q
      rw [if_pos q]
      exact hn
    · rename_i q
      rw [if_neg q]
      exact ih h hn
  | case3 l h1 h2 => exact h.elim
/-- the defaults of a lambda: none, or a tuple of a number that nobody tracks -/
def DflL (ps : Arguments) (dV : Value) (h : Heap) (H : Hp) (fs : List Addr) : Prop := (lamA ps = [] ∧ dV = .none) ∨ ∃ td t, lamA ps = [("_law_x" : Str)] ∧ dV = .ref td ∧ h.get? td = some { cls := .type "tuple", data := .seq [Value.int 0 t].toArray } ∧ H td = none ∧ td ∉ fs
section
variable {X : Cx} {pins : List (Addr × Obj)} {σ : L2.St} {H : Hp} {s : Shared} {ps : Arguments} {body : Expr} {scope : Scope} {pos : Pos} {T : List (Addr × Str)} {c P : Addr} {Q E : Value → Shared → Prop}
theorem lam_make3 {dV : Value} (I : Inv X pins σ H s) (TB : LamX.TabB X.base X.mg c P) (hcode : X.env.code = .ref c) (hm : (P, X.env.qual ++ "<lambda>") ∈ T) (hu : ∀ p ∈ T, p.1 = P → p.2 = X.env.qual ++ "<lambda>") (hT : LamX.Tabs T H)
    (hfree : ∀ y ∈ scope.names, y.2 = .free → ∃ c, X.env.cells.lookup y.1 = some c) (hd : ∀ h' H', (∀ b o, b ≠ P → s.heap.get? b = some o → h'.get? b = some o) → (∀ b o, s.heap.get? b = some o → H b = none → H' b = none) → DflL ps dV h' H' (frs X.stack))
    (h : ∀ f cd pm ct H1 s', Inv X pins σ H1 s' → LamExt H H1 → LamX.Tabs T H1 → s'.heap.get? f = some (lamOb (X.env.qual ++ "<lambda>") ps body scope (cloFrom X.env.cells scope.names []) pm cd ct dV) → H1 f = none → f ∉ frs X.stack →
      (∃ us, H1 P = some (.tbl us) ∧ TriplesOk us.toList ∧ codeAmong pos us.toList = some (.ref cd)) → DflL ps dV s'.heap H1 (frs X.stack) → Q (.ref f) s') :
    wpAny (model X.prog X.w) X.A (makeTail "<lambda>" (X.env.qual ++ "<lambda>") ps (.expr body) scope X.env dV .none none pos pos.line) Q E s := by
  obtain ⟨ts, hP, ht, ha⟩ := hT _ hm
  have bP : s.heap.BuiltinsAt X.mg P := TB.bm.keeps I.bk
  have hP' : s.heap.get? P = some (tabObj ts) := I.hok P _ hP
  have nofr : ∀ f, s.heap.objs.size ≤ f → f ∉ frs X.stack := fun f hf z => by
    rcases List.mem_cons.mp (I.stkSub _ z) with e | e
    · have h1 := I.lt
      rw [← e] at h1
      exact Nat.lt_irrefl _ (Nat.lt_of_lt_of_le h1 hf)
    · exact I.nofs hf e
  cases hc : codeAmong pos ts.toList with
  | none =>
    refine lam_tail (mg := X.mg) (P := P) (closure_ok hfree) I.ok.glob (I.mod.glob.keeps I.bk) TB.gP bP (fun s1 k hsz => code_miss hcode (TB.code.keeps I.bk) hP' ht hc s1 k hsz) fun cd ct h' tk hx hsz hX => ?_
    obtain ⟨hge, hlt, hrec, htb⟩ := hX
    obtain ⟨c2, oc, vs, t, e2, hoc, hdc, hv⟩ := hrec
    cases e2
    have nC : H cd = none := I.hok.fresh hge
    have I1 := LamX.inv_table (t' := tk) (more := #[rawInt pos.line, rawInt pos.col, .ref cd]) (h' := h'.push (lamOb (X.env.qual ++ "<lambda>") ps body scope (cloFrom X.env.cells scope.names []) ((X.mg "__name__").getD .none) cd ct dV)) I hP
      (fun b o hb e => Heap.get?_push_of_some _ (hx b o hb e)) (Heap.get?_push_of_some _ htb) hge ⟨oc, vs, t, Heap.get?_push_of_some _ hoc, hdc, hv⟩
    have nPc : P ≠ cd := ne_of_none hP nC
    have kp : ∀ b o, H b = some o → notT o → upd (upd H P (.tbl (ts ++ #[rawInt pos.line, rawInt pos.col, .ref cd]))) cd (LamX.CodeO cd (X.env.qual ++ "<lambda>")) b = some o := fun b o e n => by
      rw [upd_ne (ne_of_none e nC), upd_ne (fun z => n ts (Option.some.inj (e.symm.trans (by rw [z]; exact hP))))]
      exact e
    have eL : (ts ++ #[rawInt pos.line, rawInt pos.col, .ref cd]).toList = ts.toList ++ [rawInt pos.line, rawInt pos.col, .ref cd] := by simp
    have fr' : ∀ b o, s.heap.get? b = some o → H b = none → upd (upd H P (.tbl (ts ++ #[rawInt pos.line, rawInt pos.col, .ref cd]))) cd (LamX.CodeO cd (X.env.qual ++ "<lambda>")) b = none := fun b o e n => by
      rw [upd_ne (fun z => by rw [z] at e; exact Nat.lt_irrefl _ (Nat.lt_of_lt_of_le (Heap.lt_size e) hge)), upd_ne (fun z => by rw [z, hP] at n; cases n)]
      exact n
    refine h h'.objs.size cd ((X.mg "__name__").getD .none) ct _ _ I1 ⟨kp, fun b qs e => ?_⟩ (fun p hp => ?_) (Heap.get?_push_size _ rfl) ?_ (nofr _ hsz) ⟨_, by rw [upd_ne nPc, upd_same], by rw [eL]; exact PySem.TriplesOk_snoc _ _ _ _ ht, by rw [eL]; exact among_new _ ht hc⟩ (hd _ _ (fun b o hb e => Heap.get?_push_of_some _ (hx b o hb e)) fr')
    · by_cases hb : b = P
      · rw [hb]
        exact ⟨_, by rw [upd_ne nPc, upd_same]⟩
      · exact ⟨qs, by rw [upd_ne (ne_of_none e nC), upd_ne hb]; exact e⟩
    · by_cases hb : p.1 = P
      · rw [hu p hp hb, hb]
        refine ⟨_, by rw [upd_ne nPc, upd_same], by rw [eL]; exact PySem.TriplesOk_snoc _ _ _ _ ht, fun p' cv hcv => ?_⟩
        rw [eL] at hcv
        rcases LamX.among_app _ ht hcv with z | z
        · obtain ⟨c0, e1, e2⟩ := ha p' cv z
          exact ⟨c0, e1, kp _ _ e2 (fun ps z => LamX.codeO_ne ps z)⟩
        · exact ⟨cd, z, upd_same⟩
      · obtain ⟨ps', a1, a2, a3⟩ := hT p hp
        refine ⟨ps', by rw [upd_ne (ne_of_none a1 nC), upd_ne hb]; exact a1, a2, fun p' cv hcv => ?_⟩
        obtain ⟨c0, e1, e2⟩ := a3 p' cv hcv
        exact ⟨c0, e1, kp _ _ e2 (fun ps z => LamX.codeO_ne ps z)⟩
    · have n1 : h'.objs.size ≠ cd := Nat.ne_of_gt hlt
      have n2 : h'.objs.size ≠ P := Nat.ne_of_gt (Nat.lt_of_lt_of_le (Heap.lt_size hP') hsz)
      rw [upd_ne n1, upd_ne n2]
      exact I.hok.fresh hsz
  | some cv =>
    obtain ⟨cd, e, hco⟩ := ha pos cv hc
    subst e
    refine lam_tail (mg := X.mg) (P := P) (closure_ok hfree) I.ok.glob (I.mod.glob.keeps I.bk) TB.gP bP (fun s1 k hsz => code_hit hcode (TB.code.keeps I.bk) hP' ht hc s1 k hsz) fun cd' ct h' tk hx hsz hX => ?_
    obtain ⟨rfl, kp⟩ := hX
    have kp2 : ∀ b o, s.heap.get? b = some o → (h'.push (lamOb (X.env.qual ++ "<lambda>") ps body scope (cloFrom X.env.cells scope.names []) ((X.mg "__name__").getD .none) cd' ct dV)).get? b = some o := fun b o e => Heap.get?_push_of_some _ (kp b o e)
    exact h h'.objs.size cd' ((X.mg "__name__").getD .none) ct H _ (I.kept kp2) (LamExt.refl H) hT (Heap.get?_push_size _ rfl) (I.hok.fresh hsz) (nofr _ hsz) ⟨_, hP, ht, hc⟩ (hd _ _ (fun b o _ e => kp2 b o e) fun _ _ _ n => n)
/-- the lambda itself -/
theorem lam_eval (I : Inv X pins σ H s) (TB : LamX.TabB X.base X.mg c P) (hcode : X.env.code = .ref c) (hm : (P, X.env.qual ++ "<lambda>") ∈ T) (hu : ∀ p ∈ T, p.1 = P → p.2 = X.env.qual ++ "<lambda>") (hT : LamX.Tabs T H)
    (hfree : ∀ y ∈ scope.names, y.2 = .free → ∃ c, X.env.cells.lookup y.1 = some c) (hp : lamP ps = true)
    (h : ∀ f cd pm ct dV H1 s', Inv X pins σ H1 s' → LamExt H H1 → LamX.Tabs T H1 → s'.heap.get? f = some (lamOb (X.env.qual ++ "<lambda>") ps body scope (cloFrom X.env.cells scope.names []) pm cd ct dV) → H1 f = none → f ∉ frs X.stack →
      (∃ us, H1 P = some (.tbl us) ∧ TriplesOk us.toList ∧ codeAmong pos us.toList = some (.ref cd)) → DflL ps dV s'.heap H1 (frs X.stack) → Q (.ref f) s') :
    wpAny (model X.prog X.w) X.A (eval (.Lambda ps body scope pos) X.env) Q E s := by
  rw [arm_eval_Lambda]
  unfold lamP at hp
  split at hp
  · show wpAny _ _ (do let dv ← evalAll []; let kdv ← holding dv (evalAllOpt []); makeFunction "<lambda>" (X.env.qual ++ "<lambda>") _ (.expr body) scope X.env dv kdv [] pos pos.line) _ _ s
    refine wpAny_bind (wpAny_pure (wpAny_bind (wpAny_holding (wpAny_pure ?_))))
    rw [makeFunction_eq]
    simp only [List.zip_nil_right, List.filterMap_nil, List.isEmpty_nil, if_true, pure_bind]
    exact lam_make3 I TB hcode hm hu hT hfree (fun h' H' _ _ => .inl ⟨rfl, rfl⟩) fun f cd pm ct H1 s' => h f cd pm ct _ H1 s'
  · rename_i a i p1 p2
    simp only [Bool.and_eq_true, decide_eq_true_eq] at hp
    obtain ⟨ha, hi⟩ := hp
    subst hi
    show wpAny _ _ (do let dv ← evalAll [eval (.Constant (.int 0) p1 p2) X.env]; let kdv ← holding dv (evalAllOpt []); makeFunction "<lambda>" (X.env.qual ++ "<lambda>") _ (.expr body) scope X.env dv kdv [] pos pos.line) _ _ s
    refine wpAny_bind (wpAny_evalAll_cons (thn ((pe_int (X := X) (i := 0) (j := p1) (pos := p2)).run pins s σ H (fun v H' => v = .int 0 ∧ H' = H) I ⟨rfl, rfl⟩) fun u s1 ⟨v, H', I1, ru, e1, e2⟩ => ?_))
    subst e1; subst e2
    obtain ⟨t, rfl⟩ := (show ∃ t, u = Value.int 0 t from ru)
    refine wpAny_evalAll_nil ?_
    refine wpAny_bind (wpAny_holding (wpAny_pure ?_))
    rw [makeFunction_eq]
    simp only [List.zip_nil_right, List.filterMap_nil, List.isEmpty_nil, List.isEmpty_cons, Bool.false_eq_true, if_false, if_true, pure_bind]
    refine wpAny_bind (wpAny_newTextTuple ?_)
    have kp : ∀ b o, s1.heap.get? b = some o → (s1.heap.push { cls := .type "tuple", data := .seq [Value.int 0 t].toArray }).get? b = some o := fun b o e => Heap.get?_push_of_some _ e
    have I2 : Inv X pins σ H' { s1 with heap := s1.heap.push { cls := .type "tuple", data := .seq [Value.int 0 t].toArray } } := I1.kept (t' := s1.toks) kp
    have nfs : s1.heap.objs.size ∉ frs X.stack := fun z => by
      rcases List.mem_cons.mp (I1.stkSub _ z) with e | e
      · have h1 := I1.lt
        rw [← e] at h1
        exact Nat.lt_irrefl _ h1
      · exact I1.nofs (Nat.le_refl _) e
    have nP : s1.heap.objs.size ≠ P := fun z => by
      obtain ⟨ts, hP, _⟩ := hT _ hm
      have h1 : s1.heap.get? P = some (tabObj ts) := I1.hok P _ hP
      rw [← z] at h1
      exact Nat.lt_irrefl _ (Heap.lt_size h1)
    refine lam_make3 I2 TB hcode hm hu hT hfree (fun h' H2 k2 n2 => .inr ⟨s1.heap.objs.size, t, by simp [lamA, ha], rfl, k2 _ _ nP (Heap.get?_push_size _ rfl), n2 _ _ (Heap.get?_push_size _ rfl) (I1.hok.fresh (Nat.le_refl _)), nfs⟩) fun f cd pm ct H1 s' => h f cd pm ct _ H1 s'
  · cases hp
end
end MP

set_option Elab.async false
set_option linter.all false
set_option maxRecDepth 100000
set_option maxHeartbeats 8000000
namespace MP
open PySem PySem.Spec L2 PyProof.Rows
/-- a lambda's scope: captured names, globals, its own parameter *)-/
structure LamT (N : List Str) (ps : Arguments) (sc scope : Scope) : Prop where
  kind : scope.kind = .function
  co : scope.isCoroutine = false
  gen : scope.isGenerator = false
  noc : ∀ y ∈ scope.names, y.2 ≠ .cell
  own : ∀ y ∈ scope.names, y.2 = .local → y.1 ∉ N
  par : ∀ x ∈ lamA ps, scope.names.lookup x = some .local
  free : ∀ y ∈ scope.names, y.2 = .free → sc.names.lookup y.1 = some .cell ∨ sc.names.lookup y.1 = some .free
theorem lamB_ok {c : Cc} {ps : Arguments} {scope : Scope} (h : lamB c ps scope = true) : lamP ps = true ∧ LamT c.N ps c.sc scope := by
  unfold lamB at h
  simp only [Bool.and_eq_true, Bool.or_eq_true, Bool.not_eq_true', decide_eq_true_eq, decide_eq_false_iff_not, List.all_eq_true, List.contains_iff_mem] at h
  obtain ⟨⟨⟨⟨⟨h0, h1⟩, h2⟩, h3⟩, h4⟩, h5⟩ := h
  refine ⟨h0, h1, h2, h3, fun y hy => (h4 y hy).1.1, fun y hy e => ?_, h5, fun y hy e => ?_⟩
  · rcases (h4 y hy).1.2 with z | z
    · exact absurd e z
    · intro m
      have := z.2
      simp [m] at this
  · rcases (h4 y hy).2 with (z | z) | z
    · exact absurd e z
    · exact .inl z
    · exact .inr z
section
variable {X : Cx} {pins : List (Addr × Obj)} {σ : L2.St} {H HZ : Hp} {s s1 : Shared} {ps : Arguments}
theorem LamT.has {scope : Scope} (L : LamT X.N ps X.env.scope scope) (ok : X.Ok) : ∀ y ∈ scope.names, y.2 = .free → ∃ c, X.env.cells.lookup y.1 = some c := fun y hy e => by
  rcases L.free y hy e with k | k
  · exact ok.has _ (.inl k)
  · exact ok.has _ (.inr k)
theorem lam_start3 {A : Around} {outer : List PySem.Env} {E : XK} {scope : Scope} {f cd : Addr} {h1 : Heap} {tk : Nat} {bs : List (Str × Value)} (I : Inv X pins σ H s) (L : LamT X.N ps X.env.scope scope) (e0 : Env0 X.prog X.w X.K X.mg X.base A outer s1 HZ) (hd : A.handled = none)
    (un : Un (frs X.stack) [] H HZ s.heap s1.heap) (hns : h1.Ns s1.heap.objs.size fun y => bs.reverse.lookup y) (kp : ∀ b o, s1.heap.get? b = some o → h1.get? b = some o) :
    Inv (LamX.lamCx X A outer s1 HZ E scope f cd) [] σ HZ { s1 with heap := h1, toks := tk } := by
  have hfree := L.has I.ok
  have up : ∀ {y c}, (cloFrom X.env.cells scope.names []).lookup y = some c → X.env.cells.lookup y = some c := fun {y c} e => by
    rcases cloFrom_mem (PySem.mem_of_lookup e) with m | ⟨m1, m2⟩
    · cases m
    · obtain ⟨c1, hc⟩ := hfree _ m1 rfl
      have hc : X.env.cells.lookup y = some c1 := hc
      rw [hc] at m2
      rw [m2]
      exact hc
  have dn : ∀ {y}, scope.names.lookup y = some .free → ∃ c, (cloFrom X.env.cells scope.names []).lookup y = some c := fun {y} hl =>
    mem_lookup (cloFrom_has (cells := X.env.cells) (acc := []) (PySem.mem_of_lookup hl))
  have cl : ∀ {c : Addr} {v : Option Value}, H c = none → s.heap.IsCell c v → h1.IsCell c v := fun {c v} n ⟨o, ho, hc⟩ => by
    obtain ⟨sl, q⟩ := un.any ho n (by simp)
    exact ⟨_, kp _ _ q, hc⟩
  have noA : ∀ b : Addr, b ∉ (LamX.lamCx X A outer s1 HZ E scope f cd).ex := fun b z => absurd (show b ∈ ([] : List Addr) from z) (by simp)
  have okk : (LamX.lamCx X A outer s1 HZ E scope f cd).Ok := {
    mod := e0.mod
    kind := L.kind
    glob := rfl
    blt := rfl
    above := Nat.le_refl _
    inj := fun y z c e1 e2 => I.ok.inj y z c (up e1) (up e2)
    has := fun y hy => by
      have hy : scope.names.lookup y = some .cell ∨ scope.names.lookup y = some .free := hy
      rcases hy with hy | hy
      · exact absurd rfl (L.noc _ (PySem.mem_of_lookup hy))
      · exact dn hy
    cab := fun y c z _ => by
      have z : false = true := z
      cases z
    hd := fun _ => hd
    frames := Around.frames_deeper e0.frames
    stk := .inr ⟨rfl, rfl⟩
    exf := fun b z => absurd z (noA b)
    bs := e0.bs
    bsz := e0.bsz
    noex := fun b _ _ => noA b
    exfs := fun b z => absurd z (noA b)
    funs := e0.funs
    frf := e0.frf }
  exact {
    ok := okk
    os := rfl
    bare := e0.bare
    base := Un.kept kp
    loc := ⟨_, hns, fun i y v e1 e2 e3 => by
      have e3 : Vis scope y := e3
      have mem : y ∈ X.N := List.mem_of_getElem? e1
      rcases e3 with k | k | k
      · exact absurd mem (L.own _ (PySem.mem_of_lookup k) rfl)
      · exact absurd rfl (L.noc _ (PySem.mem_of_lookup k))
      · obtain ⟨m, hn, hl⟩ := I.loc
        have hv : Vis X.env.scope y := (L.free _ (PySem.mem_of_lookup k) rfl).elim (fun k => .inr (.inl k)) (fun k => .inr (.inr k))
        obtain ⟨w', r, q⟩ := hl i y v e1 e2 hv
        obtain ⟨c2, h2⟩ := dn k
        refine ⟨w', r, .inr ⟨.inr k, c2, h2, ?_⟩⟩
        have c1 := up h2
        rcases q with ⟨k', _⟩ | ⟨_, c3, e', z⟩
        · have k' : X.env.scope.names.lookup y = some .local := k'
          rcases L.free _ (PySem.mem_of_lookup k) rfl with k2 | k2 <;> rw [show X.env.scope.names.lookup y = _ from k2] at k' <;> cases k'
        · rw [c1] at e'
          cases e'
          exact cl (I.freeC y _ c1) z⟩
    cell := fun y c e => by
      obtain ⟨w', z⟩ := I.cell y c (up e)
      exact ⟨w', cl (I.freeC y c (up e)) z⟩
    free := e0.hok.fresh (Nat.le_refl _)
    freeC := fun y c e => by
      obtain ⟨v, o, ho, _⟩ := I.cell y c (up e)
      exact un.free c o ho (I.freeC y c (up e)) (by simp)
    pin := fun q hq => absurd (show q ∈ ([] : List (Addr × Obj)) ++ [] from hq) (by simp)
    hok := e0.hok.kept kp
    len := I.len }
/-- what a lambda's call binds -/
theorem lam_binds {q : Str} {body : Expr} {scope : Scope} {cl : List (Str × Addr)} {pm ct dV : Value} {cd : Addr} {fs : List Addr} {h : Heap} (hp : lamP ps = true) (hd : DflL ps dV h H fs) (un : Un fs [] H HZ h s1.heap) :
    ∃ bs, BindsTo s1 (lamFn q ps body scope cl pm cd ct dV) ⟨[], []⟩ bs ∧ ∀ y ∈ bs, y.1 ∈ lamA ps := by
  unfold lamP at hp
  split at hp
  · refine ⟨[], BindsTo.of_eq ?_, fun y hy => by cases hy⟩
    rcases hd with ⟨_, e⟩ | ⟨td, t, e, _⟩
    · subst e; rfl
    · cases e
  · rename_i a i p1 p2
    simp only [Bool.and_eq_true, decide_eq_true_eq] at hp
    obtain ⟨ha, _⟩ := hp
    rcases hd with ⟨e, _⟩ | ⟨td, t, e, rfl, h1, h2, h3⟩
    · cases e
    · obtain ⟨x, an, pp⟩ := a
      dsimp only at ha
      subst ha
      refine ⟨[(("_law_x" : Str), .int 0 t)], fun M A E Q hq => ?_, fun y hy => ?_⟩
      · have e1 : ∃ k, bindArgs (lamFn q ⟨[], [⟨"_law_x", an, pp⟩], none, [], [], none, [.Constant (.int i) p1 p2]⟩ body scope cl pm cd ct (.ref td)) ⟨[], []⟩ = seqItems? (.ref td) >>= k ∧ k (some [Value.int 0 t].toArray) = pure [(("_law_x" : Str), .int 0 t)] := ⟨_, rfl, rfl⟩
        obtain ⟨k, e1, e2⟩ := e1
        rw [e1]
        refine wpAny_bind (wpAny_seqItems (un.keep td _ h1 h2 h3 (by simp)) rfl ?_)
        rw [e2]
        exact wpAny_pure hq
      · rw [List.mem_singleton.mp hy]
        simp [lamA]
  · cases hp
end
section
variable {g : Gb} {b : Bs} {wx : WX} {cf : Nat → List D → Sto → R W} {k : Nat} {X : Cx} {c : Cc} {F F' : Hp} {ρ ρ' : Rho} {σ : L2.St} {H H' : Hp} {fr : Fr} {st st' : Sto} {Q : VK}
/-- the context of the lambda's body -/
theorem Cy.lam (Y : Cy g wx cf k X c) {ps : Arguments} {scope : Scope} (L : LamT X.N ps X.env.scope scope) {A : Around} {outer : List PySem.Env} {s : Shared} {H : Hp} {E : XK} {f cd : Addr} (hr : Room (3 * k) (A.deeper (LamX.lamEnv X scope s.heap.objs.size f cd))) (hg : A.guards = some []) :
    Cy g (fun cls d _ H => E cls d H) cf k (LamX.lamCx X A outer s H E scope f cd) (innerL c scope) where
  G := ⟨Y.G.hP, Y.G.hw, Y.G.hK, Y.G.hmg, Y.G.hbase, rfl, Y.G.nd, hr, hg, takes_of rfl rfl rfl rfl, passes_of rfl, Y.G.sm⟩
  M := Y.M
  hN := Y.hN
  hsc := rfl
  kind := L.kind
  hst := fun x h => by cases h
  hlm := fun h => by cases h
  htr := fun h => by cases h
theorem Po.imp {r : R W} {Q Q' : VK} {E E' : XK} (h : Po g b (fun cls d _ H => E cls d H) WR r F ρ σ fr Q) (h1 : ∀ c d H, E c d H → E' c d H) (h2 : ∀ v H, Q v H → Q' v H) : Po g b (fun cls d _ H => E' cls d H) WR r F ρ σ fr Q' := by
  cases r with
  | ok a st => exact fun F2 ρ2 H2 v s p A rl => h2 _ _ (h F2 ρ2 H2 v s p A rl)
  | exc c p st => exact fun F2 ρ2 H2 cls d s p A x => h1 _ _ _ (h F2 ρ2 H2 cls d s p A x)
  | bad => exact h
/-- the lambda's call, from the def that got it -/
theorem lam_act (Y : Cy g wx cf k X c) {pins : List (Addr × Obj)} {s : Shared} {ps : Arguments} {body : Expr} {scope : Scope} {pos : Pos} {f cd P : Addr} {pm ct dV : Value} {e : E} {us : Array Value} (I : Inv X pins σ H s) (hp : lamP ps = true) (L : LamT X.N ps X.env.scope scope)
    (hf : s.heap.get? f = some (lamOb (X.env.qual ++ "<lambda>") ps body scope (cloFrom X.env.cells scope.names []) pm cd ct dV)) (hfn : H f = none) (hfr : f ∉ frs X.stack) (hu : H P = some (.tbl us)) (ht : TriplesOk us.toList) (hc : codeAmong pos us.toList = some (.ref cd)) (hm : (P, X.env.qual ++ "<lambda>") ∈ g.T)
    (hd : DflL ps dV s.heap H (frs X.stack)) (hb : ∀ {wx : WX} {X' : Cx} (b : Bs) (Y' : Cy g wx cf k X' (innerL c scope)), PE X' body (T g b wx WR (ev cf e))) :
    Act g (3 * k) X.A X.stack s H f (fun E HZ Q => T g b (fun cls d _ H => E cls d H) WR (ev cf e) σ HZ Q) := by
  have e1 := Y.G.hP; have e2 := Y.G.hw; have e3 := Y.G.hK; have e4 := Y.G.hmg; have e5 := Y.G.hbase
  refine ⟨⟨_, hf, fun h e => ⟨_, _, _, _, e⟩⟩, fun E E' HZ Q Q' h1 h2 ⟨F, ρ, fr, st, A, p⟩ => ⟨F, ρ, fr, st, A, Po.imp p h1 h2⟩, hfn, hfr, fun env s1 HZ Q E hgu hr e0 un tl => ?_⟩
  rw [← e1, ← e2, ← e3, ← e4, ← e5] at e0
  rw [← e1, ← e2]
  have of1 := un.keep f _ hf hfn hfr (by simp)
  obtain ⟨F0, ρ0, fr0, st0, A0, _⟩ := id tl
  obtain ⟨more, hz⟩ := un.tbls P us hu
  obtain ⟨us2, z1, z2, z3⟩ := A0.tb.tabs _ hm
  rw [hz] at z1
  cases z1
  obtain ⟨c0, y1, y2⟩ := z3 pos (.ref cd) (by
    rw [Array.toList_append]
    exact among_old _ _ ht hc)
  cases y1
  obtain ⟨⟨oc, vs, t, hoc, hdc, hvc⟩, _, _⟩ := e0.hok cd _ y2
  obtain ⟨bs, hbs, hba⟩ := lam_binds (s1 := s1) (HZ := HZ) (q := X.env.qual ++ "<lambda>") (body := body) (scope := scope) (cl := cloFrom X.env.cells scope.names []) (pm := pm) (ct := ct) (cd := cd) hp hd un
  refine PySem.W.kla_callFunE hr.depth of1 rfl L.co L.gen rfl ⟨cd, oc, vs, t, rfl, hoc, hdc, hvc⟩ ?_
  refine hbs _ _ _ _ ?_
  have lim : s1.heap.NoLimit := e0.mod.nolimit.keeps fun b o e => (e0.bs b o e).1
  refine wpAny_newFunctionEnv (fun y hy => L.noc y hy) (fun y hy => L.par _ (hba y hy)) (fun h1 hns hsb => ⟨lim.fresh _ hsb, ?_⟩) L.kind
  show codeAny _ _ (.expr body (LamX.lamEnv X scope s1.heap.objs.size f cd)) _ _
  have kp : ∀ b o, s1.heap.get? b = some o → h1.get? b = some o := fun b o e => hsb.extBut b o (Nat.ne_of_lt (Heap.lt_size e)) (Heap.get?_push_of_some _ e)
  have J := lam_start3 (E := E) (f := f) (cd := cd) (tk := s1.toks + bs.length) I L e0 hr.hd un hns kp
  refine PySem.W.kla_codeExpr (wpAny_mono ((hb b (Y.lam L (hr.deeper _) hgu)).run [] _ _ HZ Q J tl) (fun v s' hq => ?_) fun e s' hq => hq)
  obtain ⟨w', H', J', rv, q⟩ := hq
  exact ⟨w', H', J'.os, J'.bare, J'.base, J'.hok, rv, q⟩
theorem e_lamc (Y : Cy g wx cf k X c) {f : Nat} {x : Str} {e : E} {ps : Arguments} {body : Expr} {scope : Scope} {px lpos pos : Pos} (hg : glB c x = true) (hf : c.tx x = some f) (hl : c.lm = true) (hL : lamB c ps scope = true)
    (hb : ∀ {wx : WX} {X' : Cx} (b : Bs) (Y' : Cy g wx cf k X' (innerL c scope)), PE X' body (T g b wx WR (ev cf e))) :
    PE X (.Call (.Name x px) [.Lambda ps body scope lpos] [] pos) (T g b wx WR (ev cf (.lamc f x e))) := ⟨fun pins s σ H Q I q' => by
  obtain ⟨F, ρ, fr, st, A, p⟩ := q'
  obtain ⟨k1, k2, k3⟩ := Y.gl hg
  obtain ⟨m1, m2, m3⟩ := Y.M.told x f hf
  obtain ⟨hr, c0, P, t1, t2, t3, t4⟩ := Y.hlm hl
  obtain ⟨hp, L⟩ := lamB_ok hL
  rw [← Y.hN, ← Y.hsc] at L
  simp only [ev] at p
  rcases m3 with m3 | m3
  case inr =>
    simp only [m3] at p
    revert p
    cases ev cf e fr st <;> exact fun p => False.elim p
  refine wpAny_Call_Name_kw (ld_glob I k1 (by rw [Y.G.hmg]; exact m1) ?_ k2)
  refine PySem.W.callWith_K (h₀ := X.base) I.ok.mod.kin (by rw [Y.G.hK]; exact m2) ?_ (by rfl) (by rfl)
  show wpAny _ _ (spliced ((false, eval (.Lambda ps body scope lpos) X.env) :: backTo pos (starEach [] X.env))) _ _ s
  refine Calls.spliced_cons (lam_eval I t2 t1 t3 t4 A.tb.tabs (L.has I.ok) hp fun lam cd pm ct dV H1 s1 I1 ex T1 o1 o2 o3 o4 o5 => ?_)
  obtain ⟨us, u1, u2, u3⟩ := o4
  refine Calls.spliced_nil ⟨I1.kIn, ?_⟩
  have A1 : Ab g b F ρ σ H1 fr st := A.lam ex T1
  have act := lam_act (b := b) (e := e) Y I1 hp L o1 o2 o3 u1 u2 u3 t3 o5 hb
  have e1 := Y.G.hP; have e2 := Y.G.hw; have e3 := Y.G.hK; have e4 := Y.G.hmg; have e5 := Y.G.hbase
  have env0 := I1.env0
  rw [e1, e2, e3, e4, e5] at env0
  have rc := m3 X.A X.stack s1 H1 lam Q (WE wx σ) _ F ρ st Y.G.guards hr env0 act A1.enter (fun F1 H2 S1 B1 => ?_)
  · rw [← e1, ← e2] at rc
    refine wpAny_call (codeAny_mono rc fun r s' hq => ?_)
    cases r with
    | error e => exact passAt Y.G.takes σ pins H1 s1 e s' I1 hq
    | ok fl =>
      cases fl with
      | ret u => exact I1.after hq
      | next => exact False.elim hq
      | brk => exact False.elim hq
      | cont => exact False.elim hq
  · have A2 := A1.after B1
    refine ⟨F1, ρ, fr, st, A2, ?_⟩
    -- told's rest in the caller's eyes
    have back : ∀ {r : R W} {F2 : Hp} {ρ2 : Rho} {H3 : Hp} {s2 : Sto}, Same F F2 → ρ <+: ρ2 → Ab g b F2 ρ2 σ H3 fr s2 → Po g b wx WR r F ρ σ fr Q → Po g ⟨H3, F2, ρ2, []⟩ (fun cls d _ H => WE wx σ cls d H) WR r F2 ρ2 [] [] Q := fun {r F2 ρ2 H3 s2} S P A3 pr => by
      cases r with
      | bad => exact pr
      | ok w s3 => exact fun F4 ρ4 H4 v S4 P4 A4 rl => pr F4 ρ4 H4 v (S.trans S4) (P.trans P4) (A3.after A4) (WR.after A3 A4 rl)
      | exc q p s3 => exact fun F4 ρ4 H4 cls d S4 P4 A4 x => pr F4 ρ4 H4 cls d (S.trans S4) (P.trans P4) (A3.after A4) x
    cases er : ev cf e fr st with
    | bad => rw [er] at p; exact p.elim
    | ok w s2 =>
      rw [er] at p
      intro F2 ρ2 H3 v S2 P2 A3 rl
      obtain ⟨F3, S3, A4, rv⟩ := rl.frz A3
      exact ⟨F3, ρ2, s2, w.d, S2.trans S3, P2, A4.enter, rv, back ((S1.trans S2).trans S3) P2 A4 p⟩
    | exc q pd s2 =>
      rw [er] at p
      intro F2 ρ2 H3 cls dd S2 P2 A3 x
      exact ⟨F2, ρ2, s2, q, pd, S2, P2, A3.enter, x, back (S1.trans S2) P2 A3 p⟩⟩
end
end MP

set_option Elab.async false
set_option linter.all false
set_option maxRecDepth 100000
set_option maxHeartbeats 8000000
namespace MP
open PySem PySem.Spec L2
section
variable {g : Gb} {b : Bs} {wx : WX} {cf : Nat → List D → Sto → R W} {k : Nat} {X : Cx} {c : Cc} {F F' : Hp} {ρ ρ' : Rho} {σ : L2.St} {H H' : Hp} {fr : Fr} {st st' : Sto} {Q : VK}
theorem e_isx (Y : Cy g wx cf k X c) {q : Nat} {a : E} {x : Expr} {y z n : Str} {py pz pos : Pos} (hf : y = "isinstance") (hg : glB c y = true) (hz : z = n) (hgz : glB c z = true) (hq : c.xc z = some q) (hs : noStar x = true) (hx : PE X x (T g b wx DR (ev cf a))) :
    PE X (.Call (.Name y py) [x, .Name z pz] [] pos) (T g b wx WR (ev cf (.isx a q n))) := PE.by fun σ H Q q' => by
  obtain ⟨F, ρ, fr, st, A, p⟩ := q'
  obtain ⟨k1, k2, k3⟩ := Y.gl hg
  obtain ⟨l1, l2, l3⟩ := Y.gl hgz
  have k4 : X.mg y = none := mem_blt (by subst hf; simp [bltNames]) Y
  obtain ⟨m1, m2⟩ := Y.M.xs.cls z q hq
  have l4 : X.mg z = some (.ref (g.ca q)) := by rw [Y.G.hmg]; exact m1
  subst hf
  simp only [ev] at p
  refine ⟨_, pe_callB callAny' k1 k4 PyProof.Rows.boot_isinstance (pa_cons hx (pa_cons (pe_glob l1 l4 (v := .ref (g.ca q)) rfl l2) pa_nil) (noStar_cons hs _)) k3 k2 (noStar_cons hs _), one p A fun x s2 F2 ρ2 H2 v A2 rv p2 => ?_⟩
  split at p2
  · rename_i r pd e
    rw [e] at rv
    rcases rv.errI with ⟨a0, d, u, rfl, h1, h2, h3, h4⟩ | ⟨e0, a0, rfl, h1, h2⟩
    rotate_left
    · subst e0
      have n0 := Y.M.x0 h1
      exact ⟨_, call_isx0, a0, g.ca 0, .ref (g.ca q), .ref (g.ca q), subC 0 q, rfl, A2.sub _ _ h2, .own _, by rw [Y.G.hK]; exact n0.erf, by rw [Y.G.hK]; exact n0.sub z q hq, p2.dat A2 (.bl _)⟩
    obtain ⟨n1, _⟩ := Y.M.xs.err r h1
    refine ⟨_, call_isx, a0, g.ca r, d, _, .ref (g.ca q), .ref (g.ca q), subC r q, rfl, A2.sub _ _ h2, A2.sub _ _ h3, .own _, by rw [Y.G.hK]; exact n1, by rw [Y.G.hK]; exact (Y.M.xs.sub r z q h1 hq).1, p2.dat A2 (.bl _)⟩
  · rename_i e
    rw [e] at rv
    have e0 := rv.nonI
    subst e0
    exact ⟨_, call_isi, .non, .ref (g.ca q), .type "NoneType", .ref (g.ca q), false, rfl, .own _, .base .non, by rw [Y.G.hK]; exact m2, p2.dat A2 (.bl _)⟩
  · exact p2.elim
theorem e_fld (Y : Cy g wx cf k X c) {a : E} {x z : Str} {y : Expr} {pos : Pos} (hz : z = x) (hne : x ≠ "") (hx : PE X y (T g b wx DR (ev cf a))) (hb : attributeBase y z X.env (eval y X.env) = eval y X.env) : PE X (.Attribute y z pos) (T g b wx WR (ev cf (.fld a x))) := PE.by fun σ H Q q' => by
  obtain ⟨F, ρ, fr, st, A, p⟩ := q'
  simp only [ev] at p
  refine ⟨_, pe_erf hx hb, one p A fun w s2 F2 ρ2 H2 v A2 rv p2 => ?_⟩
  split at p2
  · rename_i r pd e
    split at p2
    · rename_i ex
      rw [e] at rv
      rcases rv.errI with ⟨a0, d, u, rfl, h1, h2, h3, h4⟩ | ⟨e0, _⟩
      · obtain ⟨n1, n2, _⟩ := Y.M.xs.err r h1
        refine ⟨a0, g.ca r, d, _, u, rfl, A2.sub _ _ h2, A2.sub _ _ h3, by rw [Y.G.hK]; exact n1, by rw [Y.G.hK, hz, ← ex]; exact n2, ?_, p2.dat A2 h4⟩
        rw [hz, ← ex]
        simp [List.lookup]
      · subst e0
        exact absurd ex.symm hne
    · exact p2.elim
  · exact p2.elim
/-- isinstance of a built-in class of errors -/
theorem bx_boot (n : Nat) : bootBuiltins (bxN n) = some (.type (bxS n)) := by
  unfold bxN bxS
  split
  · exact PyProof.Rows.Boot.«ValueError»
  · exact PyProof.Rows.Boot.«KeyError»
  · exact PyProof.Rows.Boot.«LookupError»
  · exact PyProof.Rows.Boot.«OverflowError»
theorem e_isb (Y : Cy g wx cf k X c) {n : Nat} {a : E} {x : Expr} {y z : Str} {py pz pos : Pos} (hf : y = "isinstance") (hg : glB c y = true) (hz : z = bxN n) (hgz : glB c z = true) (hs : noStar x = true) (hx : PE X x (T g b wx DR (ev cf a))) :
    PE X (.Call (.Name y py) [x, .Name z pz] [] pos) (T g b wx WR (ev cf (.isb a n))) := PE.by fun σ H Q q' => by
  obtain ⟨F, ρ, fr, st, A, p⟩ := q'
  obtain ⟨k1, k2, k3⟩ := Y.gl hg
  obtain ⟨l1, l2, l3⟩ := Y.gl hgz
  have k4 : X.mg y = none := mem_blt (by subst hf; simp [bltNames]) Y
  have l4 : X.mg z = none := mem_blt (by subst hz; unfold bxN; split <;> simp [bltNames]) Y
  have l5 := bx_boot n
  rw [← hz] at l5
  subst hf
  simp only [ev] at p
  refine ⟨_, pe_callB callAny' k1 k4 PyProof.Rows.boot_isinstance (pa_cons hx (pa_cons (pe_bltn (v := .ty (bxS n)) l1 l4 l5 rfl l3 l2) pa_nil) (noStar_cons hs _)) k3 k2 (noStar_cons hs _), one p A fun x s2 F2 ρ2 H2 v A2 rv p2 => ?_⟩
  split at p2
  · rename_i r pd e
    rw [e] at rv
    rcases rv.errI with ⟨a0, d, u, rfl, h1, h2, h3, h4⟩ | ⟨e0, a0, rfl, h1, h2⟩
    · obtain ⟨n1, _⟩ := Y.M.xs.err r h1
      exact ⟨_, call_isx, a0, g.ca r, d, _, .ty (bxS n), .type (bxS n), subB r n, rfl, A2.sub _ _ h2, A2.sub _ _ h3, .ty _, by rw [Y.G.hK]; exact n1, by rw [Y.G.hK]; exact Y.M.xs.bx r h1 n, p2.dat A2 (.bl _)⟩
    · subst e0
      have n0 := Y.M.x0 h1
      exact ⟨_, call_isx0, a0, g.ca 0, .ty (bxS n), .type (bxS n), subB 0 n, rfl, A2.sub _ _ h2, .ty _, by rw [Y.G.hK]; exact n0.erf, by rw [Y.G.hK]; exact n0.bx n, p2.dat A2 (.bl _)⟩
  · exact p2.elim
/-- an error as a value -/
theorem e_mke (Y : Cy g wx cf k X c) {q : Nat} {x : Str} {e : E} {a : Expr} {px pos : Pos} (hg : glB c x = true) (hx : c.xc x = some q) (hq : 0 < q) (hs : noStar a = true) (hE : PE X a (T g b wx DR (ev cf e))) :
    PE X (.Call (.Name x px) [a] [] pos) (T g b wx WR (ev cf (.mke q x e))) := PE.by fun σ H Q q'' => by
  obtain ⟨F, ρ, fr, st, A, p⟩ := q''
  simp only [ev] at p
  obtain ⟨k1, k2, k3⟩ := Y.gl hg
  have kn := Y.M.xs.kn x q hx hq
  obtain ⟨n1, n2, n3, n4, B, newId, initId, bmB, n5⟩ := Y.M.xs.err q kn
  have n5' : ErrC X.prog X.K (g.ca q) (fldC q) B newId initId bmB := by rw [Y.G.hP, Y.G.hK]; exact n5
  refine ⟨_, pe_err n5' (by rw [Y.G.hK]; exact n3) (by rw [Y.G.hmg]; exact Y.M.xs.sup) Y.G.room k1 (by rw [Y.G.hmg]; exact (Y.M.xs.cls x q hx).1) hE (noStar_cons hs _) k2, one p A fun w s1 F1 ρ1 H1 v A1 rv p1 => fun d a hd ha hne => ?_⟩
  obtain ⟨A2, S2⟩ := A1.allocF (.xd [(fldC q, v)]) (nt_xd _) hd
  have ha' : upd H1 d (.xd [(fldC q, v)]) a = none := by rw [upd_ne hne]; exact ha
  obtain ⟨A3, S3⟩ := A2.allocF (ErO (.ref (g.ca q)) (some d) a) (fun ps z => by cases z) ha'
  exact p1 _ ρ1 _ _ (S2.trans S3) (pfx _) A3 (.err kn upd_same (S3 _ _ upd_same) (VR.mono (S2.trans S3) (pfx _) rv))
theorem e_mk0 (Y : Cy g wx cf k X c) {x : Str} {e : E} {a : Expr} {px pos : Pos} (hg : glB c x = true) (hx : c.xc x = some 0) (hs : noStar a = true) (hE : PE X a (T g b wx DR (ev cf e))) :
    PE X (.Call (.Name x px) [a] [] pos) (T g b wx WR (ev cf (.mk0 x e))) := PE.by fun σ H Q q'' => by
  obtain ⟨F, ρ, fr, st, A, p⟩ := q''
  simp only [ev] at p
  obtain ⟨k1, k2, k3⟩ := Y.gl hg
  have h0 := Y.M.xs.k0 x hx
  have n0 := Y.M.x0 h0
  refine ⟨_, pe_exc1 PySem.F.excBase_ValueError (by rw [Y.G.hK]; exact n0.exc) (by rw [Y.G.hmg]; exact (Y.M.xs.cls x 0 hx).1) (by rw [Y.G.hK]; exact n0.kp) k1 hE (noStar_cons hs _) k2, one p A fun w s1 F1 ρ1 H1 v A1 rv p1 => fun a ha => ?_⟩
  obtain ⟨A2, S2⟩ := A1.allocF (ExO (.ref (g.ca 0)) a) (fun ps z => by cases z) ha
  exact p1 _ ρ1 _ _ S2 (pfx _) A2 (.er0 h0 upd_same)
/-! ### l.count(x), flat items -/
theorem cnt_of {y : V} : ∀ {ys : List V} {us : List Value}, Vals ys us → ys.all flatV = true → us.countP (eqU y) = ys.countP fun z => eqV z y
  | _, _, .nil, _ => rfl
  | z :: ys, u :: us, .cons r t, f => by
    rw [List.all_cons, Bool.and_eq_true] at f
    rw [List.countP_cons, List.countP_cons, cnt_of t f.2, eqU_of r f.1]
theorem mt_cnt : MtR X "list.count" (fun x xs H Q => ∃ (a : Addr) (ys : List V) (y : V), x = .ref a ∧ xs = [y] ∧ SqL X.K H a ys ∧ flatV y = true ∧ ys.all flatV = true ∧ Q (.int ((ys.countP fun z => eqV z y) : Nat)) H) := by
  intro pins s σ H x xs v us Q I rx rxs h
  obtain ⟨a, ys, y, rfl, rfl, hs, fy, fys, q⟩ := h
  cases rx
  cases rxs with
  | cons ry rt =>
    rename_i uy ut
    cases rt
    obtain ⟨its, rv, ⟨⟨cls, dd, data, sl⟩, n, ho, hc, hdn, hd⟩, hlen⟩ := I.list hs
    simp only at hc hd
    subst hc hd
    refine call_meets PySem.F.slot_list_count ⟨_, ho, rfl⟩ PySem.F.entry_list_count (PySem.F.args_list_count_2 _ _)
      (SeqAt.list_countAt a its.toArray n dd sl uy (eqU y)) ⟨ho, fun u' hu' => mem_eqAt ry fy rv fys u' (by simpa using hu'), ?_⟩
    have ec : its.toArray.toList.countP (eqU y) = ys.countP fun z => eqV z y := cnt_of rv fys
    refine ⟨.int ((ys.countP fun z => eqV z y) : Nat), H, I.tok _, ⟨s.toks, ?_⟩, q⟩
    show Value.int ((its.toArray.toList.countP (eqU y) : Nat) : Int) s.toks = _
    rw [ec]
theorem cntV_of {d : D} {v : V} (h : VR g F ρ d v) (s : scalar d = true) : ∀ {ds : List D} {vs : List V}, VRs g F ρ ds vs → ds.all scalar = true → (vs.countP fun z => eqV z v) = ds.countP fun z => eqD z d
  | [], _, r, _ => by cases r; rfl
  | e :: ds, _, r, q => by
    simp only [List.all_cons, Bool.and_eq_true] at q
    cases r with
    | cons a b => rw [List.countP_cons, List.countP_cons, cntV_of h s b q.2, eqV_of a h q.1 s]
theorem e_cnt (Y : Cy g wx cf k X c) {a e : E} {y z : Str} {py pa pos : Pos} {e' : Expr} (hz : z = "count") (hl : (pa.endLine == pos.line) = true) (hs : noStar e' = true) (ha : PE X (.Name y py) (T g b wx DR (ev cf a))) (he : PE X e' (T g b wx DR (ev cf e))) :
    PE X (.Call (.Attribute (.Name y py) z pa) [e'] [] pos) (T g b wx WR (ev cf (.cnt a e))) := PE.by fun σ H Q q' => by
  obtain ⟨F, ρ, fr, st, A, p⟩ := q'
  subst hz
  simp only [ev] at p
  refine ⟨_, pe_bm PySem.F.plainAttrs_list PySem.F.slot_list_count PySem.F.type_list_count mt_cnt ha (pa_cons he pa_nil (noStar_cons hs _)) rfl (by rw [noStar_cons hs]; rfl) hl (noStar_cons hs _) rfl, ?_⟩
  refine one p A fun w s2 F2 ρ2 H2 v A2 rv p2 => ?_
  split at p2
  · rename_i xs e1
    rw [e1] at rv
    obtain ⟨a0, vs, rfl, h1, h2⟩ := rv.lstI
    refine ⟨.inl ⟨rfl, vs, .inl (.inl (A2.sub _ _ h1))⟩, F2, ρ2, fr, s2, A2, p2.seq fun w3 s3 F3 ρ3 H3 u _ S3 P3 A3 ru p3 => ?_⟩
    split at p3
    · rename_i hsc
      simp only [Bool.and_eq_true] at hsc
      have h2' := h2.mono S3 P3
      refine ⟨a0, vs, u, rfl, rfl, .inl (.inl (A3.sub _ _ (S3 _ _ h1))), flat_of ru hsc.1, flats_of h2' hsc.2, ?_⟩
      rw [cntV_of ru hsc.1 h2' hsc.2]
      exact p3.dat A3 (.int _)
    · exact p3.elim
  · exact p2.elim
/-! ### {} -/
theorem e_dic {pos : Pos} : PE X (.Dict [] [] pos) (T g b wx WR (ev cf .dic)) := PE.by fun σ H Q q' => by
  obtain ⟨F, ρ, fr, st, A, p⟩ := q'
  simp only [ev] at p
  refine ⟨_, pe_dnewK, fun q hq => ?_⟩
  obtain ⟨A', s⟩ := A.allocF (.dK []) (nt_dK _) hq
  exact p _ ρ _ _ s (pfx _) A' (.emp upd_same)
end
end MP

set_option Elab.async false
set_option linter.all false
set_option maxRecDepth 100000
set_option maxHeartbeats 8000000
namespace MP
open PySem PySem.Spec L2
section
variable {g : Gb} {cf : Nat → List D → Sto → R W} {k : Nat}
theorem and4 {a b c d : Bool} : (a && b && c && d) = true ↔ a = true ∧ b = true ∧ c = true ∧ d = true := by simp [and_assoc]
mutual
theorem sE : ∀ (e : E) {wx : WX} {X : Cx} {c : Cc} (b : Bs) (Y : Cy g wx cf k X c) (e' : Expr), mE c e e' = true → PE X e' (T g b wx WR (ev cf e))
  | .var i, _, _, _, b, Y, e', h => by
    simp only [mE] at h
    split at h
    · exact e_var Y h
    · cases h
  | .con d, _, _, _, b, Y, e', h => by
    simp only [mE] at h
    split at h
    · exact e_con h
    · cases h
  | .glo x d, _, _, c, b, Y, e', h => by
    simp only [mE] at h
    split at h
    · simp only [Bool.and_eq_true, decide_eq_true_eq] at h
      obtain ⟨⟨h1, h2⟩, h3⟩ := h
      subst h1
      split at h3
      · rename_i e; exact e_glo Y h2 e h3
      · cases h3
    · cases h
  | .tup es, _, _, _, b, Y, e', h => by
    simp only [mE] at h
    split at h
    · exact e_tup (sA es b Y _ h)
    · cases h
  | .lst es, _, _, _, b, Y, e', h => by
    simp only [mE] at h
    split at h
    · exact e_lst (sA es b Y _ h)
    · cases h
  | .bin o a b', _, _, _, b, Y, e', h => by
    simp only [mE] at h
    split at h
    · simp only [Bool.and_eq_true, decide_eq_true_eq] at h
      obtain ⟨⟨h1, h2⟩, h3⟩ := h
      subst h1
      exact e_bin Y (sE a b Y _ h2).dat (sE b' b Y _ h3).dat
    · cases h
  | .neg a, _, _, _, b, Y, e', h => by
    simp only [mE] at h
    split at h
    · simp only [Bool.and_eq_true, decide_eq_true_eq] at h
      obtain ⟨h1, h2⟩ := h
      subst h1
      exact e_neg (sE a b Y _ h2).dat
    · cases h
  | .cmp o a b', _, _, _, b, Y, e', h => by
    simp only [mE] at h
    split at h
    · simp only [Bool.and_eq_true, decide_eq_true_eq] at h
      obtain ⟨⟨⟨h1, h2⟩, h3⟩, h4⟩ := h
      subst h1
      exact e_cmp Y (sE a b Y _ h3).dat (sE b' b Y _ h4).dat h2
    · cases h
  | .chain o o' a b' d, _, _, _, b, Y, e', h => by
    simp only [mE] at h
    split at h
    · simp only [Bool.and_eq_true, decide_eq_true_eq] at h
      obtain ⟨⟨⟨⟨⟨⟨h1, h2⟩, h3⟩, h4⟩, h5⟩, h6⟩, h7⟩ := h
      subst h1; subst h2
      exact e_chain Y (sE a b Y _ h5).dat (sE b' b Y _ h6).dat (sE d b Y _ h7).dat h3 h4
    · cases h
  | .not a, _, _, _, b, Y, e', h => by
    simp only [mE] at h
    split at h
    · simp only [Bool.and_eq_true, decide_eq_true_eq] at h
      obtain ⟨h1, h2⟩ := h
      subst h1
      exact e_not (sE a b Y _ h2).dat
    · cases h
  | .and a b', _, _, _, b, Y, e', h => by
    simp only [mE] at h
    split at h
    · simp only [Bool.and_eq_true, decide_eq_true_eq] at h
      obtain ⟨⟨h1, h2⟩, h3⟩ := h
      subst h1
      split at h3
      · exact e_and (sE a b Y _ h2).dat (pe_one (sE b' b Y _ h3))
      · exact e_and (sE a b Y _ h2).dat (sE b' b Y _ h3)
    · cases h
  | .or a b', _, _, _, b, Y, e', h => by
    simp only [mE] at h
    split at h
    · simp only [Bool.and_eq_true, decide_eq_true_eq] at h
      obtain ⟨⟨h1, h2⟩, h3⟩ := h
      subst h1
      split at h3
      · exact e_or (sE a b Y _ h2).dat (pe_one (sE b' b Y _ h3))
      · exact e_or (sE a b Y _ h2).dat (sE b' b Y _ h3)
    · cases h
  | .ite t a b', _, _, _, b, Y, e', h => by
    simp only [mE] at h
    split at h
    · simp only [Bool.and_eq_true] at h
      obtain ⟨⟨⟨h0, h1⟩, h2⟩, h3⟩ := h
      exact e_ite (sT t b Y _ h0 h1) (sE a b Y _ h2) (sE b' b Y _ h3)
    · cases h
  | .idx a i, _, _, _, b, Y, e', h => by
    simp only [mE] at h
    split at h
    · simp only [Bool.and_eq_true] at h
      obtain ⟨⟨h1, h2⟩, h3⟩ := h
      exact e_idx Y (sE a b Y _ h2).dat (sE i b Y _ h3).dat h1
    · cases h
  | .idxM m i, _, _, _, b, Y, e', h => by
    simp only [mE] at h
    split at h
    · simp only [Bool.and_eq_true] at h
      obtain ⟨⟨h1, h2⟩, h3⟩ := h
      exact e_idxM Y h2 (sE i b Y _ h3).dat h1
    · cases h
  | .lenM m, _, _, _, b, Y, e', h => by
    simp only [mE] at h
    split at h
    · simp only [Bool.and_eq_true, decide_eq_true_eq] at h
      obtain ⟨⟨h1, h2⟩, h3⟩ := h
      exact e_lenM Y h1 h2 h3
    · cases h
  | .slc a lo hi, _, _, _, b, Y, e', h => by
    simp only [mE] at h
    split at h
    · simp only [Bool.and_eq_true] at h
      obtain ⟨⟨h1, h2⟩, h3⟩ := h
      exact e_slc Y (sE a b Y _ h1).dat (sO lo b Y _ h2) (sO hi b Y _ h3)
    · cases h
  | .rev a, _, _, _, b, Y, e', h => by
    simp only [mE] at h
    split at h
    · simp only [Bool.and_eq_true, decide_eq_true_eq] at h
      obtain ⟨⟨h1, h2⟩, h3⟩ := h
      subst h1; subst h2
      exact e_rev Y (sE a b Y _ h3).dat
    · cases h
  | .call f x es, _, X, c, b, Y, e', h => by
    simp only [mE] at h
    split at h
    · rename_i y py a' as' pos
      simp only [Bool.and_eq_true, decide_eq_true_eq, Option.isNone_iff_eq_none] at h
      obtain ⟨⟨⟨⟨h1, h2⟩, h3⟩, hk⟩, h4⟩ := h
      subst h1
      have h5 : noStar a' = true ∧ (starEach as' X.env).any (·.1) = false := by
        cases es with
        | nil => cases h4
        | cons e0 r =>
          simp only [mA0, Bool.and_eq_true] at h4
          exact ⟨h4.1.1, mA0_plain r as' X.env h4.2⟩
        | star _ _ => cases h4
      exact e_call Y h2 h3 hk h5.1 h5.2 (sA0 es b Y _ h4)
    · cases h
  | .call0 f x, _, X, c, b, Y, e', h => by
    simp only [mE] at h
    split at h
    · simp only [Bool.and_eq_true, decide_eq_true_eq, Option.isNone_iff_eq_none] at h
      obtain ⟨⟨⟨h1, h2⟩, h3⟩, hk⟩ := h
      subst h1
      exact e_call0 Y h2 h3 hk
    · cases h
  | .calld f x es, _, X, c, b, Y, e', h => by
    simp only [mE] at h
    split at h
    · rename_i y py a' as' pos
      simp only [Bool.and_eq_true, decide_eq_true_eq] at h
      obtain ⟨⟨⟨⟨h1, h2⟩, h3⟩, hk⟩, h4⟩ := h
      subst h1
      have h5 : noStar a' = true ∧ (starEach as' X.env).any (·.1) = false := by
        cases es with
        | nil => cases h4
        | cons e0 r =>
          simp only [mA0, Bool.and_eq_true] at h4
          exact ⟨h4.1.1, mA0_plain r as' X.env h4.2⟩
        | star _ _ => cases h4
      exact e_calld Y h2 h3 hk h5.1 h5.2 (sA0 es b Y _ h4)
    · cases h
  | .callk f x es e0, _, X, c, b, Y, e', h => by
    simp only [mE] at h
    split at h
    · rename_i y py a' as' z ek kpos pos
      simp only [Bool.and_eq_true, decide_eq_true_eq] at h
      obtain ⟨⟨⟨⟨⟨h1, h2⟩, h3⟩, hk⟩, h4⟩, h6⟩ := h
      subst h1
      have h5 : noStar a' = true ∧ (starEach as' X.env).any (·.1) = false := by
        cases es with
        | nil => cases h4
        | cons e0 r =>
          simp only [mA0, Bool.and_eq_true] at h4
          exact ⟨h4.1.1, mA0_plain r as' X.env h4.2⟩
        | star _ _ => cases h4
      exact e_callk Y h2 h3 hk h5.1 h5.2 (sA0 es b Y _ h4) (sE e0 b Y _ h6).dat
    · cases h
  | .gfn f x, _, _, c, b, Y, e', h => by
    simp only [mE] at h
    split at h
    · simp only [Bool.and_eq_true, decide_eq_true_eq] at h
      obtain ⟨⟨h1, h2⟩, h3⟩ := h
      subst h1
      exact e_gfn Y h2 h3
    · cases h
  | .callv i fs es, _, X, c, b, Y, e', h => by
    simp only [mE] at h
    split at h
    · rename_i y py a' as' pos
      simp only [Bool.and_eq_true] at h
      obtain ⟨⟨h1, h2⟩, h4⟩ := h
      have h5 : noStar a' = true ∧ (starEach as' X.env).any (·.1) = false := by
        cases es with
        | nil => cases h4
        | cons e0 r =>
          simp only [mA0, Bool.and_eq_true] at h4
          exact ⟨h4.1.1, mA0_plain r as' X.env h4.2⟩
        | star _ _ => cases h4
      exact e_callv Y h1 h2 h5.1 h5.2 (sA0 es b Y _ h4)
    · cases h
  | .b1 f a, _, _, _, b, Y, e', h => by
    simp only [mE] at h
    split at h
    · simp only [Bool.and_eq_true, decide_eq_true_eq] at h
      obtain ⟨⟨⟨h1, h2⟩, h3⟩, h4⟩ := h
      exact e_b1 Y h1 h2 h3 (sE a b Y _ h4).dat
    · cases h
  | .b2 f a b', _, _, _, b, Y, e', h => by
    simp only [mE] at h
    split at h
    · simp only [Bool.and_eq_true, decide_eq_true_eq] at h
      obtain ⟨⟨⟨⟨⟨h1, h2⟩, h3⟩, h4⟩, h5⟩, h6⟩ := h
      exact e_b2 Y h1 h2 h3 h4 (sE a b Y _ h5).dat (sE b' b Y _ h6).dat
    · cases h
  | .isi a t, _, _, _, b, Y, e', h => by
    simp only [mE] at h
    split at h
    · simp only [Bool.and_eq_true, decide_eq_true_eq] at h
      obtain ⟨⟨⟨⟨⟨h1, h2⟩, h3⟩, h4⟩, h5⟩, h6⟩ := h
      exact e_isi Y h1 h2 h3 h4 h5 (sE a b Y _ h6).dat
    · cases h
  | .lrng tp (.rng1 a), _, _, _, b, Y, e', h => by
    simp only [mE] at h
    split at h
    · simp only [Bool.and_eq_true, decide_eq_true_eq] at h
      obtain ⟨⟨⟨h1, h2⟩, h3⟩, h4⟩ := h
      simp only [mR] at h4
      split at h4
      · simp only [Bool.and_eq_true, decide_eq_true_eq] at h4
        obtain ⟨⟨⟨k1, k2⟩, k3⟩, k4⟩ := h4
        exact e_lrng1 Y h1 h2 k1 k2 k3 (sE a b Y _ k4).dat
      · cases h4
    · cases h
  | .lrng tp (.rng2 a b'), _, _, _, b, Y, e', h => by
    simp only [mE] at h
    split at h
    · simp only [Bool.and_eq_true, decide_eq_true_eq] at h
      obtain ⟨⟨⟨h1, h2⟩, h3⟩, h4⟩ := h
      simp only [mR] at h4
      split at h4
      · simp only [Bool.and_eq_true, decide_eq_true_eq] at h4
        obtain ⟨⟨⟨⟨⟨k1, k2⟩, k3⟩, k4⟩, k5⟩, k6⟩ := h4
        exact e_lrng2 Y h1 h2 k1 k2 k3 k4 (sE a b Y _ k5).dat (sE b' b Y _ k6).dat
      · cases h4
    · cases h
  | .lrng tp (.seq _), _, _, _, b, Y, e', h => by
    simp only [mE, mR, Bool.and_false] at h
    split at h <;> cases h
  | .lrng tp (.mut _), _, _, _, b, Y, e', h => by
    simp only [mE, mR, Bool.and_false] at h
    split at h <;> cases h
  | .lrng tp (.zip _ _), _, _, _, b, Y, e', h => by
    simp only [mE, mR, Bool.and_false] at h
    split at h <;> cases h
  | .lrng tp (.enum _), _, _, _, b, Y, e', h => by
    simp only [mE, mR, Bool.and_false] at h
    split at h <;> cases h
  | .lrng tp (.enumz _ _), _, _, _, b, Y, e', h => by
    simp only [mE, mR, Bool.and_false] at h
    split at h <;> cases h
  | .comp elt G own it cd, _, X, c, b, Y, e', h => by
    simp only [mE] at h
    split at h
    · rename_i elt' tg iter ifs z scope pos
      simp only [Bool.and_eq_true, decide_eq_true_eq, List.all_eq_true, Bool.not_eq_true', List.contains_iff_mem] at h
      obtain ⟨⟨⟨⟨⟨⟨⟨⟨h1, ha⟩, hb⟩, h2⟩, h3⟩, h4⟩, h5⟩, h6⟩, h7⟩ := h
      subst h1
      have hk := (blkOk_by h2).kind
      exact e_comp Y h2 h3 ha (sI it b Y tg iter h4) (fun s H C cl fp b' => g_ok (Y.block hk s H C cl fp) G tg h5) (fun s H C cl fp b' => sC cd b' (Y.block hk s H C cl fp) ifs h6) (fun s H C cl fp b' => (sE elt b' (Y.block hk s H C cl fp) elt' h7).dat)
    · cases h
  | .get a x, _, _, _, b, Y, e', h => by
    simp only [mE] at h
    split at h
    · simp only [Bool.and_eq_true, decide_eq_true_eq] at h
      obtain ⟨h1, h2⟩ := h
      subst h1
      exact e_get Y (sE a b Y _ h2).dat
    · cases h
  | .obi a i, _, _, _, b, Y, e', h => by
    simp only [mE] at h
    split at h
    · simp only [Bool.and_eq_true] at h
      obtain ⟨⟨h1, h2⟩, h3⟩ := h
      exact e_obi Y h1 (sE a b Y _ h2).dat (sE i b Y _ h3).dat
    · cases h
  | .obl a, _, _, _, b, Y, e', h => by
    simp only [mE] at h
    split at h
    · simp only [Bool.and_eq_true, decide_eq_true_eq] at h
      obtain ⟨⟨⟨h1, h2⟩, h3⟩, h4⟩ := h
      exact e_obl Y h1 h2 h3 (sE a b Y _ h4).dat
    · cases h
  | .obe a, _, _, _, b, Y, e', h => by
    simp only [mE] at h
    split at h
    · simp only [Bool.and_eq_true, decide_eq_true_eq] at h
      obtain ⟨h1, h2⟩ := h
      subst h1
      exact e_obe Y (sE a b Y _ h2).dat
    · cases h
  | .new a, _, _, _, b, Y, e', h => e_new (sE a b Y e' (by simp only [mE, Bool.and_eq_true] at h; exact h.2))
  | .isx a q x, _, _, _, b, Y, e', h => by
    simp only [mE] at h
    split at h
    · simp only [Bool.and_eq_true, decide_eq_true_eq] at h
      obtain ⟨⟨⟨⟨⟨⟨h1, h2⟩, h3⟩, h4⟩, h5⟩, h6⟩, h7⟩ := h
      exact e_isx Y h1 h2 h3 h4 h5 h6 (sE a b Y _ h7).dat
    · cases h
  | .fld a x, _, _, _, b, Y, e', h => by
    simp only [mE] at h
    split at h
    · simp only [Bool.and_eq_true, decide_eq_true_eq] at h
      exact e_fld Y h.1.1 h.1.2 (sE a b Y _ h.2).dat rfl
    · simp only [Bool.and_eq_true, decide_eq_true_eq] at h
      exact e_fld Y h.1.1 h.1.2 (sE a b Y _ h.2).dat rfl
    · cases h
  | .mke q x e0, _, _, _, b, Y, e', h => by
    simp only [mE] at h
    split at h
    · simp only [Bool.and_eq_true, decide_eq_true_eq] at h
      obtain ⟨⟨⟨⟨⟨h1, h2⟩, h3⟩, h4⟩, h5⟩, h6⟩ := h
      subst h1
      exact e_mke Y h2 h3 h4 h5 (sE e0 b Y _ h6).dat
    · cases h
  | .mk0 x e0, _, _, _, b, Y, e', h => by
    simp only [mE] at h
    split at h
    · simp only [Bool.and_eq_true, decide_eq_true_eq] at h
      obtain ⟨⟨⟨⟨h1, h2⟩, h3⟩, h5⟩, h6⟩ := h
      subst h1
      exact e_mk0 Y h2 h3 h5 (sE e0 b Y _ h6).dat
    · cases h
  | .isb a n, _, _, _, b, Y, e', h => by
    simp only [mE] at h
    split at h
    · simp only [Bool.and_eq_true, decide_eq_true_eq] at h
      obtain ⟨⟨⟨⟨⟨h1, h2⟩, h3⟩, h4⟩, h5⟩, h6⟩ := h
      exact e_isb Y h1 h2 h3 h4 h5 (sE a b Y _ h6).dat
    · cases h
  | .dic, _, _, _, b, Y, e', h => by
    simp only [mE] at h
    split at h
    · exact e_dic
    · cases h
  | .cnt a e0, _, _, _, b, Y, e', h => by
    simp only [mE] at h
    split at h
    · simp only [Bool.and_eq_true, decide_eq_true_eq] at h
      obtain ⟨⟨⟨⟨h1, h2⟩, h3⟩, h4⟩, h5⟩ := h
      exact e_cnt Y h1 h2 h3 (sE a b Y _ h4).dat (sE e0 b Y _ h5).dat
    · cases h
  | .lamc f x e0, _, _, c, b, Y, e', h => by
    simp only [mE] at h
    split at h
    · simp only [Bool.and_eq_true, decide_eq_true_eq] at h
      obtain ⟨⟨⟨⟨⟨h1, h2⟩, h3⟩, h4⟩, h5⟩, h6⟩ := h
      subst h1
      exact e_lamc Y h2 h3 h4 h5 fun b' Y' => sE e0 b' Y' _ h6
    · cases h
theorem sT : ∀ (e : E) {wx : WX} {X : Cx} {c : Cc} (b : Bs) (Y : Cy g wx cf k X c) (e' : Expr), okT e = true → mE c e e' = true → PT X e' (T g b wx BR (evB cf e))
  | .not a, _, _, _, b, Y, e', o, h => by
    simp only [mE] at h
    split at h
    · simp only [Bool.and_eq_true, decide_eq_true_eq] at h
      obtain ⟨h1, h2⟩ := h
      subst h1
      exact t_not (sT a b Y _ o h2)
    · cases h
  | .cmp o a b', _, _, _, b, Y, e', _, h => by
    simp only [mE] at h
    split at h
    · simp only [Bool.and_eq_true, decide_eq_true_eq] at h
      obtain ⟨⟨⟨h1, h2⟩, h3⟩, h4⟩ := h
      subst h1
      exact t_cmp Y (sE a b Y _ h3).dat (sE b' b Y _ h4).dat h2
    · cases h
  | .chain o o' a b' d, _, _, _, b, Y, e', _, h => by
    simp only [mE] at h
    split at h
    · simp only [Bool.and_eq_true, decide_eq_true_eq] at h
      obtain ⟨⟨⟨⟨⟨⟨h1, h2⟩, h3⟩, h4⟩, h5⟩, h6⟩, h7⟩ := h
      subst h1; subst h2
      exact t_chain Y (sE a b Y _ h5).dat (sE b' b Y _ h6).dat (sE d b Y _ h7).dat h3 h4
    · cases h
  | .and a b', _, _, _, b, Y, e', o, h => by
    simp only [okT, Bool.and_eq_true] at o
    simp only [mE] at h
    split at h
    · simp only [Bool.and_eq_true, decide_eq_true_eq] at h
      obtain ⟨⟨h1, h2⟩, h3⟩ := h
      subst h1
      split at h3
      · exact (w_and (sT a b Y _ o.1 h2) (pw_and1 (sT b' b Y _ o.2 h3))).pt
      · exact (w_and (sT a b Y _ o.1 h2) (sW b' b Y _ _ _ o.2 h3)).pt
    · cases h
  | .or a b', _, _, _, b, Y, e', o, h => by
    simp only [okT, Bool.and_eq_true] at o
    simp only [mE] at h
    split at h
    · simp only [Bool.and_eq_true, decide_eq_true_eq] at h
      obtain ⟨⟨h1, h2⟩, h3⟩ := h
      subst h1
      split at h3
      · exact (w_or (sT a b Y _ o.1 h2) (pw_or1 (sT b' b Y _ o.2 h3))).pt
      · exact (w_or (sT a b Y _ o.1 h2) (sW b' b Y _ _ _ o.2 h3)).pt
    · cases h
  | .ite _ _ _, _, _, _, _, _, _, o, _ => by cases o
  | .var i, _, _, _, b, Y, e', _, h => by
    simp only [mE] at h
    split at h
    · exact t_other (e_var Y h).dat (by intros; simp) (by intros; simp) (by intros; simp) (by intros; simp)
    · cases h
  | .con d, _, _, _, b, Y, e', _, h => by
    simp only [mE] at h
    split at h
    · exact t_other (e_con h).dat (by intros; simp) (by intros; simp) (by intros; simp) (by intros; simp)
    · cases h
  | .glo x d, _, _, _, b, Y, e', _, h => by
    have p := (sE (.glo x d) b Y e' h).dat
    simp only [mE] at h
    split at h
    · exact t_other p (by intros; simp) (by intros; simp) (by intros; simp) (by intros; simp)
    · cases h
  | .tup es, _, _, _, b, Y, e', _, h => by
    simp only [mE] at h
    split at h
    · exact t_other (e_tup (sA es b Y _ h)).dat (by intros; simp) (by intros; simp) (by intros; simp) (by intros; simp)
    · cases h
  | .lst es, _, _, _, b, Y, e', _, h => by
    simp only [mE] at h
    split at h
    · exact t_other (e_lst (sA es b Y _ h)).dat (by intros; simp) (by intros; simp) (by intros; simp) (by intros; simp)
    · cases h
  | .bin o a b', _, _, _, b, Y, e', _, h => by
    have p := (sE (.bin o a b') b Y e' h).dat
    simp only [mE] at h
    split at h
    · exact t_other p (by intros; simp) (by intros; simp) (by intros; simp) (by intros; simp)
    · cases h
  | .neg a, _, X, _, b, Y, e', _, h => by
    have p := (sE (.neg a) b Y e' h).dat
    simp only [mE] at h
    split at h
    · simp only [Bool.and_eq_true, decide_eq_true_eq] at h
      obtain ⟨h1, h2⟩ := h
      subst h1
      exact t_val p fun whole => rfl
    · cases h
  | .idx a i, _, _, _, b, Y, e', _, h => by
    have p := (sE (.idx a i) b Y e' h).dat
    simp only [mE] at h
    split at h
    · exact t_other p (by intros; simp) (by intros; simp) (by intros; simp) (by intros; simp)
    · cases h
  | .idxM m i, _, _, _, b, Y, e', _, h => by
    have p := (sE (.idxM m i) b Y e' h).dat
    simp only [mE] at h
    split at h
    · exact t_other p (by intros; simp) (by intros; simp) (by intros; simp) (by intros; simp)
    · cases h
  | .lenM m, _, _, _, b, Y, e', _, h => by
    have p := (sE (.lenM m) b Y e' h).dat
    simp only [mE] at h
    split at h
    · exact t_other p (by intros; simp) (by intros; simp) (by intros; simp) (by intros; simp)
    · cases h
  | .slc a lo hi, _, _, _, b, Y, e', _, h => by
    have p := (sE (.slc a lo hi) b Y e' h).dat
    simp only [mE] at h
    split at h
    · exact t_other p (by intros; simp) (by intros; simp) (by intros; simp) (by intros; simp)
    · cases h
  | .rev a, _, _, _, b, Y, e', _, h => by
    have p := (sE (.rev a) b Y e' h).dat
    simp only [mE] at h
    split at h
    · exact t_other p (by intros; simp) (by intros; simp) (by intros; simp) (by intros; simp)
    · cases h
  | .call f x es, _, _, _, b, Y, e', _, h => by
    have p := (sE (.call f x es) b Y e' h).dat
    simp only [mE] at h
    split at h
    · exact t_other p (by intros; simp) (by intros; simp) (by intros; simp) (by intros; simp)
    · cases h
  | .gfn f x, _, _, _, b, Y, e', _, h => by
    have p := (sE (.gfn f x) b Y e' h).dat
    simp only [mE] at h
    split at h
    · exact t_other p (by intros; simp) (by intros; simp) (by intros; simp) (by intros; simp)
    · cases h
  | .callv i fs es, _, _, _, b, Y, e', _, h => by
    have p := (sE (.callv i fs es) b Y e' h).dat
    simp only [mE] at h
    split at h
    · exact t_other p (by intros; simp) (by intros; simp) (by intros; simp) (by intros; simp)
    · cases h
  | .b1 f a, _, _, _, b, Y, e', _, h => by
    have p := (sE (.b1 f a) b Y e' h).dat
    simp only [mE] at h
    split at h
    · exact t_other p (by intros; simp) (by intros; simp) (by intros; simp) (by intros; simp)
    · cases h
  | .b2 f a b', _, _, _, b, Y, e', _, h => by
    have p := (sE (.b2 f a b') b Y e' h).dat
    simp only [mE] at h
    split at h
    · exact t_other p (by intros; simp) (by intros; simp) (by intros; simp) (by intros; simp)
    · cases h
  | .isi a t, _, _, _, b, Y, e', _, h => by
    have p := (sE (.isi a t) b Y e' h).dat
    simp only [mE] at h
    split at h
    · exact t_other p (by intros; simp) (by intros; simp) (by intros; simp) (by intros; simp)
    · cases h
  | .lrng tp it, _, _, _, b, Y, e', _, h => by
    have p := (sE (.lrng tp it) b Y e' h).dat
    simp only [mE] at h
    split at h
    · exact t_other p (by intros; simp) (by intros; simp) (by intros; simp) (by intros; simp)
    · cases h
  | .comp elt G own it cd, _, _, _, b, Y, e', _, h => by
    have p := (sE (.comp elt G own it cd) b Y e' h).dat
    simp only [mE] at h
    split at h
    · exact t_other p (by intros; simp) (by intros; simp) (by intros; simp) (by intros; simp)
    · cases h
  | .get a x, _, _, _, b, Y, e', _, h => by
    have p := (sE (.get a x) b Y e' h).dat
    simp only [mE] at h
    split at h
    · exact t_other p (by intros; simp) (by intros; simp) (by intros; simp) (by intros; simp)
    · cases h
  | .obi a i, _, _, _, b, Y, e', _, h => by
    have p := (sE (.obi a i) b Y e' h).dat
    simp only [mE] at h
    split at h
    · exact t_other p (by intros; simp) (by intros; simp) (by intros; simp) (by intros; simp)
    · cases h
  | .obl a, _, _, _, b, Y, e', _, h => by
    have p := (sE (.obl a) b Y e' h).dat
    simp only [mE] at h
    split at h
    · exact t_other p (by intros; simp) (by intros; simp) (by intros; simp) (by intros; simp)
    · cases h
  | .obe a, _, _, _, b, Y, e', _, h => by
    simp only [mE] at h
    split at h
    · simp only [Bool.and_eq_true, decide_eq_true_eq] at h
      obtain ⟨h1, h2⟩ := h
      subst h1
      exact t_obe Y (sE a b Y _ h2).dat
    · cases h
  | .new a, _, _, _, b, Y, e', o, h => by cases o
  | .isx a q x, _, _, _, b, Y, e', _, h => by
    have p := (sE (.isx a q x) b Y e' h).dat
    simp only [mE] at h
    split at h
    · exact t_other p (by intros; simp) (by intros; simp) (by intros; simp) (by intros; simp)
    · cases h
  | .fld a x, _, _, _, b, Y, e', _, h => by
    have p := (sE (.fld a x) b Y e' h).dat
    simp only [mE] at h
    split at h
    · exact t_other p (by intros; simp) (by intros; simp) (by intros; simp) (by intros; simp)
    · exact t_other p (by intros; simp) (by intros; simp) (by intros; simp) (by intros; simp)
    · cases h
  | .mke q x e0, _, _, _, b, Y, e', _, h => by
    have p := (sE (.mke q x e0) b Y e' h).dat
    simp only [mE] at h
    split at h
    · exact t_other p (by intros; simp) (by intros; simp) (by intros; simp) (by intros; simp)
    · cases h
  | .mk0 x e0, _, _, _, b, Y, e', _, h => by
    have p := (sE (.mk0 x e0) b Y e' h).dat
    simp only [mE] at h
    split at h
    · exact t_other p (by intros; simp) (by intros; simp) (by intros; simp) (by intros; simp)
    · cases h
  | .isb a n, _, _, _, b, Y, e', _, h => by
    have p := (sE (.isb a n) b Y e' h).dat
    simp only [mE] at h
    split at h
    · exact t_other p (by intros; simp) (by intros; simp) (by intros; simp) (by intros; simp)
    · cases h
  | .call0 f x, _, _, _, b, Y, e', _, h => by
    have p := (sE (.call0 f x) b Y e' h).dat
    simp only [mE] at h
    split at h
    · exact t_other p (by intros; simp) (by intros; simp) (by intros; simp) (by intros; simp)
    · cases h
  | .calld f x es, _, _, _, b, Y, e', _, h => by
    have p := (sE (.calld f x es) b Y e' h).dat
    simp only [mE] at h
    split at h
    · exact t_other p (by intros; simp) (by intros; simp) (by intros; simp) (by intros; simp)
    · cases h
  | .callk f x es e0, _, _, _, b, Y, e', _, h => by
    have p := (sE (.callk f x es e0) b Y e' h).dat
    simp only [mE] at h
    split at h
    · exact t_other p (by intros; simp) (by intros; simp) (by intros; simp) (by intros; simp)
    · cases h
  | .dic, _, _, _, b, Y, e', _, h => by
    have p := (sE .dic b Y e' h).dat
    simp only [mE] at h
    split at h
    · exact t_other p (by intros; simp) (by intros; simp) (by intros; simp) (by intros; simp)
    · cases h
  | .cnt a e0, _, _, _, b, Y, e', _, h => by
    have p := (sE (.cnt a e0) b Y e' h).dat
    simp only [mE] at h
    split at h
    · exact t_other p (by intros; simp) (by intros; simp) (by intros; simp) (by intros; simp)
    · cases h
  | .lamc f x e0, _, _, _, b, Y, e', _, h => by
    have p := (sE (.lamc f x e0) b Y e' h).dat
    simp only [mE] at h
    split at h
    · exact t_other p (by intros; simp) (by intros; simp) (by intros; simp) (by intros; simp)
    · cases h
theorem sW : ∀ (e : E) {wx : WX} {X : Cx} {c : Cc} (b : Bs) (Y : Cy g wx cf k X c) (o' : BoolOp) (vs : List Expr) (pos : Pos), okT e = true → mE c e (.BoolOp o' vs pos) = true → PW X (.BoolOp o' vs pos) (T g b wx BR (evB cf e))
  | .and a b', _, _, _, b, Y, o', vs, pos, o, h => by
    simp only [okT, Bool.and_eq_true] at o
    simp only [mE] at h
    split at h
    · rename_i q
      cases q
      simp only [Bool.and_eq_true, decide_eq_true_eq] at h
      obtain ⟨⟨h1, h2⟩, h3⟩ := h
      subst h1
      split at h3
      · exact w_and (sT a b Y _ o.1 h2) (pw_and1 (sT b' b Y _ o.2 h3))
      · exact w_and (sT a b Y _ o.1 h2) (sW b' b Y _ _ _ o.2 h3)
    · cases h
  | .or a b', _, _, _, b, Y, o', vs, pos, o, h => by
    simp only [okT, Bool.and_eq_true] at o
    simp only [mE] at h
    split at h
    · rename_i q
      cases q
      simp only [Bool.and_eq_true, decide_eq_true_eq] at h
      obtain ⟨⟨h1, h2⟩, h3⟩ := h
      subst h1
      split at h3
      · exact w_or (sT a b Y _ o.1 h2) (pw_or1 (sT b' b Y _ o.2 h3))
      · exact w_or (sT a b Y _ o.1 h2) (sW b' b Y _ _ _ o.2 h3)
    · cases h
  | .ite _ _ _, _, _, _, _, _, _, _, _, o, _ => by cases o
  | .var i, _, _, _, b, Y, o', vs, pos, _, h => by simp [mE] at h
  | .con d, _, _, _, b, Y, o', vs, pos, _, h => by simp [mE] at h
  | .glo x d, _, _, _, b, Y, o', vs, pos, _, h => by simp [mE] at h
  | .tup es, _, _, _, b, Y, o', vs, pos, _, h => by simp [mE] at h
  | .lst es, _, _, _, b, Y, o', vs, pos, _, h => by simp [mE] at h
  | .bin o a b', _, _, _, b, Y, o', vs, pos, _, h => by simp [mE] at h
  | .neg a, _, _, _, b, Y, o', vs, pos, _, h => by simp [mE] at h
  | .cmp o a b', _, _, _, b, Y, o', vs, pos, _, h => by simp [mE] at h
  | .chain o o2 a b' d, _, _, _, b, Y, o', vs, pos, _, h => by simp [mE] at h
  | .not a, _, _, _, b, Y, o', vs, pos, _, h => by simp [mE] at h
  | .idx a i, _, _, _, b, Y, o', vs, pos, _, h => by simp [mE] at h
  | .idxM m i, _, _, _, b, Y, o', vs, pos, _, h => by simp [mE] at h
  | .lenM m, _, _, _, b, Y, o', vs, pos, _, h => by simp [mE] at h
  | .slc a lo hi, _, _, _, b, Y, o', vs, pos, _, h => by simp [mE] at h
  | .rev a, _, _, _, b, Y, o', vs, pos, _, h => by simp [mE] at h
  | .call f x es, _, _, _, b, Y, o', vs, pos, _, h => by simp [mE] at h
  | .gfn f x, _, _, _, b, Y, o', vs, pos, _, h => by simp [mE] at h
  | .callv i fs es, _, _, _, b, Y, o', vs, pos, _, h => by simp [mE] at h
  | .b1 f a, _, _, _, b, Y, o', vs, pos, _, h => by simp [mE] at h
  | .b2 f a b', _, _, _, b, Y, o', vs, pos, _, h => by simp [mE] at h
  | .isi a t, _, _, _, b, Y, o', vs, pos, _, h => by simp [mE] at h
  | .lrng tp it, _, _, _, b, Y, o', vs, pos, _, h => by simp [mE] at h
  | .comp elt G own it cd, _, _, _, b, Y, o', vs, pos, _, h => by simp [mE] at h
  | .get a x, _, _, _, b, Y, o', vs, pos, _, h => by simp [mE] at h
  | .obi a i, _, _, _, b, Y, o', vs, pos, _, h => by simp [mE] at h
  | .obl a, _, _, _, b, Y, o', vs, pos, _, h => by simp [mE] at h
  | .obe a, _, _, _, b, Y, o', vs, pos, _, h => by simp [mE] at h
  | .isx a q x, _, _, _, b, Y, o', vs, pos, _, h => by simp [mE] at h
  | .fld a x, _, _, _, b, Y, o', vs, pos, _, h => by simp [mE] at h
  | .mke q x e0, _, _, _, b, Y, o', vs, pos, _, h => by simp [mE] at h
  | .mk0 x e0, _, _, _, b, Y, o', vs, pos, _, h => by simp [mE] at h
  | .isb a n, _, _, _, b, Y, o', vs, pos, _, h => by simp [mE] at h
  | .lamc f x e0, _, _, _, b, Y, o', vs, pos, _, h => by simp [mE] at h
  | .cnt a e0, _, _, _, b, Y, o', vs, pos, _, h => by simp [mE] at h
  | .dic, _, _, _, b, Y, o', vs, pos, _, h => by simp [mE] at h
  | .call0 f x, _, _, _, b, Y, o', vs, pos, _, h => by simp [mE] at h
  | .calld f x es, _, _, _, b, Y, o', vs, pos, _, h => by simp [mE] at h
  | .callk f x es e0, _, _, _, b, Y, o', vs, pos, _, h => by simp [mE] at h
  | .new a, _, _, _, b, Y, o', vs, pos, o, h => by cases o
theorem sA : ∀ (a : A) {wx : WX} {X : Cx} {c : Cc} (b : Bs) (Y : Cy g wx cf k X c) (es : List Expr), mA c a es = true → PA X es (T g b wx LR (evA cf a))
  | .nil, _, _, _, b, Y, es, h => by
    simp only [mA] at h
    split at h
    · exact a_nil
    · cases h
  | .cons e r, _, _, _, b, Y, es, h => by
    simp only [mA] at h
    split at h
    · simp only [Bool.and_eq_true] at h
      obtain ⟨⟨h1, h2⟩, h3⟩ := h
      exact a_cons h1 (sE e b Y _ h2).dat (sA r b Y _ h3)
    · cases h
  | .star e r, _, _, _, b, Y, es, h => by
    simp only [mA] at h
    split at h
    · simp only [Bool.and_eq_true] at h
      exact a_star Y (sE e b Y _ h.1).dat (sA r b Y _ h.2)
    · cases h
theorem sA0 : ∀ (a : A) {wx : WX} {X : Cx} {c : Cc} (b : Bs) (Y : Cy g wx cf k X c) (es : List Expr), mA0 c a es = true → PA X es (T g b wx LR (evA cf a))
  | .nil, _, _, _, b, Y, es, h => by
    simp only [mA0] at h
    split at h
    · exact a_nil
    · cases h
  | .cons e r, _, _, _, b, Y, es, h => by
    simp only [mA0] at h
    split at h
    · simp only [Bool.and_eq_true] at h
      obtain ⟨⟨h1, h2⟩, h3⟩ := h
      exact a_cons h1 (sE e b Y _ h2).dat (sA0 r b Y _ h3)
    · cases h
  | .star e r, _, _, _, b, Y, es, h => by cases h
theorem sO : ∀ (a : O) {wx : WX} {X : Cx} {c : Cc} (b : Bs) (Y : Cy g wx cf k X c) (o : Option Expr), mO c a o = true → PO X o (T g b wx IR (evO cf a))
  | .none, _, _, _, b, Y, o, h => by
    simp only [mO] at h
    split at h
    · exact o_none
    · cases h
  | .some e, _, _, _, b, Y, o, h => by
    simp only [mO] at h
    split at h
    · exact o_some (sE e b Y _ h).dat
    · cases h
theorem sI : ∀ (it : It) {wx : WX} {X : Cx} {c : Cc} (b : Bs) (Y : Cy g wx cf k X c) (tg e' : Expr), mI c it tg e' = true → PI X tg e' (TW g b wx (evI cf it) (keepOf it))
  | .seq e, _, _, _, b, Y, tg, e', h => by
    simp only [mI] at h
    exact i_seq Y (sE e b Y _ h).dat
  | .mut i, _, _, _, b, Y, tg, e', h => by
    simp only [mI] at h
    split at h
    · exact i_mut Y h
    · cases h
  | .rng1 a, _, _, _, b, Y, tg, e', h => by
    simp only [mI] at h
    split at h
    · simp only [Bool.and_eq_true, decide_eq_true_eq] at h
      obtain ⟨⟨⟨h1, h2⟩, h3⟩, h4⟩ := h
      exact i_rng1 Y h1 h2 h3 (sE a b Y _ h4).dat
    · cases h
  | .rng2 a b', _, _, _, b, Y, tg, e', h => by
    simp only [mI] at h
    split at h
    · simp only [Bool.and_eq_true, decide_eq_true_eq] at h
      obtain ⟨⟨⟨⟨⟨h1, h2⟩, h3⟩, h4⟩, h5⟩, h6⟩ := h
      exact i_rng2 Y h1 h2 h3 h4 (sE a b Y _ h5).dat (sE b' b Y _ h6).dat
    · cases h
  | .zip a b', _, _, _, b, Y, tg, e', h => by
    simp only [mI] at h
    split at h
    · simp only [Bool.and_eq_true, decide_eq_true_eq] at h
      obtain ⟨⟨⟨⟨⟨⟨h0, h1⟩, h2⟩, h3⟩, h4⟩, h5⟩, h6⟩ := h
      exact i_zip Y h0 h1 h2 h3 h4 (sE a b Y _ h5).dat (sE b' b Y _ h6).dat
    · cases h
  | .enum a, _, _, _, b, Y, tg, e', h => by
    simp only [mI] at h
    split at h
    · simp only [Bool.and_eq_true, decide_eq_true_eq] at h
      obtain ⟨⟨⟨⟨h0, h1⟩, h2⟩, h3⟩, h4⟩ := h
      exact i_enum Y h0 h1 h2 h3 (sE a b Y _ h4).dat
    · cases h
  | .enumz a b', _, _, _, b, Y, tg, e', h => by
    simp only [mI] at h
    split at h
    · simp only [Bool.and_eq_true, decide_eq_true_eq] at h
      obtain ⟨⟨⟨⟨⟨⟨⟨⟨h0, h1⟩, h2⟩, h3⟩, h4⟩, h5⟩, h6⟩, h7⟩, h8⟩ := h
      exact i_enumz Y h0 h1 h2 h3 h4 h5 h6 (sE a b Y _ h7).dat (sE b' b Y _ h8).dat
    · cases h
theorem sC : ∀ (cd : C) {wx : WX} {X : Cx} {c : Cc} (b : Bs) (Y : Cy g wx cf k X c) (es : List Expr), mC c cd es = true → PTs X es (T g b wx BR (evC cf cd))
  | .yes, _, _, _, b, Y, es, h => by
    simp only [mC] at h
    split at h
    · exact ⟨fun pins s σ H Q I q => pts_nil.run pins s σ H Q I (by
        obtain ⟨F, ρ, fr, st, A, p⟩ := q
        exact p F ρ H true (.refl _) (pfx _) A rfl)⟩
    · cases h
  | .one e, _, _, _, b, Y, es, h => by
    simp only [mC] at h
    split at h
    · simp only [Bool.and_eq_true] at h
      have p := pts_one (sT e b Y _ h.1 h.2)
      exact ⟨fun pins s σ H Q I q => p.run pins s σ H Q I q⟩
    · cases h
end
end
end MP

set_option Elab.async false
set_option linter.all false
set_option maxRecDepth 100000
set_option maxHeartbeats 8000000
namespace MP
open PySem PySem.Spec L2

/-! ### statements and their texts -/
def notTT : Expr → Expr → Bool
  | .Tuple _ _ _, .Tuple _ _ _ => false
  | .List _ _, .Tuple _ _ _ => false
  | _, _ => true
/-- a comprehension given to a name: how it is stored -/
def swapC (sc : Scope) : Expr → Expr → Option Bool
  | .Name t tp, .ListComp _ _ scope pos => some (sc.names.lookup t == some .local && tp.line == pos.line && !(scope.names.any fun (n, k) => n == t && (k == .local || k == .cell)))
  | _, .ListComp _ _ _ _ => some false
  | _, .SetComp _ _ _ _ => none
  | _, .DictComp _ _ _ _ _ => none
  | _, _ => some false
def noComp : Expr → Bool
  | .ListComp _ _ _ _ => false
  | .SetComp _ _ _ _ => false
  | .DictComp _ _ _ _ _ => false
  | _ => true
def swCls (sc : Scope) (ts vs : List Expr) : Option (Option (List Str)) :=
  if (!(ts.length == 2 || ts.length == 3) || vs.length != ts.length) = true then some none else
  if (vs.any fun | .Starred .. => true | _ => false) = true then some none else
  let line := (ts.head?.map (·.pos.line)).getD 0
  let names := ts.filterMap fun
    | .Name id pos => if (sc.names.lookup id == some .local && pos.line == line) = true then some id else none
    | _ => none
  if (names.length != ts.length || names.eraseDups.length != names.length) = true then some none else
  if vs.all (foldedForSure 8) = true then some none else
  if vs.all (constantsAlone 8) = true then none else some (some names)
def asgOk (sc : Scope) : Expr → Expr → Bool
  | .Tuple ts _ _, .Tuple vs _ _ => decide (swCls sc ts vs = some none)
  | .List _ _, _ => false
  | _, _ => true
def isMutI : It → Bool
  | .mut _ => true
  | _ => false
/-- the names of several targets -/
def parB (c : Cc) : List (Bool × Nat) → List Expr → Bool
  | [], [] => true
  | (_, i) :: r, .Name x _ :: es => decide (c.N[i]? = some x) && decide (c.sc.names.lookup x = some .local) && parB c r es
  | _, _ => false
def parL (c : Cc) : List (Bool × Nat) → List Expr → Bool
  | [], [] => true
  | (_, i) :: r, .Name x _ :: es => locB c i x && parL c r es
  | _, _ => false
def namesOf : List Expr → List Str
  | [] => []
  | .Name x _ :: r => x :: namesOf r
  | _ :: r => namesOf r
/-- the classes of an except clause -/
def clsB (c : Cc) : List (Nat × Str) → Expr → Bool
  | [(q, x)], .Name y _ => decide (x = y) && glB c x && decide (c.xc x = some q)
  | [(q, x), (q2, x2)], .Tuple [.Name y _, .Name y2 _] _ _ => decide (x = y) && glB c x && decide (c.xc x = some q) && decide (x2 = y2) && glB c x2 && decide (c.xc x2 = some q2)
  | [(q, x), (q2, x2), (q3, x3)], .Tuple [.Name y _, .Name y2 _, .Name y3 _] _ _ => decide (x = y) && glB c x && decide (c.xc x = some q) && decide (x2 = y2) && glB c x2 && decide (c.xc x2 = some q2) && decide (x3 = y3) && glB c x3 && decide (c.xc x3 = some q3)
  | _, _ => false
def isLocal : Option NameKind → Bool
  | some .local => true
  | _ => false
def tryB (c : Cc) (cs : List (Nat × Str)) (ce : Expr) (n m n' : Str) (i j : Nat) : Bool := clsB c cs ce && decide (n = n') && decide (c.N[i]? = some n) && isLocal (c.sc.names.lookup n) && decide (c.N[j]? = some m) && isLocal (c.sc.names.lookup m) && decide (i ≠ j) && !(n == ("__debug__" : Str)) && !(n == ("__classdict__" : Str))
mutual
def mS (c : Cc) : S → Stmt → Bool
  | .asg G e, s => match s with
    | .Assign [tg] v _ => mG c G tg && mE c e v && asgOk c.sc tg v && noStar tg && (match swapC c.sc tg v with | some _ => true | none => false)
    | _ => false
  | .own i e, s => match s with
    | .Assign [.Name x p] v _ => locB c i x && mE c e v && (match swapC c.sc (.Name x p) v with | some _ => true | none => false)
    | _ => false
  | .par gs es, s => match s with
    | .Assign [.Tuple ts _ _] (.Tuple vs _ _) _ => (decide (swCls c.sc ts vs = some (some (namesOf ts))) && parB c gs ts || decide (swCls c.sc ts vs = some none) && parL c gs ts && decide (gs.length = 2)) && mA0 c es vs && decide ((gs.map (·.2)).Nodup) && decide (gs.length = vs.length)
    | _ => false
  | .setm i q e, s => match s with
    | .Assign [.Subscript (.Name x _) q' _] v _ => visB c i x && noSlice q' && noComp v && mE c q q' && mE c e v
    | _ => false
  | .augm i o q e, s => match s with
    | .AugAssign (.Subscript (.Name x _) q' _) o' v _ => visB c i x && noSlice q' && decide (o' = opOf o) && mE c q q' && mE c e v
    | _ => false
  | .appm i e, s => match s with
    | .Expr (.Call (.Attribute (.Name x _) m ap) [v] [] cp) _ => visB c i x && decide (m = "append") && (ap.endLine == cp.line) && noStar v && mE c e v
    | _ => false
  | .extm i e, s => match s with
    | .Expr (.Call (.Attribute (.Name x _) m ap) [v] [] cp) _ => visB c i x && decide (m = "extend") && (ap.endLine == cp.line) && noStar v && mE c e v
    | _ => false
  | .ife t a b, s => match s with
    | .If t' a' b' _ => okT t && mE c t t' && mSs c a a' && mSs c b b'
    | _ => false
  | .for_ G it b, s => match s with
    | .For tg iter b' [] _ => !isMutI it && noSet iter && mI c it tg iter && mG c G tg && mSs c b b'
    | _ => false
  | .whl t b, s => match s with
    | .While t' b' [] _ => okT t && mE c t t' && mSs c b b'
    | _ => false
  | .ret e, s => match s with
    | .Return (some e') _ => mE c e e'
    | _ => false
  | .exp e, s => match s with
    | .Expr e' _ => noComp e' && mE c e e'
    | _ => false
  | .mk a b d, s => match s with
    | .Return (some (.Dict [some (.Constant (.str x) _ _), some (.Constant (.str y) _ _), some (.Constant (.str z) _ _)] [a', b', d'] _)) _ => decide (x = "mixed") && decide (y = "great") && decide (z = "turn") && mE c a a' && mE c b b' && mE c d d'
    | _ => false
  | .put a x e, s => match s with
    | .Assign [.Subscript a' (.Constant (.str y) _ _) _] v _ => decide (x = y) && noComp v && mE c a a' && mE c e v
    | _ => false
  | .obs a i e, s => match s with
    | .Assign [.Subscript a' i' _] v _ => noSlice i' && noComp v && mE c a a' && mE c i i' && mE c e v
    | _ => false
  | .ppar a x i e1 e2, s => match s with
    | .Assign [.Tuple [.Subscript a' (.Constant (.str y) j p1) p2, .Name z p3] _ _] (.Tuple [v1, v2] _ _) _ => decide (x = y) && decide (swCls c.sc [.Subscript a' (.Constant (.str y) j p1) p2, .Name z p3] [v1, v2] = some none) && noStar v1 && noStar v2 && locB c i z && mE c a a' && mE c e1 v1 && mE c e2 v2
    | _ => false
  | .dead, _ => true
  | .rais q x e, s => match s with
    | .Raise (some (.Call (.Name y _) [a] [] _)) none _ => decide (x = y) && glB c x && decide (c.xc x = some q) && decide (0 < q) && noStar a && mE c e a
    | _ => false
  | .tryc t e cs i j, s => match s with
    | .Try [b] [.ExceptHandler (some ce) (some n) [.Assign [.Name m _] (.Name n' _) _] _] [] [] _ => c.tr && tryB c cs ce n m n' i j && (match t, b with
      | none, .Expr e' _ => noComp e' && mE c e e'
      | some k, .Assign [.Name y py] e' _ => locB c k y && noComp e' && mE c e e'
      | _, _ => false)
    | _ => false
  | .told _ _ _ _ _, _ => false
def mSs (c : Cc) : Ss → List Stmt → Bool
  | .nil, ss => match ss with
    | [] => true
    | _ => false
  | .cons s r, ss => match ss with
    | s' :: r' => mS c s s' && mSs c r r'
    | _ => false
  | .frz _ r, ss => mSs c r ss
  | .melt _ r, ss => mSs c r ss
end

/-! ### their readings -/
def PoS (g : Gb) (b : Bs) (wx : WX) (o : Out) (F : Hp) (ρ : Rho) (Dn : Ends) : Prop := match o with
  | .nx fr st => ∀ F' ρ' σ' H', Same F F' → ρ <+: ρ' → Ab g b F' ρ' σ' H' fr st → Dn.nx σ' H'
  | .rt w st => ∀ F' ρ' H' v, Same F F' → ρ <+: ρ' → Ab g b F' ρ' [] H' [] st → WR g b F' ρ' H' [] [] w v → Dn.rt v H'
  | .exc c p fr st => ∀ F' ρ' σ' H' cls d, Same F F' → ρ <+: ρ' → Ab g b F' ρ' σ' H' fr st → XR g F' ρ' H' c p cls d → wx cls d σ' H'
  | .bad => False
def TX (g : Gb) (b : Bs) (wx : WX) (f : Fr → Sto → Out) : TS := fun Dn σ H => ∃ F ρ fr st, Ab g b F ρ σ H fr st ∧ PoS g b wx (f fr st) F ρ Dn
section
variable {g : Gb} {b : Bs} {wx : WX} {cf : Nat → List D → Sto → R W} {k : Nat} {X : Cx} {c : Cc} {F F' : Hp} {ρ ρ' : Rho} {σ : L2.St} {H H' : Hp} {fr : Fr} {st st' : Sto} {Q : VK} {Dn : Ends}
theorem PoS.mono {o : Out} (h : PoS g b wx o F ρ Dn) (e : Same F F') (q : ρ <+: ρ') : PoS g b wx o F' ρ' Dn := by
  cases o with
  | nx fr st => exact fun F2 ρ2 σ2 H2 s p => h F2 ρ2 σ2 H2 (e.trans s) (q.trans p)
  | rt w st => exact fun F2 ρ2 H2 v s p => h F2 ρ2 H2 v (e.trans s) (q.trans p)
  | exc c p fr st => exact fun F2 ρ2 σ2 H2 cls d s p => h F2 ρ2 σ2 H2 cls d (e.trans s) (q.trans p)
  | bad => exact h
/-- an expression, then the rest -/
theorem PoS.out {α β : Type} {Rl : Rel α β} {r : R α} {f : α → Sto → Out} {Q : β → Hp → Prop} (h : PoS g b wx (r.out fr f) F ρ Dn)
    (hk : ∀ a s1 F1 ρ1 H1 v, r = .ok a s1 → Same F F1 → ρ <+: ρ1 → Ab g b F1 ρ1 σ H1 fr s1 → Rl g b F1 ρ1 H1 σ fr a v → PoS g b wx (f a s1) F1 ρ1 Dn → Q v H1) : Po g b wx Rl r F ρ σ fr Q := by
  cases r with
  | ok a st => exact fun F2 ρ2 H2 v s p A rl => hk a st F2 ρ2 H2 v rfl s p A rl (PoS.mono (o := f a st) h s p)
  | exc c p st => exact fun F2 ρ2 H2 cls d s p A x => h F2 ρ2 σ H2 cls d s p A x
  | bad => exact h.elim
/-- the frame forgotten -/
theorem Ab.bare (A : Ab g b F ρ σ H fr st) : Ab g b F ρ [] H [] st :=
  ⟨A.sub, A.ext, A.new, A.rho, A.keep, A.fsh, A.sto, rfl, fun i d h => by simp at h, fun i d h => by simp at h, fun i j a xs ys h => by simp at h, fun q hq => by
    obtain ⟨h1, h2, h3, h4, h5⟩ := A.pin q hq
    exact ⟨h1, h2, h3, h4, fun i ys e => by simp at e⟩, A.tb⟩
theorem WR.bare {w : W} {v : V} (h : WR g b F ρ H σ fr w v) : WR g b F ρ H [] [] w v := by
  cases w with
  | dat d => exact h
  | own xs =>
    obtain ⟨a, vs, e, h1, h2, h3, h4, h5, h6, h7⟩ := h
    exact ⟨a, vs, e, h1, h2, h3, h4, h5, fun i ys e => by simp at e, h7⟩
/-- a new owned list in a slot -/
theorem Ab.setOwn (A : Ab g b F ρ σ H fr st) {i : Nat} {xs : List D} {v : V} (hi : i < fr.length) (r : WR g b F ρ H σ fr (.own xs) v) : Ab g b F ρ (σ.set i (some v)) H (fr.set i (.mut xs)) st := by
  have hs : i < σ.length := by rw [← A.len]; exact hi
  obtain ⟨a, vs, rfl, r1, r2, r3, r4, r5, r6, r7⟩ := r
  have inv : ∀ {j : Nat} {ys}, (fr.set i (.mut xs))[j]? = some (.mut ys) → (i = j ∧ ys = xs) ∨ (i ≠ j ∧ fr[j]? = some (.mut ys)) := fun {j ys} e => by
    by_cases z : i = j
    · subst z; rw [List.getElem?_set_self hi] at e; cases e; exact .inl ⟨rfl, rfl⟩
    · rw [List.getElem?_set_ne z] at e; exact .inr ⟨z, e⟩
  exact {
    sub := A.sub, ext := A.ext, new := A.new, rho := A.rho, keep := A.keep, fsh := A.fsh, sto := A.sto, tb := A.tb
    len := by rw [List.length_set, List.length_set]; exact A.len
    dat := fun j d' e => by
      by_cases z : i = j
      · subst z
        rw [List.getElem?_set_self hi] at e
        cases e
      · rw [List.getElem?_set_ne z] at e ⊢
        exact A.dat j d' e
    mu := fun j ys e => by
      rcases inv e with ⟨rfl, rfl⟩ | ⟨z, e⟩
      · exact ⟨a, vs, List.getElem?_set_self hs, r1, r2, r3, r4, r5⟩
      · rw [List.getElem?_set_ne z]
        exact A.mu j ys e
    apart := fun j l a' ys zs e1 e2 q1 q2 => by
      rcases inv e1 with ⟨z1, y1⟩ | ⟨z1, f1⟩
      · rcases inv e2 with ⟨z2, y2⟩ | ⟨z2, f2⟩
        · rw [← z1, ← z2]
        · rw [← z1, List.getElem?_set_self hs] at q1
          rw [List.getElem?_set_ne z2] at q2
          cases q1
          exact absurd q2 (r6 l zs f2)
      · rcases inv e2 with ⟨z2, y2⟩ | ⟨z2, f2⟩
        · rw [← z2, List.getElem?_set_self hs] at q2
          rw [List.getElem?_set_ne z1] at q1
          cases q2
          exact absurd q1 (r6 j ys f1)
        · rw [List.getElem?_set_ne z1] at q1
          rw [List.getElem?_set_ne z2] at q2
          exact A.apart j l a' ys zs f1 f2 q1 q2
    pin := fun q hq => by
      obtain ⟨h1, h2, h3, h4, h5⟩ := A.pin q hq
      refine ⟨h1, h2, h3, h4, fun j ys e z => ?_⟩
      rcases inv e with ⟨rfl, rfl⟩ | ⟨z', e⟩
      · rw [List.getElem?_set_self hs] at z
        cases z
        exact r7 q hq rfl
      · rw [List.getElem?_set_ne z'] at z
        exact h5 j ys e z }
/-- a list that a slot holds is changed -/
theorem Ab.change (A : Ab g b F ρ σ H fr st) {i : Nat} {xs ys : List D} {a : Addr} {us : List V} (hi : fr[i]? = some (.mut xs)) (ha : σ[i]? = some (some (.ref a))) (r : VRs g F ρ ys us) : Ab g b F ρ σ (upd H a (.lst us)) (fr.set i (.mut ys)) st := by
  have hl : i < fr.length := (List.getElem?_eq_some_iff.mp hi).1
  obtain ⟨a', vs, q1, q2, q3, q4, q5, q6⟩ := A.mu i xs hi
  rw [ha] at q1; cases q1
  have inv : ∀ {j : Nat} {zs}, (fr.set i (.mut ys))[j]? = some (.mut zs) → (i = j ∧ zs = ys) ∨ (i ≠ j ∧ fr[j]? = some (.mut zs)) := fun {j zs} e => by
    by_cases z : i = j
    · subst z; rw [List.getElem?_set_self hl] at e; cases e; exact .inl ⟨rfl, rfl⟩
    · rw [List.getElem?_set_ne z] at e; exact .inr ⟨z, e⟩
  have mu' : ∀ {j : Nat} {zs}, (fr.set i (.mut ys))[j]? = some (.mut zs) → ∃ zs', fr[j]? = some (.mut zs') := fun {j zs} e => by
    rcases inv e with ⟨rfl, _⟩ | ⟨_, e⟩
    · exact ⟨xs, hi⟩
    · exact ⟨zs, e⟩
  exact {
    sub := fun c o e => by
      rw [upd_ne (show c ≠ a from fun z => by subst z; rw [q4] at e; cases e)]
      exact A.sub _ _ e
    ext := A.ext, new := A.new, rho := A.rho
    keep := fun c o e m nt => by
      rw [upd_ne (show c ≠ a from fun z => by subst z; rw [q6] at e; cases e)]
      exact A.keep c o e m nt
    tb := A.tb.write q2 (nt_lst _) (fun _ z => by cases z)
    fsh := A.fsh
    sto := A.sto.of fun c hc => upd_ne fun z => q5 (z ▸ hc)
    len := by rw [List.length_set]; exact A.len
    dat := fun j d e => by
      by_cases z : i = j
      · subst z
        rw [List.getElem?_set_self hl] at e
        cases e
      · rw [List.getElem?_set_ne z] at e
        exact A.dat j d e
    mu := fun j zs e => by
      rcases inv e with ⟨rfl, rfl⟩ | ⟨z, e⟩
      · exact ⟨a, us, ha, upd_same, r, q4, q5, q6⟩
      · obtain ⟨c, ws, h1, h2, h3⟩ := A.mu j zs e
        refine ⟨c, ws, h1, ?_, h3⟩
        rw [upd_ne (show c ≠ a from fun y => by subst y; exact z (A.apart i j c xs zs hi e ha h1))]
        exact h2
    apart := fun j l c zs ws e1 e2 p1 p2 => by
      obtain ⟨z1, e1⟩ := mu' e1
      obtain ⟨z2, e2⟩ := mu' e2
      exact A.apart j l c z1 z2 e1 e2 p1 p2
    pin := fun q hq => by
      obtain ⟨h1, h2, h3, h4, h5⟩ := A.pin q hq
      refine ⟨?_, h2, h3, h4, fun j zs e => ?_⟩
      · rw [upd_ne (show q.1 ≠ a from fun z => h5 i xs hi (by rw [z]; exact ha))]
        exact h1
      · obtain ⟨z1, e1⟩ := mu' e
        exact h5 j z1 e1 }
/-- a slot's list becomes data -/
theorem Ab.freeze (A : Ab g b F ρ σ H fr st) {i : Nat} {xs : List D} (hi : fr[i]? = some (.mut xs)) : ∃ F', Same F F' ∧ Ab g b F' ρ σ H (fr.set i (.dat (.lst xs))) st := by
  have hl : i < fr.length := (List.getElem?_eq_some_iff.mp hi).1
  obtain ⟨a, vs, q1, q2, q3, q4, q5, q6⟩ := A.mu i xs hi
  have hs : i < σ.length := by rw [← A.len]; exact hl
  have B : Ab g b F ρ (σ.set i none) H (fr.set i .un) st := by
    have ne : ∀ {j : Nat} {q}, (fr.set i .un)[j]? = some q → q ≠ .un → i ≠ j ∧ fr[j]? = some q := fun {j q} e n => by
      by_cases z : i = j
      · subst z; rw [List.getElem?_set_self hl] at e; cases e; exact absurd rfl n
      · rw [List.getElem?_set_ne z] at e; exact ⟨z, e⟩
    exact {
      sub := A.sub, ext := A.ext, new := A.new, rho := A.rho, keep := A.keep, fsh := A.fsh, sto := A.sto, tb := A.tb
      len := by rw [List.length_set, List.length_set]; exact A.len
      dat := fun j d e => by
        obtain ⟨z, e⟩ := ne e (by intro q; cases q)
        rw [List.getElem?_set_ne z]; exact A.dat j d e
      mu := fun j d e => by
        obtain ⟨z, e⟩ := ne e (by intro q; cases q)
        rw [List.getElem?_set_ne z]; exact A.mu j d e
      apart := fun j l c zs ws e1 e2 p1 p2 => by
        obtain ⟨z1, e1⟩ := ne e1 (by intro q; cases q)
        obtain ⟨z2, e2⟩ := ne e2 (by intro q; cases q)
        rw [List.getElem?_set_ne z1] at p1
        rw [List.getElem?_set_ne z2] at p2
        exact A.apart j l c zs ws e1 e2 p1 p2
      pin := fun q hq => by
        obtain ⟨h1, h2, h3, h4, h5⟩ := A.pin q hq
        refine ⟨h1, h2, h3, h4, fun j zs e => ?_⟩
        obtain ⟨z, e⟩ := ne e (by intro q; cases q)
        rw [List.getElem?_set_ne z]
        exact h5 j zs e }
  have B2 := B.frzAt (o := .lst vs) (nt_lst _) q2 q4 q5 q6 (fun j ys e z => by
    by_cases y : i = j
    · subst y; rw [List.getElem?_set_self hl] at e; cases e
    · rw [List.getElem?_set_ne y] at e z
      exact y (A.apart i j a xs ys hi e q1 z)) (fun q hq z => by
    obtain ⟨h1, h2, h3, h4, h5⟩ := A.pin q hq
    exact h5 i xs hi (by rw [z]; exact q1))
  refine ⟨_, B2.2, ?_⟩
  have C := B2.1.set (i := i) (d := .lst xs) (v := .ref a) (by rw [List.length_set]; exact hl) (.lst upd_same (q3.mono B2.2 (pfx _)))
  rw [List.set_set, List.set_set] at C
  have es : σ.set i (some (.ref a)) = σ := by
    refine List.ext_getElem? fun j => ?_
    by_cases z : i = j
    · subst z; rw [List.getElem?_set_self hs, q1]
    · rw [List.getElem?_set_ne z]
  rw [es] at C
  exact C
end
end MP

set_option Elab.async false
set_option linter.all false
set_option maxRecDepth 100000
set_option maxHeartbeats 8000000
namespace MP
open PySem PySem.Spec L2
section
variable {g : Gb} {b : Bs} {wx : WX} {cf : Nat → List D → Sto → R W} {k : Nat} {X : Cx} {c : Cc} {F F' : Hp} {ρ ρ' : Rho} {σ : L2.St} {H H' : Hp} {fr : Fr} {st st' : Sto} {Q : VK} {Dn : Ends} {wf : Nat}
theorem TX.of {f : Fr → Sto → Out} (A : Ab g b F ρ σ H fr st) (p : PoS g b wx (f fr st) F ρ Dn) : TX g b wx f Dn σ H := ⟨F, ρ, fr, st, A, p⟩
theorem PoS.nxt (p : PoS g b wx (.nx fr st) F ρ Dn) (A : Ab g b F ρ σ H fr st) : Dn.nx σ H := p F ρ σ H (.refl _) (pfx _) A
theorem block_fn {sc : Scope} {env : PySem.Env} (h : env.scope = sc) (hk : sc.kind = .function) : env.blockKind = .function := by
  unfold Env.blockKind
  rw [h, hk]
  rfl
theorem swap_lc {sc : Scope} {env : PySem.Env} (h : env.scope = sc) (hk : sc.kind = .function) {t : Str} {tp pos : Pos} {elt : Expr} {gs : List Comprehension} {scope : Scope} {l : Nat} {r : Bool} (hr : swapC sc (.Name t tp) (.ListComp elt gs scope pos) = some r) :
    swapsWith (.ListComp elt gs scope pos) (some (.Name t tp)) l env = pure r := by
  simp only [swapC, Option.some.injEq] at hr
  unfold swapsWith
  simp only [block_fn h hk, Expr.pos]
  rw [← hr]
  have e : env.kindOf t = sc.names.lookup t := by rw [← h]; rfl
  rw [e]
  rfl
theorem sw_none {sc : Scope} {env : PySem.Env} (h : env.scope = sc) (hk : sc.kind = .function) {ts vs : List Expr} {k1 k2 : Nat} {p1 p2 : Pos} {r : Option (List Str)} (hr : swCls sc ts vs = some r) : swappedStores [.Tuple ts k1 p1] (.Tuple vs k2 p2) env = pure r := by
  have ek : ∀ id, env.kindOf id = sc.names.lookup id := fun id => by rw [← h]; rfl
  unfold swCls at hr
  unfold swappedStores
  simp only [ek, block_fn h hk]
  simp only [pure_bind, bne_self_eq_false, Bool.or_false]
  split at hr
  · rename_i c1
    cases hr
    rw [if_pos c1]
  · rename_i c1
    rw [if_neg c1]
    split at hr
    · rename_i c2
      cases hr
      exact if_pos c2
    · rename_i c2
      refine (if_neg c2).trans ?_
      dsimp only at hr
      split at hr
      · rename_i c3
        cases hr
        exact if_pos c3
      · rename_i c3
        refine (if_neg c3).trans ?_
        split at hr
        · rename_i c4
          cases hr
          exact if_pos c4
        · rename_i c4
          refine (if_neg c4).trans ?_
          split at hr
          · cases hr
          · rename_i c5
            cases hr
            exact if_neg c5
theorem get_list {X : Cx} : PGet X (rIxL X.K) := by
  intro pins s σ H x y v u Q I rx ry h
  obtain ⟨p, xs, i, z, rfl, rfl, hq, he, q⟩ := h
  cases rx
  obtain ⟨t, rfl⟩ := ry
  obtain ⟨its, r, pl, hz⟩ := I.list hq
  obtain ⟨j, h1, h2, h3, h4, h5⟩ := atI_get he
  obtain ⟨w, ew, rw'⟩ := r.get h2
  have hl := r.length
  have hn := line63
  have fin : EP X pins σ Q w s := ⟨z, H, I, rw', q⟩
  by_cases h0 : 0 ≤ i
  · have hj : i.toNat = j := Option.some.inj ((seqIndex_of h0 h5).symm.trans h1)
    exact wpAny_getItem_list pl.isList h0 (by omega) (by rw [hj]; simpa using ew) fin
  · have hj : (i + (its.toArray.size : Int)).toNat = j := by
      have h6 := (seqIndex_neg (by omega) h4).symm.trans h1
      rw [List.size_toArray, ← hl]
      exact Option.some.inj h6
    exact wpAny_getItem_list_neg pl.isList (by omega) (by rw [List.size_toArray] <;> omega) (by omega) (by rw [hj]; simpa using ew) fin
/-- how a value is stored -/
theorem swap_false {tg v : Expr} {l : Nat} (Y : Cy g wx cf k X c) (h : swapC c.sc tg v = some false) : swapsWithSole [tg] v l X.env = pure false := by
  show swapsWith v (some tg) l X.env = pure false
  cases v <;> first | rfl | skip
  · cases tg <;> first | rfl | exact swap_lc Y.hsc Y.kind h
  · cases tg <;> cases h
  · cases tg <;> cases h
theorem asg_none {tg v : Expr} (Y : Cy g wx cf k X c) (h : asgOk c.sc tg v = true) : swappedStores [tg] v X.env = pure none := by
  cases tg <;> cases v <;> first | rfl | (cases h; done) | skip
  exact sw_none Y.hsc Y.kind (of_decide_eq_true h)
theorem s_asg (Y : Cy g wx cf k X c) {G : G} {e : E} {tg v : Expr} {pos : Pos} (hG : PG X tg (TGt g b G)) (hE : PE X v (T g b wx DR (ev cf e))) (h1 : asgOk c.sc tg v = true) (h2 : noStar tg = true) (h3 : swapC c.sc tg v = some false) :
    PS X (.Assign [tg] v pos) (TX g b wx (ex cf wf (.asg G e))) := PS.by fun D σ H q' => by
  obtain ⟨F, ρ, fr, st, A, p⟩ := q'
  simp only [ex] at p
  refine ⟨_, ps_asg hE hG (swap_false Y h3) (asg_none Y h1) (by rw [each_cons h2]; rfl), F, ρ, fr, st, A, p.out fun w s1 F1 ρ1 H1 v _ _ _ A1 rv p1 => ?_⟩
  cases e : putG G w.d fr with
  | none => rw [e] at p1; exact p1.elim
  | some fr' =>
    rw [e] at p1
    exact ⟨F1, ρ1, fr, s1, w.d, fr', A1, rv, e, fun σ' A' _ => p1.nxt A'⟩
theorem s_own (Y : Cy g wx cf k X c) {i : Nat} {e : E} {x : Str} {px pos : Pos} {v : Expr} (hl : locB c i x = true) (hE : PE X v (T g b wx WR (ev cf e))) (h3 : swapC c.sc (.Name x px) v = some false) :
    PS X (.Assign [.Name x px] v pos) (TX g b wx (ex cf wf (.own i e))) := PS.by fun D σ H q' => by
  obtain ⟨F, ρ, fr, st, A, p⟩ := q'
  obtain ⟨l1, l2, l3⟩ := Y.loc hl
  simp only [ex] at p
  refine ⟨_, ps_asg hE (pg_name Y.G.nd l1 l2 l3) (swap_false Y h3) (by cases v <;> rfl) rfl, F, ρ, fr, st, A, p.out fun w s1 F1 ρ1 H1 v _ _ _ A1 rv p1 => ?_⟩
  cases w with
  | dat d => exact p1.elim
  | own xs =>
    simp only at p1
    split at p1
    · rename_i hi
      exact p1.nxt (A1.setOwn hi rv)
    · exact p1.elim
/-- .. of a comprehension on one line -/
theorem s_asgLc {i : Nat} {e : E} {t : Stmt} (h : PS X t (tAsg (T g b wx WR (ev cf e)) (gName i))) : PS X t (TX g b wx (ex cf wf (.asg (.nm i) e))) := PS.by fun D σ H q' => by
  obtain ⟨F, ρ, fr, st, A, p⟩ := q'
  simp only [ex] at p
  refine ⟨_, h, F, ρ, fr, st, A, p.out fun w s1 F1 ρ1 H1 v _ _ _ A1 rv p1 => ?_⟩
  obtain ⟨F2, S2, A2, rv2⟩ := rv.frz A1
  simp only [putG] at p1
  split at p1
  · rename_i e'
    split at e'
    · rename_i hi
      cases e'
      exact (p1.mono S2 (pfx _)).nxt (A2.set hi rv2)
    · cases e'
  · exact p1.elim
theorem s_ownLc {i : Nat} {e : E} {t : Stmt} (h : PS X t (tAsg (T g b wx WR (ev cf e)) (gName i))) : PS X t (TX g b wx (ex cf wf (.own i e))) := PS.by fun D σ H q' => by
  obtain ⟨F, ρ, fr, st, A, p⟩ := q'
  simp only [ex] at p
  refine ⟨_, h, F, ρ, fr, st, A, p.out fun w s1 F1 ρ1 H1 v _ _ _ A1 rv p1 => ?_⟩
  cases w with
  | dat d => exact p1.elim
  | own xs =>
    simp only at p1
    split at p1
    · rename_i hi
      exact p1.nxt (A1.setOwn hi rv)
    · exact p1.elim
theorem noComp_swap {v : Expr} {t : Option Expr} {l : Nat} {env : PySem.Env} (h : noComp v = true) : swapsWith v t l env = pure false := by
  cases v <;> first | rfl | cases h
theorem noComp_sole {tg v : Expr} {l : Nat} {env : PySem.Env} (h : noComp v = true) : swapsWithSole [tg] v l env = pure false := by
  show swapsWith v (some tg) l env = pure false
  exact noComp_swap h
theorem s_setm (Y : Cy g wx cf k X c) {i : Nat} {q e : E} {x : Str} {px pq pos : Pos} {q' v : Expr} (hx : visB c i x = true) (hs : noSlice q' = true) (hn : noComp v = true) (hQ : PE X q' (T g b wx DR (ev cf q))) (hE : PE X v (T g b wx DR (ev cf e))) :
    PS X (.Assign [.Subscript (.Name x px) q' pq] v pos) (TX g b wx (ex cf wf (.setm i q e))) := PS.by fun D σ H q'' => by
  obtain ⟨F, ρ, fr, st, A, p⟩ := q''
  obtain ⟨h1, h2, h3, h4⟩ := Y.vis hx
  simp only [ex] at p
  refine ⟨_, ps_asg hE (pg_sub (pe_var h1 h2 h3 h4) hQ set_list (by intro v; cases q' <;> first | rfl | cases hs)) (noComp_sole hn) (by cases v <;> rfl) (by cases q' <;> first | rfl | cases hs), ?_⟩
  cases e0 : getM fr i with
  | none => rw [e0] at p; exact p.elim
  | some xs =>
    rw [e0] at p
    refine ⟨F, ρ, fr, st, A, PoS.out p fun w s1 F1 ρ1 H1 v _ _ _ A1 rv p1 => ?_⟩
    obtain ⟨a, vs, q1, q2, q3, _⟩ := A1.mu i xs (getM_some e0)
    refine ⟨.ref a, q1, F1, ρ1, fr, s1, A1, PoS.out p1 fun w2 s2 F2 ρ2 H2 u _ S2 P2 A2 ru p2 => ?_⟩
    split at p2
    · rename_i n en
      have ru' : VR g F2 ρ2 w2.d u := ru
      rw [en] at ru'
      have eu := ru'.intI
      subst eu
      obtain ⟨a2, vs2, q1', q2', q3', _⟩ := A2.mu i xs (getM_some e0)
      rw [q1] at q1'; cases q1'
      cases ej : ixD xs.length n with
      | none => rw [ej] at p2; exact p2.elim
      | some j =>
        rw [ej] at p2
        refine ⟨a, vs2, n, j, rfl, rfl, q2', by rw [← q3'.length]; exact ej, ?_⟩
        exact p2.nxt (A2.change (getM_some e0) q1 (q3'.set j (VR.mono S2 P2 rv)))
    · exact p2.elim
theorem aug_ok {o : Bop} {z d r : D} {v u : V} (e : augD o z d = some r) (rz : VR g F ρ z v) (rd : VR g F ρ d u) {Q : VK} (q : ∀ w, VR g F ρ r w → Q w H) : ∃ t, PIp X (opOf o) t ∧ t v u H Q := by
  unfold augD at e
  split at e
  · cases e; cases rz; cases rd
    exact ⟨_, ip_add, _, _, rfl, rfl, q _ (.int _)⟩
  · cases e; cases rz; cases rd
    exact ⟨_, ip_sub, _, _, rfl, rfl, q _ (.int _)⟩
  · cases e
theorem ipAny {o : Operator} : PIp X o (fun v u H Q => ∃ t, PIp X o t ∧ t v u H Q) := fun pins s σ H x y v u Q I rx ry ⟨t, h1, h2⟩ => h1 pins s σ H x y v u Q I rx ry h2
theorem s_augm (Y : Cy g wx cf k X c) {i : Nat} {o : Bop} {q e : E} {x : Str} {px pq pos : Pos} {q' v : Expr} (hx : visB c i x = true) (hs : noSlice q' = true) (hQ : PE X q' (T g b wx DR (ev cf q))) (hE : PE X v (T g b wx DR (ev cf e))) :
    PS X (.AugAssign (.Subscript (.Name x px) q' pq) (opOf o) v pos) (TX g b wx (ex cf wf (.augm i o q e))) := PS.by fun D σ H q'' => by
  obtain ⟨F, ρ, fr, st, A, p⟩ := q''
  obtain ⟨h1, h2, h3, h4⟩ := Y.vis hx
  simp only [ex] at p
  refine ⟨_, ps_augS (pe_var h1 h2 h3 h4) hQ get_list hE ipAny set_list (by intros; cases q' <;> first | rfl | cases hs), ?_⟩
  cases e0 : getM fr i with
  | none => rw [e0] at p; exact p.elim
  | some xs =>
    rw [e0] at p
    obtain ⟨a, vs, q1, q2, q3, _⟩ := A.mu i xs (getM_some e0)
    refine ⟨.ref a, q1, F, ρ, fr, st, A, PoS.out p fun w s1 F1 ρ1 H1 u _ _ _ A1 ru p1 => ?_⟩
    split at p1
    · rename_i n en
      have ru' : VR g F1 ρ1 w.d u := ru
      rw [en] at ru'
      have eu := ru'.intI
      subst eu
      obtain ⟨a1, vs1, q11, q12, q13, _⟩ := A1.mu i xs (getM_some e0)
      rw [q1] at q11; cases q11
      cases ej : ixD xs.length n with
      | none => rw [ej] at p1; exact p1.elim
      | some j =>
        rw [ej] at p1
        simp only at p1
        cases ez : xs[j]? with
        | none => rw [ez] at p1; exact p1.elim
        | some z =>
          rw [ez] at p1
          simp only at p1
          have eat : atD xs n = some z := by unfold atD; rw [ej]; exact ez
          obtain ⟨zv, z1, z2⟩ := atD_ok q13 eat
          refine ⟨a, vs1, n, zv, rfl, rfl, .inl (.inl q12), z1, F1, ρ1, fr, s1, A1, PoS.out p1 fun w2 s2 F2 ρ2 H2 u2 _ S2 P2 A2 ru2 p2 => ?_⟩
          cases eq : augD o z w2.d with
          | none => rw [eq] at p2; exact p2.elim
          | some r =>
            rw [eq] at p2
            refine aug_ok eq (VR.mono S2 P2 z2) ru2 fun y ry => ?_
            obtain ⟨a2, vs2, q21, q22, q23, _⟩ := A2.mu i xs (getM_some e0)
            rw [q1] at q21; cases q21
            refine ⟨a, vs2, n, j, rfl, rfl, q22, by rw [← q23.length]; exact ej, ?_⟩
            exact p2.nxt (A2.change (getM_some e0) q1 (q23.set j ry))
    · exact p1.elim
theorem few_one {v : Expr} {cp : Pos} {env : PySem.Env} (h : noStar v = true) : ((backTo cp (starEach [v] env)).all (fun x => !x.1) && (backToKw cp (keywordEach [] env)).all (fun x => x.1.isSome) && decide ([v].length + ([] : List Keyword).length + (if ([] : List Keyword).isEmpty then 0 else 1) < 30)) = true := by
  rw [noStar_cons h]
  rfl
theorem s_appm (Y : Cy g wx cf k X c) {i : Nat} {e : E} {x m : Str} {px ap cp pos : Pos} {v : Expr} (hx : visB c i x = true) (hm : m = "append") (hl : (ap.endLine == cp.line) = true) (hs : noStar v = true) (hE : PE X v (T g b wx DR (ev cf e))) :
    PS X (.Expr (.Call (.Attribute (.Name x px) m ap) [v] [] cp) pos) (TX g b wx (ex cf wf (.appm i e))) := PS.by fun D σ H q'' => by
  obtain ⟨F, ρ, fr, st, A, p⟩ := q''
  obtain ⟨h1, h2, h3, h4⟩ := Y.vis hx
  subst hm
  simp only [ex] at p
  refine ⟨_, ps_expr (pe_bm PySem.F.plainAttrs_list PySem.F.slot_list_append PySem.F.type_list_append mt_append (pe_var h1 h2 h3 h4) (pa_cons hE pa_nil (noStar_cons hs _)) rfl (few_one hs) hl (noStar_cons hs _)), ?_⟩
  cases e0 : getM fr i with
  | none => rw [e0] at p; exact p.elim
  | some xs =>
    rw [e0] at p
    obtain ⟨a, vs, q1, q2, q3, _⟩ := A.mu i xs (getM_some e0)
    refine ⟨.ref a, q1, .inl ⟨rfl, vs, .inl (.inl q2)⟩, F, ρ, fr, st, A, PoS.out p fun w s1 F1 ρ1 H1 u _ _ _ A1 ru p1 => ?_⟩
    split at p1
    · rename_i hz
      obtain ⟨a1, vs1, q11, q12, q13, _⟩ := A1.mu i xs (getM_some e0)
      rw [q1] at q11; cases q11
      exact ⟨a, vs1, u, rfl, rfl, q12, by rw [← q13.length]; exact hz, p1.nxt (A1.change (getM_some e0) q1 (q13.append (.one ru)))⟩
    · exact p1.elim
theorem s_extm (Y : Cy g wx cf k X c) {i : Nat} {e : E} {x m : Str} {px ap cp pos : Pos} {v : Expr} (hx : visB c i x = true) (hm : m = "extend") (hl : (ap.endLine == cp.line) = true) (hs : noStar v = true) (hE : PE X v (T g b wx DR (ev cf e))) :
    PS X (.Expr (.Call (.Attribute (.Name x px) m ap) [v] [] cp) pos) (TX g b wx (ex cf wf (.extm i e))) := PS.by fun D σ H q'' => by
  obtain ⟨F, ρ, fr, st, A, p⟩ := q''
  obtain ⟨h1, h2, h3, h4⟩ := Y.vis hx
  subst hm
  simp only [ex] at p
  refine ⟨_, ps_expr (pe_bm PySem.F.plainAttrs_list PySem.F.slot_list_extend PySem.F.type_list_extend mt_extend (pe_var h1 h2 h3 h4) (pa_cons hE pa_nil (noStar_cons hs _)) rfl (few_one hs) hl (noStar_cons hs _)), ?_⟩
  cases e0 : getM fr i with
  | none => rw [e0] at p; exact p.elim
  | some xs =>
    rw [e0] at p
    obtain ⟨a, vs, q1, q2, q3, _⟩ := A.mu i xs (getM_some e0)
    refine ⟨.ref a, q1, .inl ⟨rfl, vs, .inl (.inl q2)⟩, F, ρ, fr, st, A, PoS.out p fun w s1 F1 ρ1 H1 u _ _ _ A1 ru p1 => ?_⟩
    split at p1
    · rename_i ys ed
      have ru' : VR g F1 ρ1 w.d u := ru
      rw [ed] at ru'
      obtain ⟨a', us, rfl, b1, b2⟩ := ru'.lstI
      split at p1
      · rename_i hz
        obtain ⟨a1, vs1, q11, q12, q13, _⟩ := A1.mu i xs (getM_some e0)
        rw [q1] at q11; cases q11
        exact ⟨a, a', vs1, us, rfl, rfl, q12, A1.sub _ _ b1, by rw [← q13.length, ← b2.length]; exact hz, p1.nxt (A1.change (getM_some e0) q1 (q13.append b2))⟩
      · exact p1.elim
    · exact p1.elim
theorem s_ret {e : E} {v : Expr} {pos : Pos} (hE : PE X v (T g b wx WR (ev cf e))) : PS X (.Return (some v) pos) (TX g b wx (ex cf wf (.ret e))) := PS.by fun D σ H q'' => by
  obtain ⟨F, ρ, fr, st, A, p⟩ := q''
  simp only [ex] at p
  refine ⟨_, ps_ret hE, F, ρ, fr, st, A, PoS.out p fun w s1 F1 ρ1 H1 v _ _ _ A1 rv p1 => ?_⟩
  exact p1 F1 ρ1 H1 v (.refl _) (pfx _) A1.bare rv.bare
theorem s_exp {e : E} {v : Expr} {pos : Pos} (hn : noComp v = true) (hE : PE X v (T g b wx DR (ev cf e))) : PS X (.Expr v pos) (TX g b wx (ex cf wf (.exp e))) := PS.by fun D σ H q'' => by
  obtain ⟨F, ρ, fr, st, A, p⟩ := q''
  simp only [ex] at p
  exact ⟨_, ps_expr hE (noComp_swap hn), F, ρ, fr, st, A, PoS.out p fun w s1 F1 ρ1 H1 v _ _ _ A1 rv p1 => p1.nxt A1⟩
theorem s_if {t : E} {a b' : Ss} {t' : Expr} {a' b'' : List Stmt} {pos : Pos} (hT : PT X t' (T g b wx BR (evB cf t))) (ha : PSs X a' (TX g b wx (exs cf wf a))) (hb : PSs X b'' (TX g b wx (exs cf wf b'))) : PS X (.If t' a' b'' pos) (TX g b wx (ex cf wf (.ife t a b'))) := PS.by fun D σ H q'' => by
  obtain ⟨F, ρ, fr, st, A, p⟩ := q''
  have e : ex cf wf (.ife t a b') fr st = (evB cf t fr st).out fr fun k s1 => if k then exs cf wf a fr s1 else exs cf wf b' fr s1 := by
    simp only [ex, evB]
    cases ev cf t fr st with
    | ok w s =>
      simp only [R.out, R.bind, tb]
      cases w.d <;> first | rfl | skip
      rename_i q
      cases q <;> rfl
    | exc _ _ _ => rfl
    | bad => rfl
  rw [e] at p
  refine ⟨_, ps_if hT ha hb, F, ρ, fr, st, A, PoS.out p fun w s1 F1 ρ1 H1 v _ _ _ A1 rv p1 => ?_⟩
  cases rv
  cases w with
  | true => rw [if_pos rfl] at p1 ⊢; exact .of A1 p1
  | false => rw [if_neg Bool.false_ne_true] at p1 ⊢; exact .of A1 p1
/-- one statement, then the others -/
theorem PoS.andThen {o : Out} {f : Fr → Sto → Out} (h : PoS g b wx (o.andThen f) F ρ Dn) : PoS g b wx o F ρ { Dn with nx := fun σ' H' => ∃ F' ρ' fr' st', Same F F' ∧ ρ <+: ρ' ∧ Ab g b F' ρ' σ' H' fr' st' ∧ PoS g b wx (f fr' st') F' ρ' Dn } := by
  cases o with
  | nx fr st => exact fun F' ρ' σ' H' S P A => ⟨F', ρ', fr, st, S, P, A, PoS.mono (o := f fr st) h S P⟩
  | rt w st => exact h
  | exc c p fr st => exact h
  | bad => exact h
theorem ends_imp {D D' : Ends} (h : PoS g b wx (.nx fr st) F ρ D) (hn : ∀ σ H, D.nx σ H → D'.nx σ H) : PoS g b wx (.nx fr st) F ρ D' := fun F' ρ' σ' H' S P A => hn _ _ (h F' ρ' σ' H' S P A)
theorem s_cons {s : S} {r : Ss} {s' : Stmt} {r' : List Stmt} (hs : PS X s' (TX g b wx (ex cf wf s))) (hr : PSs X r' (TX g b wx (exs cf wf r))) : PSs X (s' :: r') (TX g b wx (exs cf wf (.cons s r))) := PSs.by fun D σ H q'' => by
  obtain ⟨F, ρ, fr, st, A, p⟩ := q''
  simp only [exs] at p
  refine ⟨_, pss_cons hs hr, F, ρ, fr, st, A, ?_⟩
  have q := PoS.andThen p
  revert q
  cases ex cf wf s fr st with
  | nx fr' st' =>
    intro q
    exact fun F' ρ' σ' H' S P A' => by
      obtain ⟨F2, ρ2, fr2, st2, S2, P2, A2, p2⟩ := q F' ρ' σ' H' S P A'
      exact .of A2 p2
  | rt w st' => intro q; exact q
  | exc c' p' fr' st' => intro q; exact q
  | bad => intro q; exact q
theorem s_nil : PSs X [] (TX g b wx (exs cf wf .nil)) := PSs.by fun D σ H q'' => by
  obtain ⟨F, ρ, fr, st, A, p⟩ := q''
  exact ⟨_, pss_nil, PoS.nxt p A⟩
theorem s_frz {i : Nat} {r : Ss} {ss : List Stmt} (h : PSs X ss (TX g b wx (exs cf wf r))) : PSs X ss (TX g b wx (exs cf wf (.frz i r))) := PSs.by fun D σ H q'' => by
  obtain ⟨F, ρ, fr, st, A, p⟩ := q''
  simp only [exs] at p
  refine ⟨_, h, ?_⟩
  cases e : getM fr i with
  | none => rw [e] at p; exact p.elim
  | some xs =>
    rw [e] at p
    obtain ⟨F2, S2, A2⟩ := A.freeze (getM_some e)
    exact ⟨F2, ρ, _, st, A2, PoS.mono p S2 (pfx _)⟩
theorem s_for (Y : Cy g wx cf k X c) {G : G} {it : It} {bd : Ss} {tg iter : Expr} {bd' : List Stmt} {pos : Pos} (hk : keepOf it = []) (hs : noSet iter = true) (hI : PI X tg iter (TW g b wx (evI cf it) (keepOf it))) (hG : PG X tg (TGt g b G)) (hB : PSs X bd' (TX g b wx (exs cf wf bd))) :
    PS X (.For tg iter bd' [] pos) (TX g b wx (ex cf wf (.for_ G it bd))) := PS.by fun D σ H q'' => by
  obtain ⟨F, ρ, fr, st, A, p⟩ := q''
  rw [hk] at hI
  simp only [ex] at p
  refine ⟨_, ps_for Y.G.own Y.G.calm hI hG hB (set_fold hs _), F, ρ, fr, st, A, PoS.out p fun ds s1 F1 ρ1 H1 J _ S P A1 wk p1 => ?_⟩
  have wk : Walks g b σ fr F1 ρ1 J ds [] := wk
  generalize hbody : (fun x env s2 => match putG G x env with | some env' => exs cf wf bd env' s2 | none => Out.bad) = body at p1
  refine ⟨fun i m σ2 H2 => m = ds.length - i ∧ i ≤ ds.length ∧ ∃ F2 ρ2 fr2 st2, Same F1 F2 ∧ ρ1 <+: ρ2 ∧ Ab g b F2 ρ2 σ2 H2 fr2 st2 ∧ PoS g b wx (forL body (ds.drop i) fr2 st2) F2 ρ2 D, ⟨_, rfl, Nat.zero_le _, F1, ρ1, fr, s1, .refl _, pfx _, A1, p1⟩, ?_⟩
  rintro i m σ2 H2 ⟨rfl, hi, F2, ρ2, fr2, st2, S2, P2, A2, p2⟩
  by_cases hlt : i < ds.length
  · refine .inr ⟨wk.go i b.P F2 ρ2 σ2 H2 fr2 st2 hlt S2 P2 A2 (fun m hm => by simp at hm), fun σ3 H3 => ∃ F3 ρ3 fr3 st3, Same F1 F3 ∧ ρ1 <+: ρ3 ∧ Ab g b F3 ρ3 σ3 H3 fr3 st3 ∧ PoS g b wx (forL body (ds.drop (i + 1)) fr3 st3) F3 ρ3 D, fun σ3 H3 h3 => ⟨_, by omega, rfl, hlt, h3⟩, fun x H3 y => ?_⟩
    obtain ⟨d, F3, ed, S3, A3, rd⟩ := wk.yld i b.P F2 ρ2 σ2 H2 fr2 st2 x H3 hlt S2 P2 A2 (fun m hm => by simp at hm) y
    have edrop : ds.drop i = d :: ds.drop (i + 1) := by
      obtain ⟨h1, h2⟩ := List.getElem?_eq_some_iff.mp ed
      rw [← h2]
      exact List.drop_eq_getElem_cons hlt
    rw [edrop] at p2
    simp only [forL] at p2
    rw [show body d fr2 st2 = match putG G d fr2 with | some env' => exs cf wf bd env' st2 | none => Out.bad from by rw [← hbody]] at p2
    cases eg : putG G d fr2 with
    | none => rw [eg] at p2; exact p2.elim
    | some fr' =>
      rw [eg] at p2
      simp only at p2
      refine ⟨F3, ρ2, fr2, st2, d, fr', A3, rd, eg, fun σ' A4 ag => ⟨F3, ρ2, fr', st2, A4, ?_⟩⟩
      have q := PoS.andThen (p2.mono S3 (pfx _))
      revert q
      cases exs cf wf bd fr' st2 with
      | nx fr5 st5 =>
        intro q
        exact fun F' ρ' σ5 H5 S5 P5 A5 => by
          obtain ⟨F6, ρ6, fr6, st6, S6, P6, A6, p6⟩ := q F' ρ' σ5 H5 S5 P5 A5
          exact ⟨F6, ρ6, fr6, st6, (S2.trans S3).trans S6, P2.trans P6, A6, p6⟩
      | rt w st' => intro q; exact q
      | exc c' p' fr' st' => intro q; exact q
      | bad => intro q; exact q
  · have ei : i = ds.length := by omega
    subst ei
    rw [List.drop_length] at p2
    exact .inl ⟨wk.stop _ b.P F2 ρ2 σ2 H2 fr2 st2 rfl S2 P2 A2 (fun m hm => by simp at hm), PoS.nxt p2 A2⟩
theorem s_while (Y : Cy g wx cf k X c) {t : E} {bd : Ss} {t' : Expr} {bd' : List Stmt} {pos : Pos} (hT : PT X t' (T g b wx BR (evB cf t))) (hB : PSs X bd' (TX g b wx (exs cf wf bd))) : PS X (.While t' bd' [] pos) (TX g b wx (ex cf wf (.whl t bd))) := PS.by fun D σ H q'' => by
  obtain ⟨F, ρ, fr, st, A, p⟩ := q''
  simp only [ex] at p
  have p : PoS g b wx (whileL (evB cf t) (exs cf wf bd) wf fr st) F ρ D := p
  refine ⟨_, ps_while Y.G.own hT hB, fun m σ2 H2 => ∃ F2 ρ2 fr2 st2, Ab g b F2 ρ2 σ2 H2 fr2 st2 ∧ PoS g b wx (whileL (evB cf t) (exs cf wf bd) m fr2 st2) F2 ρ2 D, ⟨wf, F, ρ, fr, st, A, p⟩, ?_⟩
  rintro m σ2 H2 ⟨F2, ρ2, fr2, st2, A2, p2⟩
  cases m with
  | zero => exact p2.elim
  | succ m =>
    simp only [whileL] at p2
    refine ⟨F2, ρ2, fr2, st2, A2, PoS.out p2 fun q s1 F3 ρ3 H3 v _ S3 P3 A3 rv p3 => ?_⟩
    cases rv
    cases q with
    | true =>
      rw [if_pos rfl] at p3 ⊢
      refine ⟨fun σ5 H5 => ∃ F5 ρ5 fr5 st5, Ab g b F5 ρ5 σ5 H5 fr5 st5 ∧ PoS g b wx (whileL (evB cf t) (exs cf wf bd) m fr5 st5) F5 ρ5 D, fun σ5 H5 h5 => ⟨m, by omega, h5⟩, F3, ρ3, fr2, s1, A3, ?_⟩
      have q := PoS.andThen p3
      revert q
      cases exs cf wf bd fr2 s1 with
      | nx fr5 st5 =>
        intro q
        exact fun F' ρ' σ5 H5 S5 P5 A5 => by
          obtain ⟨F6, ρ6, fr6, st6, S6, P6, A6, p6⟩ := q F' ρ' σ5 H5 S5 P5 A5
          exact ⟨F6, ρ6, fr6, st6, A6, p6⟩
      | rt w st' => intro q; exact q
      | exc c' p' fr' st' => intro q; exact q
      | bad => intro q; exact q
    | false =>
      rw [if_neg Bool.false_ne_true] at p3 ⊢
      exact p3.nxt A3

/-! ### several at once -/
def put1 (o : Bool) (i : Nat) (w : W) (fr : Fr) : Option Fr := if i < fr.length then (match o, w with
  | false, w => some (fr.set i (.dat w.d))
  | true, .own xs => some (fr.set i (.mut xs))
  | true, .dat _ => none) else none
def isOwn : W → Bool
  | .own _ => true
  | _ => false
theorem putP_cons (o : Bool) (i : Nat) (r : List (Bool × Nat)) (w : W) (ws : List W) (fr : Fr) : putP ((o, i) :: r) (w :: ws) fr = (put1 o i w fr).bind fun f => putP r ws f := by
  cases o <;> cases w <;> simp only [putP, put1] <;> split <;> rfl
theorem WR.mono {w : W} {v : V} (A : Ab g b F ρ σ H fr st) (h : WR g b F ρ H σ fr w v) (hw : isOwn w = false) (S : Same F F') (P : ρ <+: ρ') {H' : Hp} {σ' : L2.St} {fr' : Fr} : WR g b F' ρ' H' σ' fr' w v := by
  cases w with
  | dat d => exact VR.mono S P h
  | own xs => cases hw
theorem step1 {o : Bool} {i : Nat} {w : W} {fr' : Fr} {v : V} (A : Ab g b F ρ σ H fr st) (h : WR g b F ρ H σ fr w v) (e : put1 o i w fr = some fr') :
    ∃ F', Same F F' ∧ Ab g b F' ρ (σ.set i (some v)) H fr' st ∧ ∀ w2 v2, WR g b F ρ H σ fr w2 v2 → (isOwn w = true → isOwn w2 = true → v ≠ v2) → WR g b F' ρ H (σ.set i (some v)) fr' w2 v2 := by
  unfold put1 at e
  split at e
  · rename_i hi
    have hs : i < σ.length := by rw [← A.len]; exact hi
    cases o with
    | false =>
      simp only [Option.some.injEq] at e
      subst e
      cases w with
      | dat d =>
        refine ⟨F, .refl _, A.set hi h, fun w2 v2 h2 _ => ?_⟩
        cases w2 with
        | dat d2 => exact h2
        | own ys =>
          obtain ⟨a, vs, rfl, r1, r2, r3, r4, r5, r6, r7⟩ := h2
          refine ⟨a, vs, rfl, r1, r2, r3, r4, r5, fun j zs e => ?_, r7⟩
          by_cases z : i = j
          · subst z; rw [List.getElem?_set_self hi] at e; cases e
          · rw [List.getElem?_set_ne z] at e ⊢; exact r6 j zs e
      | own xs =>
        obtain ⟨a0, vs0, rfl, q1, q2, q3, q4, q5, q6, q7⟩ := h
        obtain ⟨A', S'⟩ := A.frzAt (nt_lst _) q1 q3 q4 q5 q6 q7
        refine ⟨_, S', A'.set hi (.lst upd_same (q2.mono S' (pfx _))), fun w2 v2 h2 ne => ?_⟩
        cases w2 with
        | dat d2 => exact VR.mono S' (pfx _) h2
        | own ys =>
          obtain ⟨a, vs, rfl, r1, r2, r3, r4, r5, r6, r7⟩ := h2
          refine ⟨a, vs, rfl, r1, r2.mono S' (pfx _), ?_, r4, r5, fun j zs e => ?_, r7⟩
          · rw [upd_ne (show a ≠ a0 from fun z => ne rfl rfl (by rw [z]))]; exact r3
          · by_cases z : i = j
            · subst z; rw [List.getElem?_set_self hi] at e; cases e
            · rw [List.getElem?_set_ne z] at e ⊢; exact r6 j zs e
    | true =>
      cases w with
      | dat d => cases e
      | own xs =>
        simp only [Option.some.injEq] at e
        subst e
        refine ⟨F, .refl _, A.setOwn hi h, fun w2 v2 h2 ne => ?_⟩
        cases w2 with
        | dat d2 => exact h2
        | own ys =>
          obtain ⟨a, vs, rfl, r1, r2, r3, r4, r5, r6, r7⟩ := h2
          refine ⟨a, vs, rfl, r1, r2, r3, r4, r5, fun j zs e => ?_, r7⟩
          by_cases z : i = j
          · subst z
            rw [List.getElem?_set_self hs]
            intro y
            cases y
            exact ne rfl rfl rfl
          · rw [List.getElem?_set_ne z] at e ⊢; exact r6 j zs e
  · cases e
/-- a result is held while the next part runs -/
theorem hold {w : W} {v : V} (A : Ab g b F ρ σ H fr st) (h : WR g b F ρ H σ fr w v) : ∃ b', Ab g b' F ρ σ H fr st ∧
    ∀ F2 ρ2 H2 s2, Same F F2 → ρ <+: ρ2 → Ab g b' F2 ρ2 σ H2 fr s2 → Ab g b F2 ρ2 σ H2 fr s2 ∧ WR g b F2 ρ2 H2 σ fr w v ∧ ∀ w2 v2, WR g b' F2 ρ2 H2 σ fr w2 v2 → WR g b F2 ρ2 H2 σ fr w2 v2 ∧ (isOwn w = true → isOwn w2 = true → v ≠ v2) := by
  cases w with
  | dat d => exact ⟨b, A, fun F2 ρ2 H2 s2 S P B => ⟨B, VR.mono S P h, fun w2 v2 h2 => ⟨h2, fun z => by cases z⟩⟩⟩
  | own xs =>
    obtain ⟨a, vs, rfl, q1, q2, q3, q4, q5, q6, q7⟩ := h
    refine ⟨{ b with P := (a, .lst vs) :: b.P }, ⟨A.sub, A.ext, A.new, A.rho, A.keep, A.fsh, A.sto, A.len, A.dat, A.mu, A.apart, fun q hq => ?_, A.tb.pin (q := (a, .lst vs)) (nt_lst _)⟩, fun F2 ρ2 H2 s2 S P B => ?_⟩
    · rcases List.mem_cons.mp hq with z | z
      · subst z; exact ⟨q1, q3, q4, q5, q6⟩
      · exact A.pin q z
    · have pn := B.pin (a, .lst vs) List.mem_cons_self
      refine ⟨B.unpin, ⟨a, vs, rfl, pn.1, q2.mono S P, pn.2.1, pn.2.2.1, pn.2.2.2.1, pn.2.2.2.2, q7⟩, fun w2 v2 h2 => ?_⟩
      cases w2 with
      | dat d2 => exact ⟨h2, fun _ z => by cases z⟩
      | own ys =>
        obtain ⟨a2, vs2, rfl, r1, r2, r3, r4, r5, r6, r7⟩ := h2
        refine ⟨⟨a2, vs2, rfl, r1, r2, r3, r4, r5, r6, fun q hq => r7 q (List.mem_cons_of_mem _ hq)⟩, fun _ _ z => ?_⟩
        cases z
        exact r7 (a, .lst vs) List.mem_cons_self rfl
def wAny (g : Gb) (wx : WX) (f : Fr → Sto → R W) : TE := fun σ H Q => ∃ b', T g b' wx WR f σ H Q
theorem pe_wAny {e : Expr} {f : Fr → Sto → R W} (h : ∀ b', PE X e (T g b' wx WR f)) : PE X e (wAny g wx f) := PE.by fun σ H Q ⟨b', q⟩ => ⟨_, h b', q⟩
/-- the part of the last exception's clause -/
theorem exc_unpin {b' : Bs} (hb : ∀ F2 ρ2 H2 s2, Same F F2 → ρ <+: ρ2 → Ab g b' F2 ρ2 σ H2 fr s2 → Ab g b F2 ρ2 σ H2 fr s2) {α β : Type} {Rl R2 : Rel α β} {r : R α} {f : α → Sto → Out} {Q : β → Hp → Prop} (h : PoS g b wx (r.out fr f) F ρ Dn)
    (hk : ∀ a s1 F1 ρ1 H1 v, r = .ok a s1 → Same F F1 → ρ <+: ρ1 → Ab g b' F1 ρ1 σ H1 fr s1 → Rl g b' F1 ρ1 H1 σ fr a v → PoS g b wx (f a s1) F1 ρ1 Dn → Q v H1) : Po g b' wx Rl r F ρ σ fr Q := by
  cases r with
  | ok a st => exact fun F2 ρ2 H2 v s p A rl => hk a st F2 ρ2 H2 v rfl s p A rl (PoS.mono (o := f a st) h s p)
  | exc c p st => exact fun F2 ρ2 H2 cls d s p A x => h F2 ρ2 σ H2 cls d s p (hb F2 ρ2 H2 _ s p A) x
  | bad => exact h.elim
theorem out_bind {α β : Type} {r : R α} {f : α → Sto → R β} {q : β → Sto → Out} : (r.bind f).out fr q = r.out fr fun a s => (f a s).out fr q := by
  cases r <;> rfl
theorem s_par2 (Y : Cy g wx cf k X c) {i j : Nat} {o1 o2 : Bool} {e1 e2 : E} {x y : Str} {v1 v2 : Expr} {px py pt : Pos} {kt k2 pt2 pos} (hi : X.N[i]? = some x) (hj : X.N[j]? = some y) (hij : i ≠ j) (hx : X.env.scope.names.lookup x = some .local) (hy : X.env.scope.names.lookup y = some .local)
    (n1 : noStar v1 = true) (n2 : noStar v2 = true) (h1 : ∀ b', PE X v1 (T g b' wx WR (ev cf e1))) (h2 : ∀ b', PE X v2 (T g b' wx WR (ev cf e2)))
    (hw : swappedStores [.Tuple [.Name x px, .Name y py] kt pt] (.Tuple [v1, v2] k2 pt2) X.env = pure (some [x, y])) :
    PS X (.Assign [.Tuple [.Name x px, .Name y py] kt pt] (.Tuple [v1, v2] k2 pt2) pos) (TX g b wx (ex cf wf (.par [(o1, i), (o2, j)] (.cons e1 (.cons e2 .nil))))) := PS.by fun D σ H q'' => by
  obtain ⟨F, ρ, fr, st, A, p⟩ := q''
  simp only [ex, evW, out_bind] at p
  refine ⟨_, ps_par Y.G.calm Y.G.nd hi hj hij hx hy (pa_cons (pe_wAny h1) (pa_cons (pe_wAny h2) pa_nil (noStar_cons n2 _)) (noStar_cons n1 _)) hw, ?_⟩
  refine ⟨b, F, ρ, fr, st, A, PoS.out p fun w1 s1 F1 ρ1 H1 u1 _ _ _ A1 r1 p1 => ?_⟩
  obtain ⟨b', A1', hb'⟩ := hold A1 r1
  refine ⟨b', F1, ρ1, fr, s1, A1', exc_unpin (R2 := WR) (fun F2 ρ2 H2 s2 S P B => (hb' F2 ρ2 H2 s2 S P B).1) p1 fun w2 s2 F2 ρ2 H2 u2 _ S2 P2 A2' r2 p2 => ?_⟩
  obtain ⟨A2, r1', hn⟩ := hb' F2 ρ2 H2 s2 S2 P2 A2'
  obtain ⟨r2', ne⟩ := hn w2 u2 r2
  simp only [R.out, putP_cons] at p2
  refine ⟨u1, u2, rfl, ?_⟩
  cases ep : put1 o1 i w1 fr with
  | none => rw [ep] at p2; exact p2.elim
  | some f1 =>
    rw [ep] at p2
    obtain ⟨F3, S3, A3, hr3⟩ := step1 A2 r1' ep
    simp only [Option.bind_some] at p2
    cases ep2 : put1 o2 j w2 f1 with
    | none => rw [ep2] at p2; exact p2.elim
    | some f2 =>
      rw [ep2] at p2
      obtain ⟨F4, S4, A4, _⟩ := step1 A3 (hr3 w2 u2 r2' ne) ep2
      exact (p2.mono (S3.trans S4) (pfx _)).nxt A4
theorem WR.alloc {w : W} {v : V} {q : Addr} {o : HO} (h : WR g b F ρ H σ fr w v) (hq : H q = none) : WR g b F ρ (upd H q o) σ fr w v := by
  cases w with
  | dat d => exact h
  | own xs =>
    obtain ⟨a, vs, rfl, q1, q2⟩ := h
    exact ⟨a, vs, rfl, by rw [upd_ne (ne_of_none q1 hq)]; exact q1, q2⟩
/-- the same where a name is a cell: a tuple is made, then taken apart -/
theorem s_parC (Y : Cy g wx cf k X c) {i j : Nat} {o1 o2 : Bool} {e1 e2 : E} {x y : Str} {v1 v2 : Expr} {px py pt : Pos} {kt k2 pt2 pos} (hx : locB c i x = true) (hy : locB c j y = true)
    (n1 : noStar v1 = true) (n2 : noStar v2 = true) (h1 : ∀ b', PE X v1 (T g b' wx WR (ev cf e1))) (h2 : ∀ b', PE X v2 (T g b' wx WR (ev cf e2)))
    (hw : swappedStores [.Tuple [.Name x px, .Name y py] kt pt] (.Tuple [v1, v2] k2 pt2) X.env = pure none) :
    PS X (.Assign [.Tuple [.Name x px, .Name y py] kt pt] (.Tuple [v1, v2] k2 pt2) pos) (TX g b wx (ex cf wf (.par [(o1, i), (o2, j)] (.cons e1 (.cons e2 .nil))))) := PS.by fun D σ H q'' => by
  obtain ⟨F, ρ, fr, st, A, p⟩ := q''
  obtain ⟨a1, a2, a3⟩ := Y.loc hx
  obtain ⟨b1, b2, b3⟩ := Y.loc hy
  simp only [ex, evW, out_bind] at p
  refine ⟨_, ps_asg (pe_tup (pa_cons (pe_wAny h1) (pa_cons (pe_wAny h2) pa_nil (noStar_cons n2 _)) (noStar_cons n1 _))) (pg_tup Y.G.calm (pgs_cons (pg_name Y.G.nd a1 a2 a3) (pgs_cons (pg_name Y.G.nd b1 b2 b3) pgs_nil))) rfl hw rfl, ?_⟩
  refine ⟨b, F, ρ, fr, st, A, PoS.out p fun w1 s1 F1 ρ1 H1 u1 _ _ _ A1 r1 p1 => ?_⟩
  obtain ⟨b', A1', hb'⟩ := hold A1 r1
  refine ⟨b', F1, ρ1, fr, s1, A1', exc_unpin (R2 := WR) (fun F2 ρ2 H2 s2 S P B => (hb' F2 ρ2 H2 s2 S P B).1) p1 fun w2 s2 F2 ρ2 H2 u2 _ S2 P2 A2' r2 p2 => ?_⟩
  obtain ⟨A2, r1', hn⟩ := hb' F2 ρ2 H2 s2 S2 P2 A2'
  obtain ⟨r2', ne⟩ := hn w2 u2 r2
  simp only [R.out, putP_cons] at p2
  refine ⟨by show 2 ≤ sizeLine; decide, fun q hq => ⟨q, [u1, u2], rfl, .inl (.inl upd_same), rfl, u1, [u2], rfl, u2, [], rfl, rfl, ?_⟩⟩
  have A2 := A2.alloc (.tup [u1, u2]) hq
  have r1' := r1'.alloc (o := .tup [u1, u2]) hq
  have r2' := r2'.alloc (o := .tup [u1, u2]) hq
  cases ep : put1 o1 i w1 fr with
  | none => rw [ep] at p2; exact p2.elim
  | some f1 =>
    rw [ep] at p2
    obtain ⟨F3, S3, A3, hr3⟩ := step1 A2 r1' ep
    simp only [Option.bind_some] at p2
    cases ep2 : put1 o2 j w2 f1 with
    | none => rw [ep2] at p2; exact p2.elim
    | some f2 =>
      rw [ep2] at p2
      obtain ⟨F4, S4, A4, _⟩ := step1 A3 (hr3 w2 u2 r2' ne) ep2
      exact (p2.mono (S3.trans S4) (pfx _)).nxt A4
theorem s_par3 (Y : Cy g wx cf k X c) {i j l : Nat} {o1 o2 o3 : Bool} {e1 e2 e3 : E} {x y z : Str} {v1 v2 v3 : Expr} {px py pz pt : Pos} {kt k2 pt2 pos} (hi : X.N[i]? = some x) (hj : X.N[j]? = some y) (hl : X.N[l]? = some z) (hij : i ≠ j) (hil : i ≠ l) (hjl : j ≠ l)
    (hx : X.env.scope.names.lookup x = some .local) (hy : X.env.scope.names.lookup y = some .local) (hz : X.env.scope.names.lookup z = some .local)
    (n1 : noStar v1 = true) (n2 : noStar v2 = true) (n3 : noStar v3 = true) (h1 : ∀ b', PE X v1 (T g b' wx WR (ev cf e1))) (h2 : ∀ b', PE X v2 (T g b' wx WR (ev cf e2))) (h3 : ∀ b', PE X v3 (T g b' wx WR (ev cf e3)))
    (hw : swappedStores [.Tuple [.Name x px, .Name y py, .Name z pz] kt pt] (.Tuple [v1, v2, v3] k2 pt2) X.env = pure (some [x, y, z])) :
    PS X (.Assign [.Tuple [.Name x px, .Name y py, .Name z pz] kt pt] (.Tuple [v1, v2, v3] k2 pt2) pos) (TX g b wx (ex cf wf (.par [(o1, i), (o2, j), (o3, l)] (.cons e1 (.cons e2 (.cons e3 .nil)))))) := PS.by fun D σ H q'' => by
  obtain ⟨F, ρ, fr, st, A, p⟩ := q''
  simp only [ex, evW, out_bind] at p
  refine ⟨_, ps_par3 Y.G.calm Y.G.nd hi hj hl hij hil hjl hx hy hz (pa_cons (pe_wAny h1) (pa_cons (pe_wAny h2) (pa_cons (pe_wAny h3) pa_nil (noStar_cons n3 _)) (noStar_cons n2 _)) (noStar_cons n1 _)) hw, ?_⟩
  refine ⟨b, F, ρ, fr, st, A, PoS.out p fun w1 s1 F1 ρ1 H1 u1 _ _ _ A1 r1 p1 => ?_⟩
  obtain ⟨b', A1', hb'⟩ := hold A1 r1
  refine ⟨b', F1, ρ1, fr, s1, A1', exc_unpin (R2 := WR) (fun F2 ρ2 H2 s2 S P B => (hb' F2 ρ2 H2 s2 S P B).1) p1 fun w2 s2 F2 ρ2 H2 u2 _ S2 P2 A2' r2 p2 => ?_⟩
  obtain ⟨b2, A2b, hb2⟩ := hold A2' r2
  have un2 : ∀ F3 ρ3 H3 s3, Same F2 F3 → ρ2 <+: ρ3 → Ab g b2 F3 ρ3 σ H3 fr s3 → Ab g b F3 ρ3 σ H3 fr s3 := fun F3 ρ3 H3 s3 S P B => (hb' F3 ρ3 H3 s3 (S2.trans S) (P2.trans P) (hb2 F3 ρ3 H3 s3 S P B).1).1
  refine ⟨b2, F2, ρ2, fr, s2, A2b, exc_unpin (R2 := WR) un2 p2 fun w3 s3 F3 ρ3 H3 u3 _ S3 P3 A3b r3 p3 => ?_⟩
  obtain ⟨A3', r2', hn2⟩ := hb2 F3 ρ3 H3 s3 S3 P3 A3b
  obtain ⟨r3', ne23⟩ := hn2 w3 u3 r3
  obtain ⟨A3, r1', hn1⟩ := hb' F3 ρ3 H3 s3 (S2.trans S3) (P2.trans P3) A3'
  obtain ⟨r2'', ne12⟩ := hn1 w2 u2 r2'
  obtain ⟨r3'', ne13⟩ := hn1 w3 u3 r3'
  simp only [R.out, putP_cons] at p3
  refine ⟨u1, u2, u3, rfl, ?_⟩
  cases ep : put1 o1 i w1 fr with
  | none => rw [ep] at p3; exact p3.elim
  | some f1 =>
    rw [ep] at p3
    obtain ⟨F4, S4, A4, hr4⟩ := step1 A3 r1' ep
    simp only [Option.bind_some] at p3
    cases ep2 : put1 o2 j w2 f1 with
    | none => rw [ep2] at p3; exact p3.elim
    | some f2 =>
      rw [ep2] at p3
      obtain ⟨F5, S5, A5, hr5⟩ := step1 A4 (hr4 w2 u2 r2'' ne12) ep2
      simp only [Option.bind_some] at p3
      cases ep3 : put1 o3 l w3 f2 with
      | none => rw [ep3] at p3; exact p3.elim
      | some f3 =>
        rw [ep3] at p3
        obtain ⟨F6, S6, A6, _⟩ := step1 A5 (hr5 w3 u3 (hr4 w3 u3 r3'' ne13) ne23) ep3
        exact (p3.mono ((S4.trans S5).trans S6) (pfx _)).nxt A6
end
end MP

set_option Elab.async false
set_option linter.all false
set_option maxRecDepth 100000
set_option maxHeartbeats 8000000
namespace MP
open PySem PySem.Spec L2
section
variable {g : Gb} {b : Bs} {wx : WX} {cf : Nat → List D → Sto → R W} {k wf : Nat} {X : Cx} {c : Cc} {F F' : Hp} {ρ ρ' : Rho} {σ : L2.St} {H H' : Hp} {fr : Fr} {st st' : Sto} {Q : VK} {Dn : Ends}
/-- a cell that nobody tracks is written -/
theorem Ab.write (A : Ab g b F ρ [] H [] st) {a : Addr} (o : HO) {o0 : HO} (h0 : H a = some o0) (nt0 : notT o0) (nx0 : ∀ φ, o0 ≠ .ext φ) (f1 : F a = none) (n1 : a ∉ sh ρ) (h1 : b.H0 a = none) (q1 : ∀ q ∈ b.P, q.1 ≠ a) : Ab g b F ρ [] (upd H a o) [] st where
  sub := fun x u e => by
    rw [upd_ne (show x ≠ a from fun z => by subst z; rw [f1] at e; cases e)]
    exact A.sub _ _ e
  ext := A.ext
  new := A.new
  rho := A.rho
  keep := fun x u e m nt => by
    rw [upd_ne (show x ≠ a from fun z => by subst z; rw [h1] at e; cases e)]
    exact A.keep x u e m nt
  tb := A.tb.write h0 nt0 nx0
  fsh := A.fsh
  sto := A.sto.of fun c hc => upd_ne fun z => n1 (z ▸ hc)
  len := rfl
  dat := fun i d h => by simp at h
  mu := fun i d h => by simp at h
  apart := fun i j a xs ys h => by simp at h
  pin := fun q hq => by
    obtain ⟨k1, k2, k3, k4, k5⟩ := A.pin q hq
    refine ⟨?_, k2, k3, k4, k5⟩
    rw [upd_ne (q1 q hq)]
    exact k1
abbrev drawKV (m : Int) (a : Addr) (t : Int) : List (Key × V) := [(.inr "mixed", .int m), (.inr "great", .ref a), (.inr "turn", .int t)]
theorem merge3 (m : Int) (a : Addr) (t : Int) : mergeK [] (drawKV m a t) = drawKV m a t := by
  have e1 : (Str.ofString "mixed" = Str.ofString "great") = False := eq_false (by decide +kernel)
  have e2 : (Str.ofString "mixed" = Str.ofString "turn") = False := eq_false (by decide +kernel)
  have e3 : (Str.ofString "great" = Str.ofString "turn") = False := eq_false (by decide +kernel)
  simp [mergeK, putK, drawKV, e1, e2, e3]
theorem mk_inv {x y z : W} (p : PoS g b wx (match x.d, y, z.d with
    | .int m, .own xs, .int t => .rt (.dat (.ref (st.length + 1))) (st ++ [.lst xs, .dct [("mixed", .int m), ("great", .ref st.length), ("turn", .int t)]])
    | _, _, _ => .bad) F ρ Dn) : ∃ m xs t, x.d = .int m ∧ y = .own xs ∧ z.d = .int t ∧ PoS g b wx (.rt (.dat (.ref (st.length + 1))) (st ++ [.lst xs, .dct [("mixed", .int m), ("great", .ref st.length), ("turn", .int t)]])) F ρ Dn := by
  revert p
  generalize x.d = dx
  generalize z.d = dz
  intro p
  cases dx <;> first | exact p.elim | skip
  cases y <;> first | exact p.elim | skip
  cases dz <;> first | exact p.elim | skip
  exact ⟨_, _, _, rfl, rfl, rfl, p⟩
theorem s_mk (Y : Cy g wx cf k X c) {e1 e2 e3 : E} {v1 v2 v3 : Expr} {j1 j2 j3 : Nat} {p1 p2 p3 pd pos : Pos} (h1 : ∀ b', PE X v1 (T g b' wx WR (ev cf e1))) (h2 : ∀ b', PE X v2 (T g b' wx WR (ev cf e2))) (h3 : ∀ b', PE X v3 (T g b' wx WR (ev cf e3))) :
    PS X (.Return (some (.Dict [some (.Constant (.str "mixed") j1 p1), some (.Constant (.str "great") j2 p2), some (.Constant (.str "turn") j3 p3)] [v1, v2, v3] pd)) pos) (TX g b wx (ex cf wf (.mk e1 e2 e3))) := PS.by fun D σ H q'' => by
  obtain ⟨F, ρ, fr, st, A, p⟩ := q''
  simp only [ex] at p
  refine ⟨_, ps_ret (pe_disp (pps_cons pe_str (pe_wAny h1) (pps_cons pe_str (pe_wAny h2) (pps_cons pe_str (pe_wAny h3) pps_nil))) rfl rfl (by simp) (by simp)), ?_⟩
  intro pa hpa
  have A0 := A.pinNew (.dK []) (nt_dK _) hpa
  have np : ∀ q ∈ b.P, q.1 ≠ pa := fun q hq => A.npin hpa hq
  refine ⟨_, F, ρ, fr, st, A0, exc_unpin (R2 := WR) (fun F2 ρ2 H2 s2 S P B => B.unpin) p fun w1 s1 F1 ρ1 H1 u1 _ S1 P1 A1 r1 p1 => ?_⟩
  obtain ⟨b', A1', hb'⟩ := hold A1 r1
  refine ⟨b', F1, ρ1, fr, s1, A1', exc_unpin (R2 := WR) (fun F2 ρ2 H2 s2 S P B => (hb' F2 ρ2 H2 s2 S P B).1.unpin) p1 fun w2 s2 F2 ρ2 H2 u2 _ S2 P2 A2' r2 p2 => ?_⟩
  obtain ⟨b2, A2b, hb2⟩ := hold A2' r2
  refine ⟨b2, F2, ρ2, fr, s2, A2b, exc_unpin (R2 := WR) (fun F3 ρ3 H3 s3 S P B => (hb' F3 ρ3 H3 s3 (S2.trans S) (P2.trans P) (hb2 F3 ρ3 H3 s3 S P B).1).1.unpin) p2 fun w3 s3 F3 ρ3 H3 u3 _ S3 P3 A3b r3 p3 => ?_⟩
  obtain ⟨A3', r2', hn2⟩ := hb2 F3 ρ3 H3 s3 S3 P3 A3b
  obtain ⟨r3', ne23⟩ := hn2 w3 u3 r3
  obtain ⟨A3, r1', hn1⟩ := hb' F3 ρ3 H3 s3 (S2.trans S3) (P2.trans P3) A3'
  obtain ⟨r2'', ne12⟩ := hn1 w2 u2 r2'
  obtain ⟨r3'', ne13⟩ := hn1 w3 u3 r3'
  have pn := A3.pin (pa, .dK []) List.mem_cons_self
  obtain ⟨m, xs, t, e1, e2', e3, p4⟩ := mk_inv p3
  subst e2'
  have iv : ∀ {w : W} {u : V} {i : Int}, WR g { b with P := (pa, .dK []) :: b.P } F3 ρ3 H3 σ fr w u → w.d = .int i → u = .int i := fun {w u i} r e => by
    cases w with
    | dat d => simp only [W.d] at e; subst e; exact VR.intI r
    | own ys => cases e
  have z1 := iv r1' e1
  have z3 := iv r3'' e3
  subst z1; subst z3
  obtain ⟨a, vs, rfl, a1, a2, a3, a4, a5, a6, a7⟩ := r2''
  refine ⟨pn.1, drawKV m a t, rfl, by simp [drawKV], ?_⟩
  rw [merge3]
  have hap : pa ≠ a := a7 (pa, .dK []) List.mem_cons_self
  have B0 := A3.unpin.bare.write (.dK (drawKV m a t)) pn.1 (nt_dK _) (fun _ z => by cases z) pn.2.1 pn.2.2.1 pn.2.2.2.1 np
  have a1' : upd H3 pa (.dK (drawKV m a t)) a = some (.lst vs) := (upd_ne (Ne.symm hap)).trans a1
  have B1 := B0.newOb (o := .lst xs) ⟨vs, a1', a2.mono (.refl _) (List.prefix_append _ _)⟩ a3 a4 a5 (fun i ys e => by simp at e) fun q hq => a7 q (List.mem_cons_of_mem _ hq)
  have hl : (ρ3 ++ [a])[s3.length]? = some a := by
    rw [← A3.sto.len, List.getElem?_append_right (Nat.le_refl _), Nat.sub_self]; rfl
  have hl' : ((ρ3 ++ [a]) ++ [pa])[s3.length]? = some a := by
    rw [List.getElem?_append_left (by rw [List.length_append, A3.sto.len]; simp)]; exact hl
  have B2 := B1.newOb (a := pa) (o := .dct [("mixed", .int m), ("great", .ref s3.length), ("turn", .int t)]) ⟨[.int m, .ref a, .int t], upd_same, .cons (.int m) (.cons (.ref hl') (.cons (.int t) .nil))⟩ pn.2.1 (fun z => by
    rcases List.mem_append.mp z with z | z
    · exact pn.2.2.1 z
    · exact hap (List.mem_singleton.mp z)) pn.2.2.2.1 (fun i ys e => by simp at e) np
  rw [List.append_assoc, List.append_assoc] at B2
  refine p4 F3 (ρ3 ++ ([a] ++ [pa])) _ (.ref pa) (.refl _) (List.prefix_append _ _) B2 ?_
  have hl2 : (ρ3 ++ ([a] ++ [pa]))[s3.length + 1]? = some pa := by
    rw [← A3.sto.len, List.getElem?_append_right (Nat.le_add_right _ _), Nat.add_sub_cancel_left]; rfl
  exact VR.ref hl2

theorem Ab.setG (A : Ab g b F ρ σ H fr st) {d e : D} {x : Str} {v u : V} (h : putF x d e st = some st') (rd : VR g F ρ d v) (re : VR g F ρ e u) : ∃ a H', v = .ref a ∧ DPut H a (.str x) u H' ∧ Ab g b F ρ σ H' fr st' := by
  cases d <;> simp only [putF] at h <;> first | (cases h; done) | skip
  rename_i n
  obtain ⟨a, rfl, er⟩ := rd.refI
  split at h
  · rename_i kvs es
    split at h
    · rename_i hk
      simp only [Bool.and_eq_true, decide_eq_true_eq] at hk
      cases ep : putD x e kvs with
      | none => rw [ep] at h; cases h
      | some q =>
        rw [ep] at h
        cases h
        obtain ⟨vs, h1, h2⟩ := A.sto.at_ n _ a es er
        obtain ⟨us, h3, h4⟩ := putD_ok h2 re hk.1 ep
        have hp : putK ((kvs.map fun kv => (Sum.inr kv.1 : Key)).zip vs) (.inr x) u = (q.map fun kv => (Sum.inr kv.1 : Key)).zip us := by
          unfold putK
          rw [if_pos (putD_any h2 ep), h3]
        refine ⟨a, _, rfl, DPut.k (k := .inr x) h1 ?_, ?_⟩
        · rw [List.length_zip, List.length_map, sizeLine_eq]
          omega
        · rw [hp]
          exact A.setOb es er rfl ⟨us, upd_same, h4⟩ rfl
    · cases h
  · cases h
theorem hu1 (Y : Cy g wx cf k X c) : X.A.units + 1 < cLine := Nat.lt_of_le_of_lt (Nat.add_le_add_left (by decide) _) Y.G.room.units
theorem s_put (Y : Cy g wx cf k X c) {a e : E} {x : Str} {a' v : Expr} {j : Nat} {p1 p2 pos : Pos} (hn : noComp v = true) (ha : PE X a' (T g b wx DR (ev cf a))) (hE : PE X v (T g b wx DR (ev cf e))) :
    PS X (.Assign [.Subscript a' (.Constant (.str x) j p1) p2] v pos) (TX g b wx (ex cf wf (.put a x e))) := PS.by fun D σ H q'' => by
  obtain ⟨F, ρ, fr, st, A, p⟩ := q''
  simp only [ex] at p
  refine ⟨_, ps_dput (hu1 Y) ha pe_str hE (noComp_swap hn), ?_⟩
  refine ⟨F, ρ, fr, st, A, PoS.out p fun w s1 F1 ρ1 H1 v1 _ _ _ A1 rv p1 => ⟨F1, ρ1, fr, s1, A1, PoS.out p1 fun w2 s2 F2 ρ2 H2 u _ S2 P2 A2 ru p2 => ?_⟩⟩
  cases eq : putF x w2.d w.d s2 with
  | none => rw [eq] at p2; exact p2.elim
  | some s3 =>
    rw [eq] at p2
    obtain ⟨a0, H', e1, e2, A3⟩ := A2.setG eq ru (VR.mono S2 P2 rv)
    exact ⟨a0, H', e1, e2, p2.nxt A3⟩
theorem s_obs (Y : Cy g wx cf k X c) {a i e : E} {a' i' v : Expr} {p2 pos : Pos} (hs : noSlice i' = true) (hn : noComp v = true) (ha : PE X a' (T g b wx DR (ev cf a))) (hi : PE X i' (T g b wx DR (ev cf i))) (hE : PE X v (T g b wx DR (ev cf e))) :
    PS X (.Assign [.Subscript a' i' p2] v pos) (TX g b wx (ex cf wf (.obs a i e))) := PS.by fun D σ H q'' => by
  obtain ⟨F, ρ, fr, st, A, p⟩ := q''
  simp only [ex] at p
  refine ⟨_, ps_asg hE (pg_sub ha hi set_list (by intro v; cases i' <;> first | rfl | cases hs)) (noComp_sole hn) (by cases v <;> rfl) (by cases i' <;> first | rfl | cases hs), ?_⟩
  refine ⟨F, ρ, fr, st, A, PoS.out p fun w s1 F1 ρ1 H1 v1 _ _ _ A1 rv p1 => ⟨F1, ρ1, fr, s1, A1, PoS.out p1 fun w2 s2 F2 ρ2 H2 u _ S2 P2 A2 ru p2 => ⟨F2, ρ2, fr, s2, A2, PoS.out p2 fun w3 s3 F3 ρ3 H3 u3 _ S3 P3 A3 rz p3 => ?_⟩⟩⟩
  split at p3
  · rename_i n en
    have rz' : VR g F3 ρ3 w3.d u3 := rz
    rw [en] at rz'
    have eu := rz'.intI
    subst eu
    cases eq : setF w2.d n w.d s3 with
    | none => rw [eq] at p3; exact p3.elim
    | some s4 =>
      rw [eq] at p3
      have ru' : VR g F3 ρ3 w2.d u := VR.mono S3 P3 ru
      have rv' : VR g F3 ρ3 w.d v1 := VR.mono S3 P3 (VR.mono S2 P2 rv)
      revert eq ru'
      generalize w2.d = d
      intro eq ru'
      cases d <;> simp only [setF] at eq <;> first | (cases eq; done) | skip
      rename_i m
      obtain ⟨a0, rfl, er⟩ := ru'.refI
      split at eq
      · rename_i xs es
        obtain ⟨vs, h1, h2⟩ := A3.sto.at_ m _ a0 es er
        cases ej : ixD xs.length n with
        | none => rw [ej] at eq; cases eq
        | some j =>
          rw [ej] at eq
          cases eq
          exact ⟨a0, vs, n, j, rfl, rfl, h1, by rw [← h2.length]; exact ej, p3.nxt (A3.setOb es er rfl ⟨_, upd_same, h2.set j rv'⟩ rfl)⟩
      · cases eq
  · exact p3.elim
theorem s_ppar (Y : Cy g wx cf k X c) {a e1 e2 : E} {x z : Str} {i : Nat} {a' v1 v2 : Expr} {j k1 k2 : Nat} {p1 p2 p3 p4 p5 pos : Pos} (hw : swCls c.sc [.Subscript a' (.Constant (.str x) j p1) p2, .Name z p3] [v1, v2] = some none) (hl : locB c i z = true) (n1 : noStar v1 = true) (n2 : noStar v2 = true) (ha : PE X a' (T g b wx DR (ev cf a))) (h1 : PE X v1 (T g b wx DR (ev cf e1))) (h2 : PE X v2 (T g b wx DR (ev cf e2))) :
    PS X (.Assign [.Tuple [.Subscript a' (.Constant (.str x) j p1) p2, .Name z p3] k1 p4] (.Tuple [v1, v2] k2 p5) pos) (TX g b wx (ex cf wf (.ppar a x i e1 e2))) := PS.by fun D σ H q'' => by
  obtain ⟨F, ρ, fr, st, A, p⟩ := q''
  obtain ⟨l1, l2, l3⟩ := Y.loc hl
  simp only [ex] at p
  refine ⟨_, ps_asg (pe_tup (pa_cons h1 (pa_cons h2 pa_nil (noStar_cons n2 _)) (noStar_cons n1 _))) (pg_tup Y.G.calm (pgs_cons (pg_sub ha pe_str (set_dict (hu1 Y))) (pgs_cons (pg_name Y.G.nd l1 l2 l3) pgs_nil)))
    rfl (sw_none Y.hsc Y.kind hw) rfl, ?_⟩
  refine ⟨F, ρ, fr, st, A, PoS.out p fun w s1 F1 ρ1 H1 u1 _ _ _ A1 rv p1 => ⟨F1, ρ1, fr, s1, A1, PoS.out p1 fun w2 s2 F2 ρ2 H2 u2 _ S2 P2 A2 ru p2 => ⟨by show 2 ≤ sizeLine; decide, fun q hq => ?_⟩⟩⟩
  have A3 := A2.alloc (.tup [u1, u2]) hq
  refine ⟨q, [u1, u2], rfl, .inl (.inl upd_same), rfl, u1, [u2], rfl, ?_⟩
  refine ⟨F2, ρ2, fr, s2, A3, PoS.out p2 fun w3 s3 F3 ρ3 H3 u3 _ S3 P3 A4 rz p3 => ?_⟩
  cases eq : putF x w3.d w.d s3 with
  | none => rw [eq] at p3; exact p3.elim
  | some s4 =>
    rw [eq] at p3
    obtain ⟨a0, H', e1, e2, A5⟩ := A4.setG eq rz (VR.mono S3 P3 (VR.mono S2 P2 rv))
    refine ⟨a0, H', e1, e2, u2, [], rfl, rfl, ?_⟩
    simp only at p3
    split at p3
    · rename_i hi
      exact p3.nxt (A5.set hi (VR.mono S3 P3 ru))
    · exact p3.elim
theorem melt_ok : ∀ {ds : List D} {vs : List V} {F : Hp} {st : Sto} {q : List D × Sto}, Ab g b F ρ σ H fr st → VRs g F ρ ds vs → meltD ds st = some q → ∃ F', Same F F' ∧ Ab g b F' ρ σ H fr q.2 ∧ VRs g F' ρ q.1 vs
  | [], _, F, st, q, A, r, e => by
    cases r
    cases e
    exact ⟨F, .refl _, A, .nil⟩
  | d :: ds, _, F, st, q, A, r, e => by
    cases r with
    | cons r1 r2 =>
      cases d <;> simp only [meltD] at e <;> first | (cases e; done) | skip
      rename_i n
      split at e
      · rename_i xs es
        obtain ⟨a, rfl, er⟩ := r1.refI
        obtain ⟨F1, S1, A1, v1⟩ := A.meltOb es er
        cases em : meltD ds (st.set n .gone) with
        | none => rw [em] at e; cases e
        | some q' =>
          rw [em] at e
          cases e
          obtain ⟨F2, S2, A2, v2⟩ := melt_ok A1 (r2.mono S1 (pfx _)) em
          exact ⟨F2, S1.trans S2, A2, .cons (v1.mono S2 (pfx _)) v2⟩
      · cases e
theorem s_melt {i : Nat} {r : Ss} {r' : List Stmt} (h : PSs X r' (TX g b wx (exs cf wf r))) : PSs X r' (TX g b wx (exs cf wf (.melt i r))) := PSs.by fun D σ H q'' => by
  obtain ⟨F, ρ, fr, st, A, p⟩ := q''
  simp only [exs] at p
  refine ⟨_, h, ?_⟩
  split at p
  · rename_i xs e
    cases em : meltD xs st with
    | none => rw [em] at p; exact p.elim
    | some q =>
      rw [em] at p
      obtain ⟨v, h1, h2⟩ := A.dat i _ (getD_some e)
      obtain ⟨a, vs, rfl, h3, h4⟩ := h2.lstI
      obtain ⟨F', S, A', r⟩ := melt_ok A h4 em
      have hi : i < fr.length := (List.getElem?_eq_some_iff.mp (getD_some e)).1
      have hs : i < σ.length := by rw [← A.len]; exact hi
      have B := A'.set (i := i) (d := .lst q.1) (v := .ref a) hi (.lst (S _ _ h3) r)
      have es : σ.set i (some (.ref a)) = σ := by
        refine List.ext_getElem? fun j => ?_
        by_cases z : i = j
        · subst z; rw [List.getElem?_set_self hs, h1]
        · rw [List.getElem?_set_ne z]
      rw [es] at B
      exact ⟨F', ρ, _, _, B, p.mono S (pfx _)⟩
  · exact p.elim
end
end MP

set_option Elab.async false
set_option linter.all false
set_option maxRecDepth 100000
set_option maxHeartbeats 8000000
namespace MP
open PySem PySem.Spec L2
section
variable {g : Gb} {b : Bs} {wx : WX} {cf : Nat → List D → Sto → R W} {k wf : Nat} {X : Cx} {c : Cc} {F F' : Hp} {ρ ρ' : Rho} {σ : L2.St} {H H' : Hp} {fr : Fr} {st st' : Sto} {Q : VK} {Dn : Ends}
/-- a slot is forgotten -/
theorem Ab.forget (A : Ab g b F ρ σ H fr st) (i : Nat) (v : Option V) : Ab g b F ρ (σ.set i v) H (fr.set i .un) st := by
  by_cases hl : i < fr.length
  · have hs : i < σ.length := by rw [← A.len]; exact hl
    have ne : ∀ {j : Nat} {q}, (fr.set i .un)[j]? = some q → q ≠ .un → i ≠ j ∧ fr[j]? = some q := fun {j q} e n => by
      by_cases z : i = j
      · subst z; rw [List.getElem?_set_self hl] at e; cases e; exact absurd rfl n
      · rw [List.getElem?_set_ne z] at e; exact ⟨z, e⟩
    exact {
      sub := A.sub, ext := A.ext, new := A.new, rho := A.rho, keep := A.keep, fsh := A.fsh, sto := A.sto, tb := A.tb
      len := by rw [List.length_set, List.length_set]; exact A.len
      dat := fun j d e => by
        obtain ⟨z, e⟩ := ne e (by intro q; cases q)
        rw [List.getElem?_set_ne z]; exact A.dat j d e
      mu := fun j d e => by
        obtain ⟨z, e⟩ := ne e (by intro q; cases q)
        rw [List.getElem?_set_ne z]; exact A.mu j d e
      apart := fun j l a zs ws e1 e2 p1 p2 => by
        obtain ⟨z1, e1⟩ := ne e1 (by intro q; cases q)
        obtain ⟨z2, e2⟩ := ne e2 (by intro q; cases q)
        rw [List.getElem?_set_ne z1] at p1
        rw [List.getElem?_set_ne z2] at p2
        exact A.apart j l a zs ws e1 e2 p1 p2
      pin := fun q hq => by
        obtain ⟨h1, h2, h3, h4, h5⟩ := A.pin q hq
        refine ⟨h1, h2, h3, h4, fun j zs e => ?_⟩
        obtain ⟨z, e⟩ := ne e (by intro q; cases q)
        rw [List.getElem?_set_ne z]
        exact h5 j zs e }
  · have h1 : fr.set i .un = fr := List.set_eq_of_length_le (by omega)
    have h2 : σ.set i v = σ := List.set_eq_of_length_le (by rw [← A.len]; omega)
    rw [h1, h2]
    exact A
theorem Ab.put (A : Ab g b F ρ σ H fr st) (i : Nat) {d : D} {v : V} (r : VR g F ρ d v) : Ab g b F ρ (σ.set i (some v)) H (fr.set i (.dat d)) st := by
  by_cases hl : i < fr.length
  · exact A.set hl r
  · have h1 : fr.set i (.dat d) = fr := List.set_eq_of_length_le (by omega)
    have h2 : σ.set i (some v) = σ := List.set_eq_of_length_le (by rw [← A.len]; omega)
    rw [h1, h2]
    exact A
/-! ### raise -/
theorem s_rais (Y : Cy g wx cf k X c) {q : Nat} {x : Str} {e : E} {a : Expr} {px pc pos : Pos} (hg : glB c x = true) (hx : c.xc x = some q) (hq : 0 < q) (hs : noStar a = true) (hE : PE X a (T g b wx DR (ev cf e))) :
    PS X (.Raise (some (.Call (.Name x px) [a] [] pc)) none pos) (TX g b wx (ex cf wf (.rais q x e))) := PS.by fun D σ H q'' => by
  obtain ⟨F, ρ, fr, st, A, p⟩ := q''
  simp only [ex] at p
  obtain ⟨k1, k2, k3⟩ := Y.gl hg
  have kn := Y.M.xs.kn x q hx hq
  obtain ⟨n1, n2, n3, n4, B, newId, initId, bmB, n5⟩ := Y.M.xs.err q kn
  have n5' : ErrC X.prog X.K (g.ca q) (fldC q) B newId initId bmB := by rw [Y.G.hP, Y.G.hK]; exact n5
  refine ⟨_, ps_raise Y.G.calm Y.G.takes (pmk_err n5' (by rw [Y.G.hK]; exact n1.ex) (by rw [Y.G.hK]; exact n4) (by rw [Y.G.hK]; exact n3) (by rw [Y.G.hmg]; exact Y.M.xs.sup) Y.G.room k1 (by rw [Y.G.hmg]; exact (Y.M.xs.cls x q hx).1) hE (noStar_cons hs _) k2), F, ρ, fr, st, A, PoS.out p fun w s1 F1 ρ1 H1 v _ S1 P1 A1 rv p1 => fun d hd => ?_⟩
  obtain ⟨A2, S2⟩ := A1.allocF (.xd [(fldC q, v)]) (nt_xd _) hd
  exact p1 _ ρ1 σ _ _ _ S2 (pfx _) A2 ⟨kn, rfl, d, v, rfl, upd_same, VR.mono S2 (pfx _) rv⟩
/-! ### try -/
theorem Cy.tr (Y : Cy g wx cf k X c) {W : WX} {pn : List (Addr × Obj)} {xe : Value → Shared → Prop} (tk : Takes (X.tr pn xe) W) (own : PassesOwn (model X.prog X.w) X.A X.env xe) : Cy g W cf k (X.tr pn xe) c where
  G := ⟨Y.G.hP, Y.G.hw, Y.G.hK, Y.G.hmg, Y.G.hbase, Y.G.calm, Y.G.nd, Y.G.room, Y.G.guards, tk, own, Y.G.sm⟩
  M := Y.M
  hN := Y.hN
  hsc := Y.hsc
  kind := Y.kind
  hst := Y.hst
  htr := Y.htr
  hlm := Y.hlm
theorem exm_cs (M : Xs g xc) {q : Nat} (hq : g.kn q = true) : ∀ {cs : List (Nat × Str)}, (∀ p ∈ cs, xc p.2 = some p.1) → PySem.W.exmAny g.K (.ref (g.ca q)) (cs.map fun p => .ref (g.ca p.1)) = some (cs.any fun p => subC q p.1)
  | [], _ => rfl
  | p :: cs, h => by
    have h1 := (M.sub q p.2 p.1 hq (h p List.mem_cons_self)).2
    have h2 := exm_cs M hq (cs := cs) fun x hx => h x (List.mem_cons_of_mem _ hx)
    show (match PySem.W.exmOne g.K _ _, PySem.W.exmAny g.K _ (cs.map _) with | some b, some d => some (b || d) | _, _ => none) = _
    rw [h1, h2]
    rfl
theorem cls_tst (Y : Cy g wx cf k X c) {cs : List (Nat × Str)} {ce : Expr} (h : clsB c cs ce = true) : Tst X ce (cs.map fun p => .ref (g.ca p.1)) ∧ ∀ p ∈ cs, c.xc p.2 = some p.1 := by
  have gm : ∀ {x : Str} {q : Nat}, c.xc x = some q → X.mg x = some (.ref (g.ca q)) := fun {x q} hx => by rw [Y.G.hmg]; exact (Y.M.xs.cls x q hx).1
  unfold clsB at h
  split at h
  · simp only [Bool.and_eq_true, decide_eq_true_eq] at h
    obtain ⟨⟨h1, h2⟩, h3⟩ := h
    subst h1
    obtain ⟨a1, a2, _⟩ := Y.gl h2
    exact ⟨tst_name a1 (gm h3) a2, fun p hp => by rw [List.mem_singleton.mp hp]; exact h3⟩
  · simp only [Bool.and_eq_true, decide_eq_true_eq] at h
    obtain ⟨⟨⟨⟨⟨h1, h2⟩, h3⟩, h4⟩, h5⟩, h6⟩ := h
    subst h1; subst h4
    obtain ⟨a1, a2, _⟩ := Y.gl h2
    obtain ⟨b1, b2, _⟩ := Y.gl h5
    refine ⟨tst_two a1 (gm h3) a2 b1 (gm h6) b2, fun p hp => ?_⟩
    simp only [List.mem_cons, List.not_mem_nil, or_false] at hp
    rcases hp with rfl | rfl
    · exact h3
    · exact h6
  · simp only [Bool.and_eq_true, decide_eq_true_eq] at h
    obtain ⟨⟨⟨⟨⟨⟨⟨⟨h1, h2⟩, h3⟩, h4⟩, h5⟩, h6⟩, h7⟩, h8⟩, h9⟩ := h
    subst h1; subst h4; subst h7
    obtain ⟨a1, a2, _⟩ := Y.gl h2
    obtain ⟨b1, b2, _⟩ := Y.gl h5
    obtain ⟨c1, c2, _⟩ := Y.gl h8
    refine ⟨tst_three a1 (gm h3) a2 b1 (gm h6) b2 c1 (gm h9) c2, fun p hp => ?_⟩
    simp only [List.mem_cons, List.not_mem_nil, or_false] at hp
    rcases hp with rfl | rfl | rfl
    · exact h3
    · exact h6
    · exact h9
  · cases h
/-- a caught error in a slot -/
theorem caught (A : Ab g b F ρ σ H fr st) {q : Nat} {p : D} {cls : Value} {d : Option Addr} (x : XR g F ρ H q p cls d) {a : Addr} (ha : H a = none) {i j : Nat} (hij : i ≠ j) :
    ∃ F', Same F F' ∧ Ab g b F' ρ (((σ.set i (some (.ref a))).set j (some (.ref a))).set i none) (upd H a (ErO cls d a)) ((fr.set j (.dat (.err q p))).set i .un) st := by
  obtain ⟨kn, ec, dd, v, ed, fd, rv⟩ := x
  subst ec; subst ed
  obtain ⟨A2, S2⟩ := A.allocF (ErO (.ref (g.ca q)) (some dd) a) (nt_ext _) ha
  have r : VR g (upd F a (ErO (.ref (g.ca q)) (some dd) a)) ρ (.err q p) (.ref a) := .err kn upd_same (S2 _ _ fd) (rv.mono S2 (pfx _))
  have A3 := (A2.put j r).forget i none
  refine ⟨_, S2, ?_⟩
  have e : ((σ.set i (some (.ref a))).set j (some (.ref a))).set i none = (σ.set j (some (.ref a))).set i none := by
    rw [List.set_comm _ _ hij, List.set_set]
  rw [e]
  exact A3
theorem isLocal_eq {o : Option NameKind} (h : isLocal o = true) : o = some .local := by
  unfold isLocal at h
  split at h
  · rfl
  · cases h
theorem s_tryc (Y : Cy g wx cf k X c) {t : Option Nat} {e : E} {cs : List (Nat × Str)} {i j : Nat} {bd : Stmt} {ce : Expr} {n m n' : Str} {q1 q2 q3 pos pos' : Pos} (htr : c.tr = true) (hB : tryB c cs ce n m n' i j = true) {body : Ss}
    (hb : ∀ (W : WX) (pn : List (Addr × Obj)) (xe : Value → Shared → Prop), Takes (X.tr pn xe) W → PassesOwn (model X.prog X.w) X.A X.env xe → PSs (X.tr pn xe) [bd] (TX g b W (exs cf wf body)))
    (hbd : ∀ fr st, exs cf wf body fr st = match ev cf e fr st with
      | .ok w s1 => (match t with
        | none => .nx fr s1
        | some k => match putG (.nm k) w.d fr with
          | some env' => .nx env' s1
          | none => .bad)
      | .exc c p s1 => .exc c p fr s1
      | .bad => .bad) :
    PS X (.Try [bd] [.ExceptHandler (some ce) (some n) [.Assign [.Name m q1] (.Name n' q2) q3] pos'] [] [] pos) (TX g b wx (ex cf wf (.tryc t e cs i j))) := PS.by fun D σ H q'' => by
  obtain ⟨F, ρ, fr, st, A, p⟩ := q''
  simp only [ex] at p
  simp only [tryB, Bool.and_eq_true, decide_eq_true_eq, Bool.not_eq_true'] at hB
  obtain ⟨⟨⟨⟨⟨⟨⟨⟨h1, h2⟩, h3⟩, h4⟩, h5⟩, h6⟩, h7⟩, h8⟩, h9⟩ := hB
  subst h2
  obtain ⟨t1, t2, t3⟩ := Y.htr htr
  obtain ⟨T, hcs⟩ := cls_tst Y h1
  have hi : X.N[i]? = some n := by rw [Y.hN]; exact h3
  refine ⟨_, ps_try_err (tb := fun W => TX g b W (exs cf wf body)) t1 t2 t3 Y.G.nd hi (by show X.env.scope.names.lookup n = _; rw [Y.hsc]; exact isLocal_eq h4) (by rw [Y.hN]; exact h5) (by show X.env.scope.names.lookup m = _; rw [Y.hsc]; exact isLocal_eq h6) (List.getElem?_eq_some_iff.mp hi).1 h8 h9 T Y.G.takes hb, F, ρ, fr, st, A, ?_⟩
  rw [hbd]
  revert p
  cases ev cf e fr st with
  | bad => exact fun p => p
  | ok w s1 =>
    cases t with
    | none => exact fun p => p
    | some k =>
      intro p
      simp only at p ⊢
      split at p
      · rename_i e1; first | (rw [e1]; exact p) | exact p
      · exact p.elim
  | exc q pd s1 =>
    intro p
    intro F1 ρ1 σ1 H1 cls d S1 P1 A1 x
    have hx := x
    obtain ⟨kn, ec, _⟩ := hx
    subst ec
    refine ⟨_, by rw [Y.G.hK]; exact exm_cs Y.M.xs kn hcs, fun hb a ha => ?_, fun hb => ?_⟩
    · simp only [hb, if_true] at p
      obtain ⟨F2, S2, A2⟩ := caught A1 x ha h7
      exact p F2 ρ1 _ _ (S1.trans S2) P1 A2
    · simp only [hb, Bool.false_eq_true, if_false] at p
      exact p F1 ρ1 σ1 H1 _ d S1 P1 A1 x
end
end MP

set_option Elab.async false
set_option linter.all false
set_option maxRecDepth 100000
set_option maxHeartbeats 8000000
namespace MP
open PySem PySem.Spec L2
section
variable {g : Gb} {cf : Nat → List D → Sto → R W} {k wf : Nat}
theorem par_names : ∀ (gs : List (Bool × Nat)) (ts : List Expr) (c : Cc), parB c gs ts = true → gs.length = ts.length
  | [], [], _, _ => rfl
  | [], _ :: _, _, h => by cases h
  | (_, _) :: _, [], _, h => by cases h
  | (_, i) :: r, e :: es, c, h => by
    cases e <;> first | (cases h; done) | skip
    simp only [parB, Bool.and_eq_true] at h
    simp [par_names r es c h.2]
theorem parB_cons {c : Cc} {o : Bool} {i : Nat} {r : List (Bool × Nat)} {e : Expr} {es : List Expr} (h : parB c ((o, i) :: r) (e :: es) = true) : ∃ x p, e = .Name x p ∧ c.N[i]? = some x ∧ c.sc.names.lookup x = some .local ∧ parB c r es = true := by
  cases e <;> first | (cases h; done) | skip
  rename_i x p
  simp only [parB, Bool.and_eq_true, decide_eq_true_eq] at h
  exact ⟨x, p, rfl, h.1.1, h.1.2, h.2⟩
theorem mA0_cons {c : Cc} {es : A} {v : Expr} {vs : List Expr} (h : mA0 c es (v :: vs) = true) : ∃ e r, es = .cons e r ∧ noStar v = true ∧ mE c e v = true ∧ mA0 c r vs = true := by
  cases es <;> first | (cases h; done) | skip
  rename_i e r
  simp only [mA0, Bool.and_eq_true] at h
  exact ⟨e, r, rfl, h.1.1, h.1.2, h.2⟩
theorem mA0_nil {c : Cc} {es : A} (h : mA0 c es [] = true) : es = .nil := by
  cases es <;> first | rfl | cases h
theorem s_par {b : Bs} {wx : WX} {X : Cx} {c : Cc} (Y : Cy g wx cf k X c) {gs : List (Bool × Nat)} {es : A} {ts vs : List Expr} {k1 k2 : Nat} {p1 p2 pos : Pos} (h1 : swCls c.sc ts vs = some (some (namesOf ts))) (h2 : parB c gs ts = true) (h3 : mA0 c es vs = true) (h4 : (gs.map (·.2)).Nodup) (h5 : gs.length = vs.length) :
    PS X (.Assign [.Tuple ts k1 p1] (.Tuple vs k2 p2) pos) (TX g b wx (ex cf wf (.par gs es))) := by
  have hw := sw_none (k1 := k1) (k2 := k2) (p1 := p1) (p2 := p2) Y.hsc Y.kind h1
  have l1 := par_names gs ts c h2
  match gs, ts, vs, h1, h2, h3, h4, h5, l1, hw with
  | [(o1, i), (o2, j)], [t1, t2], [v1, v2], h1, h2, h3, h4, h5, l1, hw =>
    obtain ⟨x, px, rfl, a1, a2, h2⟩ := parB_cons h2
    obtain ⟨y, py, rfl, b1, b2, h2⟩ := parB_cons h2
    obtain ⟨e1, r1, rfl, n1, m1, h3⟩ := mA0_cons h3
    obtain ⟨e2, r2, rfl, n2, m2, h3⟩ := mA0_cons h3
    have e3 := mA0_nil h3
    subst e3
    refine s_par2 Y (by rw [Y.hN]; exact a1) (by rw [Y.hN]; exact b1) ?_ (by rw [Y.hsc]; exact a2) (by rw [Y.hsc]; exact b2) n1 n2 (fun b' => sE e1 b' Y v1 m1) (fun b' => sE e2 b' Y v2 m2) hw
    simp at h4
    exact h4
  | [(o1, i), (o2, j), (o3, l)], [t1, t2, t3], [v1, v2, v3], h1, h2, h3, h4, h5, l1, hw =>
    obtain ⟨x, px, rfl, a1, a2, h2⟩ := parB_cons h2
    obtain ⟨y, py, rfl, b1, b2, h2⟩ := parB_cons h2
    obtain ⟨z, pz, rfl, c1, c2, h2⟩ := parB_cons h2
    obtain ⟨e1, r1, rfl, n1, m1, h3⟩ := mA0_cons h3
    obtain ⟨e2, r2, rfl, n2, m2, h3⟩ := mA0_cons h3
    obtain ⟨e3, r3, rfl, n3, m3, h3⟩ := mA0_cons h3
    have e4 := mA0_nil h3
    subst e4
    simp at h4
    exact s_par3 Y (by rw [Y.hN]; exact a1) (by rw [Y.hN]; exact b1) (by rw [Y.hN]; exact c1) h4.1.1 h4.1.2 h4.2 (by rw [Y.hsc]; exact a2) (by rw [Y.hsc]; exact b2) (by rw [Y.hsc]; exact c2) n1 n2 n3 (fun b' => sE e1 b' Y v1 m1) (fun b' => sE e2 b' Y v2 m2) (fun b' => sE e3 b' Y v3 m3) hw
  | [], [], vs, h1, _, _, _, _, _, _ => exact absurd h1 (by simp [swCls, namesOf])
  | [_], [_], vs, h1, _, _, _, _, _, _ => exact absurd h1 (by simp [swCls])
  | _ :: _ :: _ :: _ :: _, ts, vs, h1, _, _, _, h5, l1, _ =>
    exfalso
    have : ts.length ≠ 2 ∧ ts.length ≠ 3 := by
      simp only [List.length_cons] at l1
      omega
    simp [swCls, this.1, this.2] at h1
theorem parL_cons {c : Cc} {o : Bool} {i : Nat} {r : List (Bool × Nat)} {es : List Expr} (h : parL c ((o, i) :: r) es = true) : ∃ x p es', es = .Name x p :: es' ∧ locB c i x = true ∧ parL c r es' = true := by
  match es, h with
  | .Name x p :: es', h =>
    simp only [parL, Bool.and_eq_true] at h
    exact ⟨x, p, es', rfl, h.1, h.2⟩
theorem s_parD {b : Bs} {wx : WX} {X : Cx} {c : Cc} (Y : Cy g wx cf k X c) {gs : List (Bool × Nat)} {es : A} {ts vs : List Expr} {k1 k2 : Nat} {p1 p2 pos : Pos} (h1 : swCls c.sc ts vs = some none) (h2 : parL c gs ts = true) (hl : gs.length = 2) (h3 : mA0 c es vs = true) (h5 : gs.length = vs.length) :
    PS X (.Assign [.Tuple ts k1 p1] (.Tuple vs k2 p2) pos) (TX g b wx (ex cf wf (.par gs es))) := by
  have hw := sw_none (k1 := k1) (k2 := k2) (p1 := p1) (p2 := p2) Y.hsc Y.kind h1
  match gs, vs, hl, h5, h2, h3, hw with
  | [(o1, i), (o2, j)], [v1, v2], hl, h5, h2, h3, hw =>
    obtain ⟨x, px, ts1, rfl, a1, h2⟩ := parL_cons h2
    obtain ⟨y, py, ts2, rfl, b1, h2⟩ := parL_cons h2
    have e0 : ts2 = [] := by
      match ts2, h2 with
      | [], _ => rfl
    subst e0
    obtain ⟨e1, r1, rfl, n1, m1, h3⟩ := mA0_cons h3
    obtain ⟨e2, r2, rfl, n2, m2, h3⟩ := mA0_cons h3
    have e3 := mA0_nil h3
    subst e3
    exact s_parC Y a1 b1 n1 n2 (fun b' => sE e1 b' Y v1 m1) (fun b' => sE e2 b' Y v2 m2) hw
/-- a comprehension in an assignment -/
theorem lc_inv {c : Cc} {e : E} {elt' : Expr} {gs : List Comprehension} {scope : Scope} {pos : Pos} (h : mE c e (.ListComp elt' gs scope pos) = true) : ∃ elt G own it cd tg iter ifs, e = .comp elt G own it cd ∧ gs = [⟨tg, iter, ifs, 0⟩] := by
  cases e <;> simp only [mE, noLC, Bool.false_and] at h <;> first | (cases h; done) | skip
  rename_i elt G own it cd
  split at h
  · rename_i q
    cases q
    simp only [Bool.and_eq_true, decide_eq_true_eq] at h
    obtain ⟨⟨⟨⟨⟨⟨⟨⟨h1, _⟩, _⟩, _⟩, _⟩, _⟩, _⟩, _⟩, _⟩ := h
    subst h1
    exact ⟨_, _, _, _, _, _, _, _, rfl, rfl⟩
  · cases h
theorem s_lc {b : Bs} {wx : WX} {X : Cx} {c : Cc} (Y : Cy g wx cf k X c) {i : Nat} {x : Str} {px pos spos : Pos} {e : E} {elt' : Expr} {gs : List Comprehension} {scope : Scope} (hl : locB c i x = true) (h : mE c e (.ListComp elt' gs scope pos) = true) (hs : swapC c.sc (.Name x px) (.ListComp elt' gs scope pos) = some true) :
    PS X (.Assign [.Name x px] (.ListComp elt' gs scope pos) spos) (tAsg (T g b wx WR (ev cf e)) (gName i)) := by
  obtain ⟨elt, G, own, it, cd, tg, iter, ifs, rfl, rfl⟩ := lc_inv h
  simp only [mE, Bool.and_eq_true, decide_eq_true_eq, List.all_eq_true, Bool.not_eq_true', List.contains_iff_mem] at h
  obtain ⟨⟨⟨⟨⟨⟨⟨⟨h1, ha⟩, hb⟩, h2⟩, h3⟩, h4⟩, h5⟩, h6⟩, h7⟩ := h
  have hk := (blkOk_by h2).kind
  have hloc : X.env.scope.names.lookup x = some .local := by
    simp only [swapC, Option.some.injEq, Bool.and_eq_true, beq_iff_eq] at hs
    rw [Y.hsc]
    exact hs.1.1
  exact s_setLc Y (Y.loc hl).1 hloc (swap_lc Y.hsc Y.kind hs) h2 h3 ha (sI it b Y tg iter h4) (fun s H C cl fp b' => g_ok (Y.block hk s H C cl fp) G tg h5) (fun s H C cl fp b' => sC cd b' (Y.block hk s H C cl fp) ifs h6) (fun s H C cl fp b' => (sE elt b' (Y.block hk s H C cl fp) elt' h7).dat)
theorem swap_true {sc : Scope} {tg v : Expr} (h : swapC sc tg v = some true) : ∃ x px elt gs scope pos, tg = .Name x px ∧ v = .ListComp elt gs scope pos := by
  cases v <;> cases tg <;> first | (cases h; done) | exact ⟨_, _, _, _, _, _, rfl, rfl⟩
mutual
theorem sS : ∀ (s : S) {wx : WX} {X : Cx} {c : Cc} (b : Bs) (Y : Cy g wx cf k X c) (s' : Stmt), mS c s s' = true → PS X s' (TX g b wx (ex cf wf s))
  | .asg G e, _, X, c, b, Y, s', h => by
    simp only [mS] at h
    split at h
    · rename_i tg v pos
      simp only [Bool.and_eq_true] at h
      obtain ⟨⟨⟨⟨h1, h2⟩, h3⟩, h4⟩, h5⟩ := h
      cases hq : swapC c.sc tg v with
      | none => rw [hq] at h5; cases h5
      | some q =>
        cases q with
        | false => exact s_asg Y (g_ok Y G tg h1) (sE e b Y v h2).dat h3 h4 hq
        | true =>
          obtain ⟨x, px, elt, gs, scope, p2, rfl, rfl⟩ := swap_true hq
          cases G with
          | nm i => exact s_asgLc (s_lc Y (by simpa only [mG] using h1) h2 hq)
          | tp gs => simp [mG] at h1
    · cases h
  | .own i e, _, X, c, b, Y, s', h => by
    simp only [mS] at h
    split at h
    · rename_i x p v pos
      simp only [Bool.and_eq_true] at h
      obtain ⟨⟨h1, h2⟩, h5⟩ := h
      cases hq : swapC c.sc (.Name x p) v with
      | none => rw [hq] at h5; cases h5
      | some q =>
        cases q with
        | false => exact s_own Y h1 (sE e b Y v h2) hq
        | true =>
          obtain ⟨x', px, elt, gs, scope, p2, e1, rfl⟩ := swap_true hq
          cases e1
          exact s_ownLc (s_lc Y h1 h2 hq)
    · cases h
  | .par gs es, _, X, c, b, Y, s', h => by
    simp only [mS] at h
    split at h
    · simp only [Bool.and_eq_true, Bool.or_eq_true, decide_eq_true_eq] at h
      obtain ⟨⟨⟨h0, h3⟩, h4⟩, h5⟩ := h
      rcases h0 with ⟨h1, h2⟩ | ⟨⟨h1, h2⟩, hl⟩
      · exact s_par Y h1 h2 h3 h4 h5
      · exact s_parD Y h1 h2 hl h3 h5
    · cases h
  | .setm i q e, _, X, c, b, Y, s', h => by
    simp only [mS] at h
    split at h
    · simp only [Bool.and_eq_true] at h
      obtain ⟨⟨⟨⟨h1, h2⟩, h3⟩, h4⟩, h5⟩ := h
      exact s_setm Y h1 h2 h3 (sE q b Y _ h4).dat (sE e b Y _ h5).dat
    · cases h
  | .augm i o q e, _, X, c, b, Y, s', h => by
    simp only [mS] at h
    split at h
    · simp only [Bool.and_eq_true, decide_eq_true_eq] at h
      obtain ⟨⟨⟨⟨h1, h2⟩, h3⟩, h4⟩, h5⟩ := h
      subst h3
      exact s_augm Y h1 h2 (sE q b Y _ h4).dat (sE e b Y _ h5).dat
    · cases h
  | .appm i e, _, X, c, b, Y, s', h => by
    simp only [mS] at h
    split at h
    · simp only [Bool.and_eq_true, decide_eq_true_eq] at h
      obtain ⟨⟨⟨⟨h1, h2⟩, h3⟩, h4⟩, h5⟩ := h
      exact s_appm Y h1 h2 h3 h4 (sE e b Y _ h5).dat
    · cases h
  | .extm i e, _, X, c, b, Y, s', h => by
    simp only [mS] at h
    split at h
    · simp only [Bool.and_eq_true, decide_eq_true_eq] at h
      obtain ⟨⟨⟨⟨h1, h2⟩, h3⟩, h4⟩, h5⟩ := h
      exact s_extm Y h1 h2 h3 h4 (sE e b Y _ h5).dat
    · cases h
  | .ife t a b', _, X, c, b, Y, s', h => by
    simp only [mS] at h
    split at h
    · simp only [Bool.and_eq_true] at h
      obtain ⟨⟨⟨h1, h2⟩, h3⟩, h4⟩ := h
      exact s_if (sT t b Y _ h1 h2) (sSs a b Y _ h3) (sSs b' b Y _ h4)
    · cases h
  | .for_ G it bd, _, X, c, b, Y, s', h => by
    simp only [mS] at h
    split at h
    · simp only [Bool.and_eq_true, Bool.not_eq_true'] at h
      obtain ⟨⟨⟨⟨h1, h2⟩, h3⟩, h4⟩, h5⟩ := h
      have hk : keepOf it = [] := by cases it <;> first | rfl | cases h1
      exact s_for Y hk h2 (sI it b Y _ _ h3) (g_ok Y G _ h4) (sSs bd b Y _ h5)
    · cases h
  | .whl t bd, _, X, c, b, Y, s', h => by
    simp only [mS] at h
    split at h
    · simp only [Bool.and_eq_true] at h
      obtain ⟨⟨h1, h2⟩, h3⟩ := h
      exact s_while Y (sT t b Y _ h1 h2) (sSs bd b Y _ h3)
    · cases h
  | .ret e, _, X, c, b, Y, s', h => by
    simp only [mS] at h
    split at h
    · exact s_ret (sE e b Y _ h)
    · cases h
  | .exp e, _, X, c, b, Y, s', h => by
    simp only [mS] at h
    split at h
    · simp only [Bool.and_eq_true] at h
      exact s_exp h.1 (sE e b Y _ h.2).dat
    · cases h
  | .mk a b' d, _, X, c, b, Y, s', h => by
    simp only [mS] at h
    split at h
    · simp only [Bool.and_eq_true, decide_eq_true_eq] at h
      obtain ⟨⟨⟨⟨⟨h1, h2⟩, h3⟩, h4⟩, h5⟩, h6⟩ := h
      subst h1; subst h2; subst h3
      exact s_mk Y (fun b1 => sE a b1 Y _ h4) (fun b1 => sE b' b1 Y _ h5) (fun b1 => sE d b1 Y _ h6)
    · cases h
  | .put a x e, _, X, c, b, Y, s', h => by
    simp only [mS] at h
    split at h
    · simp only [Bool.and_eq_true, decide_eq_true_eq] at h
      obtain ⟨⟨⟨h1, h2⟩, h3⟩, h4⟩ := h
      subst h1
      exact s_put Y h2 (sE a b Y _ h3).dat (sE e b Y _ h4).dat
    · cases h
  | .obs a i e, _, X, c, b, Y, s', h => by
    simp only [mS] at h
    split at h
    · simp only [Bool.and_eq_true] at h
      obtain ⟨⟨⟨⟨h1, h2⟩, h3⟩, h4⟩, h5⟩ := h
      exact s_obs Y h1 h2 (sE a b Y _ h3).dat (sE i b Y _ h4).dat (sE e b Y _ h5).dat
    · cases h
  | .ppar a x i e1 e2, _, X, c, b, Y, s', h => by
    simp only [mS] at h
    split at h
    · simp only [Bool.and_eq_true, decide_eq_true_eq] at h
      obtain ⟨⟨⟨⟨⟨⟨⟨h1, hw⟩, h2⟩, h3⟩, h4⟩, h5⟩, h6⟩, h7⟩ := h
      subst h1
      exact s_ppar Y hw h4 h2 h3 (sE a b Y _ h5).dat (sE e1 b Y _ h6).dat (sE e2 b Y _ h7).dat
    · cases h
  | .dead, _, X, c, b, Y, s', h => PS.by fun D σ H q => by
    obtain ⟨F, ρ, fr, st, A, p⟩ := q
    exact p.elim
  | .rais q x e, _, X, c, b, Y, s', h => by
    simp only [mS] at h
    split at h
    · simp only [Bool.and_eq_true, decide_eq_true_eq] at h
      obtain ⟨⟨⟨⟨⟨h1, h2⟩, h3⟩, h4⟩, h5⟩, h6⟩ := h
      subst h1
      exact s_rais Y h2 h3 h4 h5 (sE e b Y _ h6).dat
    · cases h
  | .tryc t e cs i j, _, X, c, b, Y, s', h => by
    simp only [mS] at h
    split at h
    · simp only [Bool.and_eq_true] at h
      obtain ⟨⟨h1, h2⟩, h3⟩ := h
      split at h3
      · simp only [Bool.and_eq_true] at h3
        exact s_tryc (body := .cons (.exp e) .nil) Y h1 h2 (fun W pn xe tk own => s_cons (s_exp h3.1 (sE e b (Y.tr tk own) _ h3.2).dat) s_nil) fun fr st => by
          simp only [exs, ex]
          cases ev cf e fr st <;> rfl
      · rename_i k y py e'' pz
        simp only [Bool.and_eq_true] at h3
        exact s_tryc (body := .cons (.asg (.nm k) e) .nil) Y h1 h2 (fun W pn xe tk own => s_cons (s_asg (Y.tr tk own) (g_ok (Y.tr tk own) (.nm k) (.Name y py) (by simpa only [mG] using h3.1.1)) (sE e b (Y.tr tk own) e'' h3.2).dat (by cases e'' <;> rfl) rfl (by have h4 := h3.1.2; cases e'' <;> first | rfl | cases h4)) s_nil) fun fr st => by
          simp only [exs, ex]
          cases ev cf e fr st with
          | ok w s1 =>
            simp only [R.out, Out.andThen]
            cases putG (.nm k) w.d fr <;> rfl
          | exc q p s1 => rfl
          | bad => rfl
      · cases h3
    · cases h
  | .told _ _ _ _ _, _, X, c, b, Y, s', h => by cases h
theorem sSs : ∀ (s : Ss) {wx : WX} {X : Cx} {c : Cc} (b : Bs) (Y : Cy g wx cf k X c) (s' : List Stmt), mSs c s s' = true → PSs X s' (TX g b wx (exs cf wf s))
  | .nil, _, X, c, b, Y, s', h => by
    simp only [mSs] at h
    split at h
    · exact s_nil
    · cases h
  | .cons s r, _, X, c, b, Y, s', h => by
    simp only [mSs] at h
    split at h
    · simp only [Bool.and_eq_true] at h
      exact s_cons (sS s b Y _ h.1) (sSs r b Y _ h.2)
    · cases h
  | .frz i r, _, X, c, b, Y, s', h => s_frz (sSs r b Y _ (by simpa only [mSs] using h))
  | .melt i r, _, X, c, b, Y, s', h => s_melt (sSs r b Y _ (by simpa only [mSs] using h))
end
end
end MP

set_option Elab.async false
set_option linter.all false
set_option maxRecDepth 100000
set_option maxHeartbeats 8000000
namespace MP
open PySem PySem.Spec L2
open PyProof.Rows (envOfC)
/-! ### a def that calls the lambda it gets: names set to None, one try, a tail -/
def locN (c : Cc) (i : Nat) (x : Str) : Bool := decide (c.N[i]? = some x) && isLocal (c.sc.names.lookup x) && decide (i ≠ 0)
def preB (c : Cc) : List Nat → Stmt → Bool
  | [n], .Assign [.Name x _] (.Constant .none _ _) _ => locN c n x
  | [n, n2], .Assign [.Tuple [.Name x p1, .Name x2 p2] k p3] (.Tuple [.Constant .none j1 p4, .Constant .none j2 p5] k2 p6) _ => locN c n x && locN c n2 x2 && decide (swCls c.sc [.Name x p1, .Name x2 p2] [.Constant .none j1 p4, .Constant .none j2 p5] = some none)
  | _, _ => false
def bodB (c : Cc) (a : Str) : Option Nat → Stmt → Bool
  | none, .Expr (.Call (.Name y _) [] [] _) _ => decide (y = a)
  | some k, .Assign [.Name z _] (.Call (.Name y _) [] [] _) _ => decide (y = a) && locN c k z
  | _, _ => false
def mTold (c : Cc) (a : Str) : Ss → List Stmt → Bool
  | .cons (.told ns t cs i j) tail, s0 :: .Try [b] [.ExceptHandler (some ce) (some n) [.Assign [.Name m _] (.Name n' _) _] _] [] [] _ :: rest =>
    preB c ns s0 && bodB c a t b && tryB c cs ce n m n' i j && decide (i ≠ 0) && decide (j ≠ 0) && decide (c.N[0]? = some a) && isLocal (c.sc.names.lookup a) && !(a == ("__debug__" : Str)) && !(a == ("__classdict__" : Str)) && mSs c tail rest
  | _, _ => false
def nonσ : List Nat → L2.St → L2.St
  | [], σ => σ
  | n :: r, σ => nonσ r (σ.set n (some .non))
section
variable {g : Gb} {b : Bs} {wx : WX} {cf : Nat → List D → Sto → R W} {k wf : Nat} {X : Cx} {c : Cc} {F F' : Hp} {ρ ρ' : Rho} {σ : L2.St} {H H' : Hp} {fr : Fr} {st st' : Sto} {Q : VK} {Dn : Ends}
theorem Ab.nons : ∀ (ns : List Nat) {σ : L2.St} {fr : Fr}, Ab g b F ρ σ H fr st → Ab g b F ρ (nonσ ns σ) H (MP.nons ns fr) st
  | [], _, _, A => A
  | n :: ns, _, _, A => Ab.nons ns (A.put n (d := .non) .non)
theorem nonσ_0 : ∀ (ns : List Nat) (σ : L2.St), (∀ n ∈ ns, n ≠ 0) → (nonσ ns σ)[0]? = σ[0]?
  | [], _, _ => rfl
  | n :: ns, σ, h => by
    rw [nonσ, nonσ_0 ns _ fun x hx => h x (List.mem_cons_of_mem _ hx), List.getElem?_set_ne (h n List.mem_cons_self)]
theorem Ab.blank (A : Ab g b F ρ [] H [] st) (σ : L2.St) (n : Nat) (hn : σ.length = n) : Ab g b F ρ σ H (List.replicate n .un) st := by
  have no : ∀ {i : Nat} {q : Slot}, (List.replicate n Slot.un)[i]? = some q → q = .un := fun {i q} e => by
    rw [List.getElem?_replicate] at e
    split at e <;> cases e
    rfl
  exact {
    sub := A.sub, ext := A.ext, new := A.new, rho := A.rho, keep := A.keep, fsh := A.fsh, sto := A.sto, tb := A.tb
    len := by rw [List.length_replicate, hn]
    dat := fun i d e => by cases no e
    mu := fun i d e => by cases no e
    apart := fun i j a zs ws e1 => by cases no e1
    pin := fun q hq => by
      obtain ⟨h1, h2, h3, h4, _⟩ := A.pin q hq
      exact ⟨h1, h2, h3, h4, fun i ys e => by cases no e⟩ }
theorem locN_ok (Y : Cy g wx cf k X c) {i : Nat} {x : Str} (h : locN c i x = true) : X.N[i]? = some x ∧ X.env.scope.names.lookup x = some .local ∧ i ≠ 0 := by
  unfold locN at h
  simp only [Bool.and_eq_true, decide_eq_true_eq] at h
  exact ⟨by rw [Y.hN]; exact h.1.1, by rw [Y.hsc]; exact isLocal_eq h.1.2, h.2⟩
theorem s_pre (Y : Cy g wx cf k X c) {ns : List Nat} {s0 : Stmt} (h : preB c ns s0 = true) : PS X s0 (fun D σ H => ∀ H', (H' = H ∨ ∃ q, H q = none ∧ H' = upd H q (.tup [.non, .non])) → D.nx (nonσ ns σ) H') ∧ ∀ n ∈ ns, n ≠ 0 := by
  unfold preB at h
  split at h
  · obtain ⟨h1, h2, h3⟩ := locN_ok Y h
    refine ⟨PS.by fun D σ H q => ⟨_, ps_set Y.G.nd h1 (.inl h2) pe_non rfl (.inr h2), q H (.inl rfl)⟩, fun n hn => by rw [List.mem_singleton.mp hn]; exact h3⟩
  · simp only [Bool.and_eq_true, decide_eq_true_eq] at h
    obtain ⟨⟨h1, h2⟩, h3⟩ := h
    obtain ⟨a1, a2, a3⟩ := locN_ok Y h1
    obtain ⟨b1, b2, b3⟩ := locN_ok Y h2
    refine ⟨PS.by fun D σ H q => ⟨_, ps_asg (pe_tup (pa_cons pe_non (pa_cons pe_non pa_nil))) (pg_tup Y.G.calm (pgs_cons (pg_name Y.G.nd a1 (.inl a2) (.inr a2)) (pgs_cons (pg_name Y.G.nd b1 (.inl b2) (.inr b2)) pgs_nil))) rfl (sw_none Y.hsc Y.kind h3) rfl, ?_⟩, fun n hn => ?_⟩
    · refine ⟨by show 2 ≤ sizeLine; decide, fun p hp => ⟨p, [.non, .non], rfl, .inl (.inl upd_same), rfl, .non, [.non], rfl, .non, [], rfl, rfl, q _ (.inr ⟨p, hp, rfl⟩)⟩⟩
    · simp only [List.mem_cons, List.not_mem_nil, or_false] at hn
      rcases hn with rfl | rfl
      · exact a3
      · exact b3
  · cases h
/-- the lambda called within told's try -/
theorem act_pe {N : List Str} {qual a : Str} {scope : Scope} {f : Addr} {cdv : Value} {A : Around} {outer : List PySem.Env} {s : Shared} {H : Hp} {E : XK} {lam : Addr} {tl : XK → Hp → VK → Prop} {j : Nat} {W : WX} {pn : List (Addr × Obj)} {xe : Value → Shared → Prop} {p1 p2 : Pos}
    (act : Act g j A outer s H lam tl) (hN : N[0]? = some a) (hv : scope.names.lookup a = some .local) (hgu : A.guards = some []) (hr : Room (j + 1) (A.deeper (envOfC qual scope s.heap.objs.size f cdv)))
    (tk : Takes ((cxOf (L2.CX g.P g.w) g.P g.w g.K g.mg g.base N qual scope f cdv A outer s H E).tr pn xe) W) (hd : (a == ("__debug__" : Str)) = false) (hcd : (a == ("__classdict__" : Str)) = false) :
    PE ((cxOf (L2.CX g.P g.w) g.P g.w g.K g.mg g.base N qual scope f cdv A outer s H E).tr pn xe) (.Call (.Name a p1) [] [] p2) (fun σZ HZ Q => σZ[0]? = some (some (.ref lam)) ∧ tl (WE W σZ) HZ Q) := by
  refine ⟨fun pins s1 σZ HZ Q I ht => ?_⟩
  obtain ⟨hs, ht⟩ := ht
  refine wpAny_Call_Name_kw (thn ((pe_var (X := (cxOf (L2.CX g.P g.w) g.P g.w g.K g.mg g.base N qual scope f cdv A outer s H E).tr pn xe) (pos := p1) (i := 0) hN (.inl hv) hd hcd).run pins s1 σZ HZ (fun v H1 => v = .ref lam ∧ H1 = HZ) I ⟨.ref lam, hs, rfl, rfl⟩) fun u s2 ⟨v, H1, I1, r1, q1⟩ => ?_)
  obtain ⟨ev, eH⟩ := q1
  subst ev
  rw [eH] at I1
  obtain rfl : u = Value.ref lam := r1
  have un : Un (frs outer) [] H HZ s.heap s2.heap := I1.base
  obtain ⟨o, ho, hfn⟩ := act.obj
  have of1 := un.keep lam _ ho act.free act.nfr (by simp)
  refine PySem.W.callWith_F0 (hfn _ of1) ?_
  refine wpAny_call (codeAny_mono (act.run (envOfC qual scope s.heap.objs.size f cdv) s2 HZ Q (WE W σZ) hgu hr I1.env0 un ht) fun r s' hq => ?_)
  cases r with
  | error e => exact passAt tk σZ pins HZ s2 e s' I1 hq
  | ok fl =>
    cases fl with
    | ret u => exact I1.after hq
    | next => exact False.elim hq
    | brk => exact False.elim hq
    | cont => exact False.elim hq
end
end MP

set_option Elab.async false
set_option linter.all false
set_option maxRecDepth 100000
set_option maxHeartbeats 8000000
namespace MP
open PySem PySem.Spec L2
open PyProof.Rows (AllBare envOfC)
section
variable {g : Gb} {b : Bs} {wx : WX} {k wf : Nat} {F F' : Hp} {ρ ρ' : Rho} {σ : L2.St} {H H' : Hp} {fr : Fr} {st st' : Sto} {Q : VK}
theorem st0_dat {Fn : Fn} {ds : List D} {i : Nat} {d : D} (h : (st0 Fn ds)[i]? = some (.dat d)) : ds[i]? = some d := by
  unfold st0 at h
  by_cases hi : i < ds.length
  · rw [List.getElem?_append_left (by simpa using hi), List.getElem?_map] at h
    cases e : ds[i]? with
    | none => rw [e] at h; cases h
    | some q => rw [e] at h; cases h; rfl
  · rw [List.getElem?_append_right (by simpa using hi), List.getElem?_replicate] at h
    split at h <;> cases h
theorem st0_mut {Fn : Fn} {ds : List D} {i : Nat} {d : List D} (h : (st0 Fn ds)[i]? = some (.mut d)) : False := by
  unfold st0 at h
  by_cases hi : i < ds.length
  · rw [List.getElem?_append_left (by simpa using hi), List.getElem?_map] at h
    cases e : ds[i]? with
    | none => rw [e] at h; cases h
    | some q => rw [e] at h; cases h
  · rw [List.getElem?_append_right (by simpa using hi), List.getElem?_replicate] at h
    split at h <;> cases h
/-- a def's frame at its entry -/
theorem Ab.begin {Fn : Fn} {N : List Str} {ds : List D} {vs : List V} (A : Ab g b F ρ [] H [] st) (r : VRs g F ρ ds vs) (hn : Fn.nN = N.length) : Ab g b F ρ (L2.start N vs) H (st0 Fn ds) st where
  sub := A.sub
  ext := A.ext
  new := A.new
  rho := A.rho
  keep := A.keep
  fsh := A.fsh
  sto := A.sto
  tb := A.tb
  len := by
    unfold st0 L2.start
    rw [List.length_append, List.length_append, List.length_map, List.length_map, List.length_replicate, List.length_replicate, r.length, hn]
  dat := fun i d e => by
    obtain ⟨v, h1, h2⟩ := r.get (st0_dat e)
    refine ⟨v, ?_, h2⟩
    unfold L2.start
    have hi : i < vs.length := (List.getElem?_eq_some_iff.mp h1).1
    rw [List.getElem?_append_left (by simpa using hi), List.getElem?_map, h1]
    rfl
  mu := fun i xs e => (st0_mut e).elim
  apart := fun i j a xs ys e => (st0_mut e).elim
  pin := fun q hq => by
    obtain ⟨h1, h2, h3, h4, _⟩ := A.pin q hq
    exact ⟨h1, h2, h3, h4, fun i ys e => (st0_mut e).elim⟩
theorem PoS_done {o : Out} (h : Po g b wx WR (done o) F ρ [] [] Q) (hw : ∀ c d σ σ' H, wx c d σ H → wx c d σ' H) : PoS g b wx o F ρ { nx := fun _ H' => Q .non H', rt := Q } := by
  cases o with
  | nx fr st => exact fun F' ρ' σ' H' S P A => h F' ρ' H' .non S P A.bare .non
  | rt w st => exact h
  | exc c p fr st => exact fun F' ρ' σ' H' cls d S P A x => hw _ _ _ _ _ (h F' ρ' H' cls d S P A.bare x)
  | bad => exact h
/-- a def of the text: its body keeps the promise -/
theorem fnG_of {dvs : List V} {kws : List (Str × V)} {f : Addr} {x qual : Str} {params : Arguments} {body : List Stmt} {scope : Scope} {fd : FuncData} {N ps : List Str} {sp : Sp} (FD : FunD g.K x qual params body scope dvs kws f fd) (S : FnScope N ps scope) (len : ∀ vs H Q E, sp vs H Q E → vs.length = ps.length)
    (hb : ∀ (cdv : Value), (∃ oc od osl, g.K.lookup f = some ⟨oc, od, .func fd, osl⟩ ∧ fd.code = cdv) → ∀ (A : Around) (outer : List PySem.Env) (s : Shared) (H : Hp) (vs : List V) (Q : VK) (E : XK), (A.deeper (envOfC qual scope s.heap.objs.size f cdv)).guards = some [] → Room k (A.deeper (envOfC qual scope s.heap.objs.size f cdv)) → sp vs H Q E →
      ∃ t, PSs (cxOf (L2.CX g.P g.w) g.P g.w g.K g.mg g.base N qual scope f cdv A outer s H E) body t ∧ t { nx := fun _ H' => Q .non H', rt := Q } (L2.start N vs) H) : FnG g (k + 1) f fd ps sp := by
  obtain ⟨oc, od, dV, kV, doc, pm, an, cdv, ct, osl, rfl, lk, hcd, _, _⟩ := FD.ex
  refine ⟨len, fun A outer s H args us vs Q E hgu hroom hz hbind hv hq => ?_⟩
  have kin : g.K.In s.heap := hz.mod.kin.keeps fun c o q => (hz.bs c o q).1
  have nol : s.heap.NoLimit := hz.mod.nolimit.keeps fun c o q => (hz.bs c o q).1
  have kd : ∀ y ∈ ps.zip us, scope.names.lookup y.1 = some .local ∨
      (scope.names.lookup y.1 = some .cell ∧ ((cellsFrom (s.heap.objs.size + 1) scope.names []).lookup y.1).isSome = true) := by
    rintro ⟨n, v⟩ hy
    rcases S.par n (List.of_mem_zip hy).1 with q | q
    · exact .inl q
    · exact .inr ⟨q, PySem.W.cellsFrom_some _ _ _ (.inl q)⟩
  refine codeAny_call_function hroom.depth (kin _ _ lk) rfl S.co S.gen rfl
    (PySem.W.codeRec_of kin hcd) (hbind _ _ _ _ ?_)
  refine wpAny_newFunctionEnv_cells S.kind kd fun env he s2 ic => ?_
  subst he
  refine ⟨nol.keeps ic.toInCall.keep, codeAny_func ?_⟩
  obtain ⟨t, pt, qt⟩ := hb cdv ⟨_, _, _, lk, rfl⟩ A outer s H vs Q E hgu (hroom.deeper _) hq
  have I0 : Inv (cxOf (L2.CX g.P g.w) g.P g.w g.K g.mg g.base N qual scope f cdv A outer s H E) [] (L2.start N vs) H s2 :=
    inv_start S hroom.hd hz (len _ _ _ _ hq) hv ic
  refine wpAny_mono (pt.run [] s2 (L2.start N vs) H _ I0 qt) (fun fl s3 hs => ?_) fun e s3 hs => hs
  cases fl with
  | ret u =>
    obtain ⟨v, σ3, H3, J, rv, q⟩ := hs
    exact ⟨v, H3, J.os, J.bare, J.base, J.hok, rv, q⟩
  | next =>
    obtain ⟨σ3, H3, J, q⟩ := hs
    exact ⟨.non, H3, J.os, J.bare, J.base, J.hok, rfl, q⟩
  | brk => exact (let ⟨_, _, _, q⟩ := hs; False.elim q)
  | cont => exact (let ⟨_, _, _, q⟩ := hs; False.elim q)
/-- what a def's text must have where it holds lambdas: its table -/
def LamD (g : Gb) (f : Addr) (qual : Str) : Prop := ∃ cd P, PySem.W.codeIn g.K (.ref cd) qual = true ∧ (∀ oc od fd osl, g.K.lookup f = some ⟨oc, od, .func fd, osl⟩ → fd.code = .ref cd) ∧ LamX.TabB g.base g.mg cd P ∧ (P, qual ++ ".<locals>." ++ "<lambda>") ∈ g.T ∧ ∀ p ∈ g.T, p.1 = P → p.2 = qual ++ ".<locals>." ++ "<lambda>"
/-- a table's def -/
theorem fn_ok {dvs : List V} {kws : List (Str × V)} {T : Tab} {fx : Str → Option Nat} {cs : Str → Option D} {xc tx : Str → Option Nat} {lm : Bool} {i : Nat} {Fn : Fn} {x qual : Str} {params : Arguments} {body : List Stmt} {scope : Scope} {f : Addr} {fd : FuncData} {N ps : List Str} (M : Md g (run T wf k) k fx cs xc tx)
    (FD : FunD g.K x qual params body scope dvs kws f fd) (S : FnScope N ps scope) (hT : T.fn i = some Fn) (hlm : lm = true → LamD g f qual) (hm : mSs ⟨N, scope, fun _ => true, fx, cs, xc, tx, lm, true⟩ Fn.body body = true) (hn : Fn.nN = N.length) (hp : Fn.np = ps.length) :
    FnG g (3 * (k + 1)) f fd ps (spOf g (run T wf (k + 1) i) ps.length) := by
  refine fnG_of (k := 3 * k + 2) FD S (fun vs H Q E ⟨_, _, _, _, h, _⟩ => h) fun cdv hcd A outer s H vs Q E hgu hroom hq => ?_
  obtain ⟨F, ρ, ds, st, hl, A0, rv, p⟩ := hq
  have Y : Cy g (fun cls d _ H => E cls d H) (run T wf k) k (cxOf (L2.CX g.P g.w) g.P g.w g.K g.mg g.base N qual scope f cdv A outer s H E) ⟨N, scope, fun _ => true, fx, cs, xc, tx, lm, true⟩ :=
    ⟨⟨rfl, rfl, rfl, rfl, rfl, rfl, S.nd, hroom.mono (Nat.le_add_right _ 2), hgu, takes_of rfl rfl rfl rfl, passes_of rfl, M.xs.sm⟩, M, rfl, rfl, S.kind, fun _ _ => .inl rfl, fun _ => ⟨rfl, rfl, rfl⟩, fun h => ⟨hroom, by
      obtain ⟨cd, P, h1, h2, h3, h4, h5⟩ := hlm h
      obtain ⟨oc, od, osl, lk⟩ := hcd
      have e : cdv = .ref cd := h2 _ _ _ _ lk.1 ▸ lk.2.symm
      exact ⟨cd, P, e, h3, h4, h5⟩⟩⟩
  refine ⟨_, sSs (wf := wf) Fn.body ⟨H, F, ρ, []⟩ Y body hm, F, ρ, st0 Fn ds, st, A0.begin rv hn, ?_⟩
  simp only [run, hT] at p
  split at p
  · exact PoS_done p fun _ _ _ _ _ h => h
  · exact p.elim
/-- a def that calls the lambda it gets -/
theorem told_ok {T : Tab} {fx : Str → Option Nat} {cs : Str → Option D} {xc tx : Str → Option Nat} {i0 : Nat} {Fn : Fn} {x qual a : Str} {params : Arguments} {body : List Stmt} {scope : Scope} {f : Addr} {fd : FuncData} {N : List Str} (M : Md g (run T wf k) k fx cs xc tx)
    (FD : FunD g.K x qual params body scope [] [] f fd) (S : FnScope N [a] scope) (hT : T.fn i0 = some Fn) (hm : mTold ⟨N, scope, fun _ => true, fx, cs, xc, tx, false, true⟩ a Fn.body body = true) (hn : Fn.nN = N.length) (hp : Fn.np = 1) (hb : Binds g.K fd [a] []) :
    ToldG g (3 * (k + 1)) f (run T wf (k + 1) i0) := by
  intro A outer s H lam Q E tl F ρ st hgu hr e0 act A0 hyp
  obtain ⟨oc, od, dV, kV, doc, pm, an, cdv, ct, osl, rfl, lk, hcd, _, _⟩ := FD.ex
  unfold mTold at hm
  split at hm
  · rename_i ns t cs' i j tail s0 bd ce n m q1 n' q2 q3 p4 p5 rest hbody
    simp only [Bool.and_eq_true, decide_eq_true_eq, Bool.not_eq_true'] at hm
    obtain ⟨⟨⟨⟨⟨⟨⟨⟨⟨m1, m2⟩, m3⟩, m4⟩, m5⟩, m6⟩, m7⟩, m8⟩, m9⟩, m10⟩ := hm
    have m7 := isLocal_eq m7
    have kin : g.K.In s.heap := e0.mod.kin.keeps fun c o q => (e0.bs c o q).1
    refine LamX.run_ofS (k := 3 * k + 4) (N := N) (ps := [a]) (us := [.ref lam]) (vs := [.ref lam]) lk hcd S hr e0 (by simpa using hb s [.ref lam] kin rfl) (.cons rfl .nil) rfl fun hr' => ?_
    have Y : Cy g (fun cls d _ H => E cls d H) (run T wf k) k (cxOf (L2.CX g.P g.w) g.P g.w g.K g.mg g.base N qual scope f cdv A outer s H E) ⟨N, scope, fun _ => true, fx, cs, xc, tx, false, true⟩ :=
      ⟨⟨rfl, rfl, rfl, rfl, rfl, rfl, S.nd, hr'.mono (by omega), hgu, takes_of rfl rfl rfl rfl, passes_of rfl, M.xs.sm⟩, M, rfl, rfl, S.kind, fun _ _ => .inl rfl, fun _ => ⟨rfl, rfl, rfl⟩, fun h => by cases h⟩
    obtain ⟨pp, pns⟩ := s_pre Y m1
    have hB := m3
    simp only [tryB, Bool.and_eq_true, decide_eq_true_eq, Bool.not_eq_true'] at hB
    obtain ⟨⟨⟨⟨⟨⟨⟨⟨h1, h2⟩, h3⟩, h4⟩, h5⟩, h6⟩, h7⟩, h8⟩, h9⟩ := hB
    subst h2
    obtain ⟨TSt, hcs⟩ := cls_tst Y h1
    have tl_ : PSs (cxOf (L2.CX g.P g.w) g.P g.w g.K g.mg g.base N qual scope f cdv A outer s H E) rest (fun D σ H => ∃ b', TX g b' (fun cls d _ H => E cls d H) (exs (run T wf k) wf tail) D σ H) := PSs.by fun D σ H ⟨b', q⟩ => ⟨_, sSs (wf := wf) tail b' Y rest m10, q⟩
    -- the try's body
    let tb : WX → TS := fun W D σ HZ => σ[0]? = some (some (.ref lam)) ∧ tl (WE W σ) HZ fun v H1 => D.nx (match t with | none => σ | some k => σ.set k (some v)) H1
    have hbd : ∀ (W : WX) (pn : List (Addr × Obj)) (xe : Value → Shared → Prop), Takes ((cxOf (L2.CX g.P g.w) g.P g.w g.K g.mg g.base N qual scope f cdv A outer s H E).tr pn xe) W → PassesOwn (model g.P g.w) (A.deeper (envOfC qual scope s.heap.objs.size f cdv)) (envOfC qual scope s.heap.objs.size f cdv) xe →
        PSs ((cxOf (L2.CX g.P g.w) g.P g.w g.K g.mg g.base N qual scope f cdv A outer s H E).tr pn xe) [bd] (tb W) := fun W pn xe tk own => by
      have Y' := Y.tr tk own
      unfold bodB at m2
      split at m2
      · have e1 := of_decide_eq_true m2
        subst e1
        exact PSs.by fun D σ HZ q => ⟨_, pss_one (ps_expr (act_pe act m6 m7 hgu (hr'.mono (by omega)) tk m8 m9) rfl), q⟩
      · simp only [Bool.and_eq_true, decide_eq_true_eq] at m2
        obtain ⟨e1, e2⟩ := m2
        subst e1
        obtain ⟨k1, k2, k3⟩ := locN_ok Y' e2
        exact PSs.by fun D σ HZ q => ⟨_, pss_one (ps_set Y'.G.nd k1 (.inl k2) (act_pe act m6 m7 hgu (hr'.mono (by omega)) tk m8 m9) rfl (.inr k2)), q⟩
      · cases m2
    refine ⟨_, pss_cons pp (pss_cons (ps_try_err (tb := tb) rfl rfl rfl S.nd h3 (isLocal_eq h4) h5 (isLocal_eq h6) (List.getElem?_eq_some_iff.mp h3).1 h8 h9 TSt Y.G.takes hbd) tl_), fun H1 hH1 => ?_⟩
    have A1 : Ab g ⟨H, F, ρ, []⟩ F ρ [] H1 [] st := by
      rcases hH1 with rfl | ⟨q, hq, rfl⟩
      · exact A0
      · exact A0.alloc _ hq
    have s00 : (L2.start N [V.ref lam])[0]? = some (some (.ref lam)) := by
      unfold L2.start; rfl
    refine ⟨by rw [nonσ_0 _ _ pns]; exact s00, ?_⟩
    have run_eq : ∀ d st', run T wf (k + 1) i0 [d] st' = done (exs (run T wf k) wf Fn.body (st0 Fn [d]) st') := fun d st' => by
      simp only [run, hT, hp, List.length_cons, List.length_nil, if_true]
    have hpos : 0 < N.length := (List.getElem?_eq_some_iff.mp m6).1
    have e00 : ∀ d, getD (st0 Fn [d]) 0 = some d := fun d => by simp [st0, getD]
    have eun : ∀ d, (st0 Fn [d]).set 0 .un = List.replicate N.length .un := fun d => by
      unfold st0
      rw [hn]
      cases hN : N.length with
      | zero => rw [hN] at hpos; cases hpos
      | succ n => simp [List.replicate_succ]
    have len0 : (L2.start N [V.ref lam]).length = N.length := by
      unfold L2.start
      simp
      omega
    refine act.mono _ _ _ _ _ (fun cls dd H2 hE => ?_) (fun v H2 hQ => ?_) (hyp F H1 (.refl _) A1)
    · -- the lambda raised
      obtain ⟨F', ρ', st', q, p, S1, P1, A2, x, po⟩ := hE
      rw [run_eq, hbody] at po
      simp only [exs, ex, e00, eun] at po
      have hx := x
      obtain ⟨kn, ec, _⟩ := hx
      subst ec
      have A3 := Ab.nons ns (A2.blank (L2.start N [V.ref lam]) N.length len0)
      refine ⟨_, exm_cs M.xs kn hcs, fun hb a ha => ?_, fun hb => ?_⟩
      · simp only [hb, if_true, Out.andThen] at po
        obtain ⟨F2, S2, A4⟩ := caught A3 x ha h7
        exact ⟨_, F2, ρ', _, st', A4, (PoS_done po fun _ _ _ _ _ h => h).mono S2 (pfx _)⟩
      · simp only [hb, Bool.false_eq_true, if_false, Out.andThen, done] at po
        exact po F' ρ' H2 _ dd (.refl _) (pfx _) A2 x
    · obtain ⟨F', ρ', st', d, S1, P1, A2, rv, po⟩ := hQ
      rw [run_eq, hbody] at po
      simp only [exs, ex, e00, eun] at po
      have A3 := Ab.nons ns (A2.blank (L2.start N [V.ref lam]) N.length len0)
      cases t with
      | none => exact ⟨_, F', ρ', _, st', A3, PoS_done po fun _ _ _ _ _ h => h⟩
      | some k0 => exact ⟨_, F', ρ', _, st', A3.put k0 rv, PoS_done po fun _ _ _ _ _ h => h⟩
  · cases hm
/-- what is known of each def's name -/
structure Known (g : Gb) (T : Tab) (wf : Nat) (fx : Str → Option Nat) (cs : Str → Option D) (xc tx : Str → Option Nat) : Prop where
  xs : Xs g xc
  x0 : g.k0 = true → X0s g xc
  blt : ∀ x ∈ bltNames, g.mg x = none
  con : ∀ x d, cs x = some d → ∃ v u, g.mg x = some u ∧ RelV v u ∧ ∀ F ρ, VR g F ρ d v
  fn : ∀ x i, fx x = some i → ∃ fd ps, g.mg x = some (.ref (g.fa i)) ∧ PySem.W.keepIn g.K (.ref (g.fa i)) = true ∧ BindF g.K fd ps (kwId i) ∧
    ∃ Fn qual params body scope N lm, T.fn i = some Fn ∧ (∃ dvs kws, FunD g.K x qual params body scope dvs kws (g.fa i) fd) ∧ FnScope N ps scope ∧ (lm = true → LamD g (g.fa i) qual) ∧ mSs ⟨N, scope, fun _ => true, fx, cs, xc, tx, lm, true⟩ Fn.body body = true ∧ Fn.nN = N.length ∧ Fn.np = ps.length
  told : ∀ x i, tx x = some i → ∃ fd a, g.mg x = some (.ref (g.fa i)) ∧ PySem.W.keepIn g.K (.ref (g.fa i)) = true ∧ Binds g.K fd [a] [] ∧
    ∃ Fn qual params body scope N, T.fn i = some Fn ∧ FunD g.K x qual params body scope [] [] (g.fa i) fd ∧ FnScope N [a] scope ∧ mTold ⟨N, scope, fun _ => true, fx, cs, xc, tx, false, true⟩ a Fn.body body = true ∧ Fn.nN = N.length ∧ Fn.np = 1
theorem known_md {T : Tab} {fx : Str → Option Nat} {cs : Str → Option D} {xc tx : Str → Option Nat} (Kn : Known g T wf fx cs xc tx) : ∀ k, Md g (run T wf k) k fx cs xc tx
  | 0 => ⟨Kn.xs, Kn.x0, fun x i h => by
    obtain ⟨fd, a, h1, h2, h3, _⟩ := Kn.told x i h
    exact ⟨h1, h2, .inr fun _ _ => rfl⟩, Kn.blt, Kn.con, fun x i h => by
    obtain ⟨fd, ps, h1, h2, h3, _⟩ := Kn.fn x i h
    refine ⟨fd, ps, h1, h2, h3, ⟨fun vs H Q E ⟨_, _, _, _, hl, _⟩ => hl, fun A outer s H args us vs Q E _ _ _ _ _ hq => ?_⟩, fun ds st hb => absurd rfl hb⟩
    obtain ⟨F, ρ, ds, st, _, _, _, p⟩ := hq
    exact p.elim⟩
  | k + 1 => ⟨Kn.xs, Kn.x0, fun x i h => by
    obtain ⟨fd, a, h1, h2, h3, Fn, qual, params, body, scope, N, t1, t2, t3, t4, t5, t6⟩ := Kn.told x i h
    exact ⟨h1, h2, .inl (told_ok (known_md Kn k) t2 t3 t1 t4 t5 t6 h3)⟩, Kn.blt, Kn.con, fun x i h => by
    obtain ⟨fd, ps, h1, h2, h3, Fn, qual, params, body, scope, N, lm, t1, ⟨_, _, t2⟩, t3, tl, t4, t5, t6⟩ := Kn.fn x i h
    refine ⟨fd, ps, h1, h2, h3, fn_ok (known_md Kn k) t2 t3 t1 tl t4 t5 t6, fun ds st hb => ?_⟩
    simp only [run, t1] at hb
    split at hb
    · rename_i q; rw [q, t6]
    · exact absurd rfl hb⟩
end

/-! ### the law's own call -/
theorem callG {g : Gb} {k : Nat} {mb : Str → Option Value} {fa a : Addr} {fd : FuncData} {x : Str} {sp : Sp} {s0 : Shared} {its : List Value} {ns : List Int} {ts : List (Addr × Addr)}
    (kin : g.K.In s0.heap) (hns : s0.heap.Ns mainGlobals g.mg) (hbl : s0.heap.Ns builtinsNs mb) (hbb : ∀ x : Str, x ≠ "__name__" → mb x = bootBuiltins x) (lim : s0.heap.NoLimit) (hgn : s0.gens = #[])
    (hT : ∀ p ∈ ts, s0.heap.get? p.2 = some { cls := .none, data := .fields #[] }) (nT : ∀ p ∈ ts, g.K.lookup p.2 = none) (hC : ∀ p ∈ ts, PySem.W.CodeHd s0.heap p.1 p.2)
    (hbm : ∃ (bm : Addr) (ob : Obj), g.mg "__builtins__" = some (.ref bm) ∧ bm ≠ builtinsNs ∧ s0.heap.get? bm = some ob ∧ ob.cls = .type "module" ∧ ob.dict = some builtinsNs ∧ ob.data = .plain)
    (ha : s0.heap.get? a = some { cls := .type "list", data := .seq its.toArray }) (hi : PyProof.Rows.IntsAre its ns) (hl : ns.length ≤ sizeLine) (hr : Room k callerA)
    (Fn : ∀ base : Heap, g.K.In base → base.Ns mainGlobals g.mg → (∀ p ∈ ts, LamX.TabB base g.mg p.1 p.2) → FnG { g with base := base } k fa fd [x] (sp)) (hbind : ∀ (s : Shared) (u : Value), BindsTo s fd ⟨[u], []⟩ [(x, u)])
    (hsp : ∀ H : Hp, (∀ p ∈ ts, H p.2 = some (.tbl #[])) → (∀ c o, H c = some o → (∃ p ∈ ts, c = p.2) ∨ ∃ ob xs, o = .frz ob (.lst xs)) → SqL g.K H a (ns.map V.int) → sp [.ref a] H (fun v _ => v = .bl true) fun _ _ _ => False) :
    codeAny (model g.P g.w) callerA (.call (.ref fa) ⟨[.ref a], []⟩) (fun r s' => r = .ok (.ret (.bool true)) ∧ OldK s0.heap s'.heap ∧ s'.os = s0.os ∧ AllBare s'.gens) s0 := by
  have rv := vals_ints hi
  have ln := hi.length
  have inT : ∀ {c : Addr}, c ∈ ts.map (·.2) → s0.heap.get? c = some { cls := .none, data := .fields #[] } := fun {c} m => by
    obtain ⟨p, hp, rfl⟩ := List.mem_map.mp m
    exact hT p hp
  have naT : a ∉ ts.map (·.2) := fun m => by
    have q := inT m
    rw [ha] at q
    have z : Data.seq its.toArray _ = Data.fields #[] := congrArg Obj.data (Option.some.inj q)
    cases z
  have mT : ∀ p ∈ ts, p.2 ∈ ts.map (·.2) := fun p hp => List.mem_map_of_mem hp
  have main : ∀ H : Hp, (∀ p ∈ ts, H p.2 = some (.tbl #[])) → (∀ c o, H c = some o → (∃ p ∈ ts, c = p.2) ∨ ∃ ob xs, o = .frz ob (.lst xs)) → SqL g.K H a (ns.map V.int) → HOk g.P g.w H s0.heap → (∀ c, H c ≠ none → c = a ∨ c ∈ ts.map (·.2)) → (H a ≠ none → g.K.lookup a = none) →
      codeAny (model g.P g.w) callerA (.call (.ref fa) ⟨[.ref a], []⟩) (fun r s' => r = .ok (.ret (.bool true)) ∧ OldK s0.heap s'.heap ∧ s'.os = s0.os ∧ AllBare s'.gens) s0 := by
    intro H hH only sq hok at1 atK
    have untr : ∀ {c : Addr} {o : Obj}, s0.heap.get? c = some o → (∀ vs n, o.data ≠ .seq vs n) → o.data ≠ .fields #[] → H c = none := by
      intro c o e h1 h2
      cases q : H c with
      | none => rfl
      | some u =>
        rcases at1 c (by rw [q]; simp) with z | z
        · rw [z, ha] at e
          cases e
          exact absurd rfl (h1 _ _)
        · rw [inT z] at e
          cases e
          exact absurd rfl h2
    have nsOf : ∀ {c : Addr} {m : Str → Option Value}, s0.heap.Ns c m → (hidT s0.heap H).Ns c m := by
      rintro c m ⟨o, es, ep, e, d, r⟩
      exact ⟨o, es, ep, hidT_get e (untr e (fun _ _ z => by rw [d] at z; cases z) fun z => by rw [d] at z; cases z), d, r⟩
    have kb : g.K.In (hidT s0.heap H) := by
      intro c o e
      refine hidT_get (kin c o e) ?_
      cases q : H c with
      | none => rfl
      | some u =>
        rcases at1 c (by rw [q]; simp) with z | z
        · subst z
          rw [atK (by rw [q]; simp)] at e
          cases e
        · obtain ⟨p, hp, ep⟩ := List.mem_map.mp z
          rw [← ep, nT p hp] at e
          cases e
    have md : Mod g.K g.mg (hidT s0.heap H) := ⟨kb, nsOf hns, ⟨mb, nsOf hbl, hbb⟩, by
      obtain ⟨mc, h1, h2⟩ := lim
      exact ⟨mc, nsOf h1, h2⟩⟩
    have tabs : ∀ p ∈ ts, LamX.TabB (hidT s0.heap H) g.mg p.1 p.2 := fun p hp => by
      have hTp := hT p hp
      refine ⟨?_, ?_, fun z => ?_⟩
      · obtain ⟨o, us, file, tf, flags, tg, inF, text, tt, e1, r1, r2, r3, rr⟩ := hC p hp
        refine ⟨o, us, file, tf, flags, tg, inF, text, tt, hidT_get e1 (untr e1 (fun _ _ z => by rw [r2] at z; cases z) fun z => ?_), r1, r2, r3, rr⟩
        rw [r2] at z
        cases z
        simp at r3
      · obtain ⟨bm, ob, b1, b2, b3, b4, b5, b6⟩ := hbm
        have nG : bm ≠ mainGlobals := fun q => by
          obtain ⟨o, es, ep, e, hd, _⟩ := hns
          rw [q, e] at b3
          cases b3
          rw [hd] at b6
          cases b6
        have nP : bm ≠ p.2 := fun q => by
          rw [q, hTp] at b3
          cases b3
          cases b6
        exact ⟨bm, ob, b1, b2, nG, nP, hidT_get b3 (untr b3 (fun _ _ z => by rw [b6] at z; cases z) fun z => by rw [b6] at z; cases z), b4, b5, b6⟩
      · obtain ⟨o, es, ep, e, hd, _⟩ := hns
        rw [z, hTp] at e
        cases e
        cases hd
    have env0 : Env0 g.P g.w g.K g.mg (hidT s0.heap H) callerA [] s0 H :=
      ⟨rfl, md, fun c o e => of_hidT e, Nat.le_of_eq (hidT_size _ _), trivial, (fun c hc => by cases hc), hok, .of_eq hgn⟩
    refine codeAny_mono ((Fn _ kb (nsOf hns) tabs).run callerA [] s0 H ⟨[.ref a], []⟩ [.ref a] [.ref a] _ _ rfl hr env0
      (hbind s0 (.ref a)) (.cons rfl .nil) (hsp H hH only sq)) fun r s' h => ?_
    cases r with
    | error e =>
      obtain ⟨_, _, _, _, _, _, _, _, _, _, _, _, z⟩ := h
      exact z.elim
    | ok fl =>
      cases fl with
      | next => exact h.elim
      | brk => exact h.elim
      | cont => exact h.elim
      | ret u =>
        obtain ⟨v, H2, os, bare, un, hok2, r2, q2⟩ := h
        obtain rfl : v = .bl true := q2
        obtain rfl : u = Value.bool true := r2
        have kept : ∀ c o, c ∉ ts.map (·.2) → s0.heap.get? c = some o → s'.heap.get? c = some o := fun c o nm e => by
          cases q : H c with
          | none => exact un.keep c o e q (by intro z; cases z) (by intro z; cases z)
          | some w =>
            rcases only c w q with ⟨p, hp, z⟩ | ⟨ob, xs, z⟩
            · exact absurd (z ▸ mT p hp) nm
            · subst z
              obtain ⟨e1, _⟩ := hok c _ q
              obtain ⟨e2, _⟩ := hok2 c _ (un.frzs c ob _ q)
              rw [e] at e1; cases e1
              exact e2
        have grown : ∀ p ∈ ts, ∃ more : Array Value, s'.heap.get? p.2 = some { cls := .none, data := .fields more } := fun p hp => by
          obtain ⟨more, z⟩ := un.tbls p.2 #[] (hH p hp)
          exact ⟨_, hok2 p.2 _ z⟩
        refine ⟨rfl, ⟨fun c o e => ?_, fun c o e => ?_⟩, os, bare⟩
        · by_cases hb : c ∈ ts.map (·.2)
          · obtain ⟨p, hp, ep⟩ := List.mem_map.mp hb
            obtain ⟨more, hm⟩ := grown p hp
            rw [← ep] at e ⊢
            rw [hT p hp] at e
            cases e
            exact .inr (.inl ⟨((hC p hp).tab (hT p hp)).isCodeTable, rfl, #[], more, rfl, by rw [Array.empty_append]; exact hm⟩)
          · exact .inl (kept c o hb e)
        · by_cases hb : c ∈ ts.map (·.2)
          · obtain ⟨p, hp, ep⟩ := List.mem_map.mp hb
            obtain ⟨more, hm⟩ := grown p hp
            rw [← ep]
            exact ⟨_, hm⟩
          · exact ⟨o, kept c o hb e⟩
  cases hk : g.K.lookup a with
  | some o =>
    have e := kin a o hk
    rw [ha] at e
    cases e
    have at0 : ∀ {c : Addr}, c ∉ ts.map (·.2) → (fun c => if c ∈ ts.map (·.2) then some (HO.tbl #[]) else none) c = none := fun h => if_neg h
    refine main (fun c => if c ∈ ts.map (·.2) then some (HO.tbl #[]) else none) (fun p hp => if_pos (mT p hp)) (fun c u z => ?_) (.inr ⟨_, its.toArray, _, hk, rfl, rfl, rfl, ?_, ?_⟩) (fun c u z => ?_) (fun c z => ?_) fun z => absurd (at0 naT) z
    · by_cases hc : c ∈ ts.map (·.2)
      · obtain ⟨p, hp, ep⟩ := List.mem_map.mp hc
        exact .inl ⟨p, hp, ep.symm⟩
      · have z2 := (at0 hc).symm.trans z
        cases z2
    · rw [List.size_toArray, ln]; exact hl
    · simpa using rv
    · by_cases hc : c ∈ ts.map (·.2)
      · have z2 := (if_pos hc).symm.trans z
        cases z2
        exact inT hc
      · have z2 := (at0 hc).symm.trans z
        cases z2
    · exact .inr (Decidable.byContradiction fun hc => z (at0 hc))
  | none =>
    have pa : (fun c => if c = a then some (HO.frz { cls := .type "list", data := .seq its.toArray } (.lst (ns.map V.int))) else if c ∈ ts.map (·.2) then some (HO.tbl #[]) else none) a = some (HO.frz { cls := .type "list", data := .seq its.toArray } (.lst (ns.map V.int))) := if_pos rfl
    have pt : ∀ {c : Addr}, c ∈ ts.map (·.2) → (fun c => if c = a then some (HO.frz { cls := .type "list", data := .seq its.toArray } (.lst (ns.map V.int))) else if c ∈ ts.map (·.2) then some (HO.tbl #[]) else none) c = some (.tbl #[]) := fun {c} h => (if_neg (fun z : c = a => naT (by rw [← z]; exact h))).trans (if_pos h)
    have pn : ∀ {c : Addr}, c ≠ a → c ∉ ts.map (·.2) → (fun c => if c = a then some (HO.frz { cls := .type "list", data := .seq its.toArray } (.lst (ns.map V.int))) else if c ∈ ts.map (·.2) then some (HO.tbl #[]) else none) c = none := fun h1 h2 => (if_neg h1).trans (if_neg h2)
    refine main (fun c => if c = a then some (HO.frz { cls := .type "list", data := .seq its.toArray } (.lst (ns.map V.int))) else if c ∈ ts.map (·.2) then some (HO.tbl #[]) else none) (fun p hp => pt (mT p hp)) (fun c u z => ?_) (.inl (.inr ⟨_, pa⟩)) (fun c u z => ?_) (fun c z => ?_) fun _ => hk
    · by_cases hc : c = a
      · subst hc
        have z2 := pa.symm.trans z
        cases z2
        exact .inr ⟨_, _, rfl⟩
      · by_cases hm : c ∈ ts.map (·.2)
        · obtain ⟨p, hp, ep⟩ := List.mem_map.mp hm
          exact .inl ⟨p, hp, ep.symm⟩
        · have z2 := (pn hc hm).symm.trans z
          cases z2
    · by_cases hc : c = a
      · subst hc
        have z2 := pa.symm.trans z
        cases z2
        exact ⟨ha, by rw [List.length_map]; exact hl, its, _, rv, ha⟩
      · by_cases hm : c ∈ ts.map (·.2)
        · have z2 := (pt hm).symm.trans z
          cases z2
          exact inT hm
        · have z2 := (pn hc hm).symm.trans z
          cases z2
    · by_cases hc : c = a
      · exact .inl hc
      · exact .inr (Decidable.byContradiction fun hm => z (pn hc hm))
/-- a law: from its head -/
theorem walkG {l : PySem.W.OpenLaw} {n k : Nat} {q : Program} {loose : List Str} {XP : (Str → Option Value) → Heap → Prop} {YP : World → Heap → Prop} {d : DefRec} {x : Str}
    (hn : l.most = some n) (hn2 : n ≤ sizeLine) (hdf : d.params.defaults = []) (hr : Room k callerA)
    (Fn : ∀ (w : World) (mg : Str → Option Value) (fa : Addr) (h : Heap), YP w h → h.Ns mainGlobals mg → mg d.name = some (.ref fa) →
      ∃ (g : Gb) (fd : FuncData) (sp : Sp) (ts : List (Addr × Addr)), g.P = l.prog ∧ g.w = w ∧ g.mg = mg ∧ g.K.In h ∧ (∀ p ∈ ts, h.get? p.2 = some { cls := .none, data := .fields #[] }) ∧ (∀ p ∈ ts, g.K.lookup p.2 = none) ∧ (∀ p ∈ ts, PySem.W.CodeHd h p.1 p.2) ∧ (∀ (s : Shared) (u : Value), BindsTo s fd ⟨[u], []⟩ [(x, u)]) ∧
        (∀ (H : Hp) (a : Addr) (ns : List Int), ns.length ≤ n → (∀ p ∈ ts, H p.2 = some (.tbl #[])) → (∀ c o, H c = some o → (∃ p ∈ ts, c = p.2) ∨ ∃ ob xs, o = .frz ob (.lst xs)) → SqL g.K H a (ns.map V.int) → sp [.ref a] H (fun v _ => v = .bl true) fun _ _ _ => False) ∧
        ∀ base : Heap, g.K.In base → base.Ns mainGlobals mg → (∀ p ∈ ts, LamX.TabB base mg p.1 p.2) → FnG { g with base := base } k fa fd [x] sp) :
    PySem.W.WalkO q loose XP YP l.row.toRowW d [] (fun f vs => PySem.call f vs) := by
  refine Att.attach_call hn hdf fun w s0 s1 mg mb fa o pm cd doc a vs ns G Y ho hd hcd hmg hobj hints hlen hg => ?_
  obtain ⟨g, fd, sp, ts, e1, e2, e3, kin, t1, t2, t3, hb, hsp, hF⟩ := Fn w mg fa _ Y G.T.g hmg
  subst e3
  have r := callG (g := g) kin G.T.g G.T.b G.T.builtins G.T.nolimit hg t1 t2 t3 G.T.bmain hobj hints (Nat.le_trans hlen hn2) hr hF hb fun H hH hO hS => hsp H a ns hlen hH hO hS
  rw [e1, e2] at r
  exact r
end MP

set_option Elab.async false
set_option linter.all false
set_option maxRecDepth 100000
set_option maxHeartbeats 8000000
namespace MP
open PySem PySem.Spec PyProof.Rows L2
/-! ### the error classes at the head -/
/-- an error class: its name, its number, the text of its __init__, its built-in base (0: ValueError, 1: OverflowError, else KeyError) -/
structure Cl where
  name : Str
  q : Nat
  txt : Stmt
  ve : Nat
def Cl.full (c : Cl) : Bool := decide (0 < c.q)
def clB : Nat → String
  | 0 => "ValueError"
  | 1 => "OverflowError"
  | _ => "KeyError"
def clN : Nat → String
  | 0 => "ValueError.__new__"
  | 1 => "OverflowError.__new__"
  | _ => "LookupError.__new__"
def clI : Nat → String
  | 0 => "ValueError.__init__"
  | 1 => "OverflowError.__init__"
  | _ => "KeyError.__init__"
def clM : Nat → List Value
  | 0 => [.type "ValueError", .type "Exception", .type "BaseException", .type "object"]
  | 1 => [.type "OverflowError", .type "ArithmeticError", .type "Exception", .type "BaseException", .type "object"]
  | _ => keyM
abbrev IniW : Type := Option (Str × Str × Arguments × FuncBody × Scope × Addr × List Str × Addr)
/-- the class's __init__ -/
def iniAt (K : PySem.W.Frag) (c : Cl) : Addr := He.ma K (He.ga K c.name) "__init__"
def iniW (K : PySem.W.Frag) (c : Cl) : IniW := match K.lookup (iniAt K c) with
  | some ⟨_, _, .func fd, _⟩ => some (fd.name, fd.qualname, fd.params, fd.body, fd.scope, fd.globals, fd.closure.map (·.1), fd.builtins)
  | _ => none
def Cl.val (c : Cl) : IniW := some ("__init__", c.name ++ ".__init__", defArgs c.txt, .stmts (defBody c.txt), defScope c.txt, mainGlobals, ["__class__"], builtinsNs)
def iniB (file : Str) (K : PySem.W.Frag) (c : Cl) : Bool := match K.lookup (iniAt K c) with
  | some ⟨_, _, .func fd, _⟩ => (match fd.code with
    | .ref cda => PySem.W.codeIn K (.ref cda) fd.qualname && (match K.lookup cda with
      | some ⟨_, _, .fields vs, _⟩ => (match (vs[2]? : Option Value) with
        | some (.str f _) => file == f
        | _ => false)
      | _ => false)
    | _ => false) && (match fd.defaults with
    | .none => true
    | _ => false) && (match fd.closure with
    | [(_, cc)] => (match K.lookup cc with
      | some ⟨_, _, .cell (some (.ref C)), _⟩ => decide (C = He.ga K c.name)
      | _ => false)
    | _ => false)
  | _ => false
def errB (K : PySem.W.Frag) (D : Addr) : Bool := He.eqO (PySem.W.findIn K (.ref D) "__getattribute__") (some (some (.builtin "BaseException.__getattribute__"))) && (He.eqO (PySem.W.findIn K (.ref D) "__getattr__") (some none) &&
  (decide (PySem.W.subIn K (.ref D) (.type "BaseException") = some true) && (PySem.W.hasDictIn K D && (He.eqO (PySem.W.findIn K (.ref D) "__class__") (some (some (.builtin "object.__class__"))) &&
  (He.eqO (PySem.W.specialIn K (.builtin "object.__class__") "__get__") (some (some (.builtin "getset_descriptor.__get__"))) && (decide (PySem.W.takesIn K (.builtin "object.__class__") = some true) && decide (PySem.W.mroIn K D (.type "object") = some true)))))))
def mkB (K : PySem.W.Frag) (c : Cl) (C : Addr) : Bool := PySem.W.excInitIn K C (clM c.ve) (clN c.ve) && (PySem.W.excOver K C (clM c.ve) && (He.eqO (PySem.W.findIn K (.ref C) "__setattr__") (some (some (.builtin "object.__setattr__"))) &&
  (He.eqO (PySem.W.takerIn K C (fldC c.q)) (some none) && (decide (PySem.W.subIn K (.ref C) (.type (clB c.ve)) = some true) && (decide (PySem.W.mroIn K C (.ref C) = some true) && (He.eqO (PySem.W.ks_superIn K C C "__init__") (some (some (.builtin (clI c.ve)))) &&
  (He.eqO (PySem.W.findIn K (.ref C) "__init__") (some (some (.ref (iniAt K c)))) && (PySem.W.isFn K (.ref (iniAt K c)) && (PySem.W.keepIn K (.ref C) && (decide (PySem.W.typeIn K (.ref C) = some (.type "type")) && He.eqO (PySem.W.findIn K (.ref C) (fldC c.q)) (some none)))))))))))
def bxB (K : PySem.W.Frag) (q : Nat) (C : Addr) : Bool := [0, 1, 2, 3].all fun n => decide (PySem.W.kitOne K (.ref C) (.type (bxS n)) = some (subB q n))
theorem bxB_ok {K : PySem.W.Frag} {q : Nat} {C : Addr} (h : bxB K q C = true) : (n : Nat) → PySem.W.kitOne K (.ref C) (.type (bxS n)) = some (subB q n)
  | 0 => of_decide_eq_true (List.all_eq_true.mp h 0 (by simp))
  | 1 => of_decide_eq_true (List.all_eq_true.mp h 1 (by simp))
  | 2 => of_decide_eq_true (List.all_eq_true.mp h 2 (by simp))
  | _ + 3 => of_decide_eq_true (List.all_eq_true.mp h 3 (by simp))
/-- the class without an __init__ of its own -/
def zeroB (cl : List Cl) (K : PySem.W.Frag) (c : Cl) : Bool := errB K (He.ga K c.name) && (PySem.W.excIn K (He.ga K c.name) (clM 0) "ValueError.__new__" && (PySem.W.keepIn K (.ref (He.ga K c.name)) && (bxB K 0 (He.ga K c.name) && cl.all fun r => decide (PySem.W.kitOne K (.ref (He.ga K c.name)) (.ref (He.ga K r.name)) = some (subC 0 r.q)))))
def fullB (file : Str) (cl : List Cl) (K : PySem.W.Frag) (c : Cl) : Bool := errB K (He.ga K c.name) && (mkB K c (He.ga K c.name) && (iniB file K c && (bxB K c.q (He.ga K c.name) && cl.all fun r => decide (PySem.W.kitOne K (.ref (He.ga K c.name)) (.ref (He.ga K r.name)) = some (subC c.q r.q)) && decide (PySem.W.exmOne K (.ref (He.ga K c.name)) (.ref (He.ga K r.name)) = some (subC c.q r.q)))))
def smB (K : PySem.W.Frag) : Bool := match K.lookup sysModules with
  | some ⟨_, _, .dict _ _, _⟩ => true
  | _ => false
theorem smB_ok {K : PySem.W.Frag} (h : smB K = true) : ∃ o es n, K.lookup sysModules = some o ∧ o.data = .dict es n := by
  unfold smB at h
  split at h
  · rename_i q; exact ⟨_, _, _, q, rfl⟩
  · cases h
def clsB' (file : Str) (cl : List Cl) (K : PySem.W.Frag) : Bool := (cl.all fun c => He.eqO (PySem.W.nsIn K mainGlobals c.name) (some (some (.ref (He.ga K c.name)))) && decide (PySem.W.kitOne K (.type "NoneType") (.ref (He.ga K c.name)) = some false)) &&
  ((cl.filter Cl.full).all (fullB file cl K) && ((He.eqO (PySem.W.nsIn K cStatics "thirdparty.any") (some none) && He.eqO (PySem.W.nsIn K mainGlobals "super") (some none) && smB K) && (cl.filter fun c => c.q == 0).all (zeroB cl K)))
/-- the text of an __init__ that we know -/
def IniOk (c : Cl) : Prop := ∃ (txt : Str) (j : Nat) (q1 q2 p0 p1 p2 p3 p4 p5 p6 p7 p8 p9 : Pos), defArgs c.txt = iniPar (fldC c.q) q1 q2 ∧ defBody c.txt = iniBody txt (fldC c.q) j p0 p1 p2 p3 p4 p5 p6 p7 p8 p9 ∧ defScope c.txt = iniScope (fldC c.q) ∧ (p2.endLine == p4.line) = true ∧
  ∀ (nm ql : Str) (kV doc pm cdv ct : Value) (an : Option Addr) (cc : Addr) (a b : Value), bindArgs (PySem.W.ksFn nm ql (iniPar (fldC c.q) q1 q2) (iniBody txt (fldC c.q) j p0 p1 p2 p3 p4 p5 p6 p7 p8 p9) (iniScope (fldC c.q)) .none kV doc pm an cdv ct cc) ⟨[a, b], []⟩ = pure [(("self" : Str), a), (fldC c.q, b)]
theorem clFB : (ve : Nat) → ErrB (clB ve) (clN ve) (clI ve) (clM ve)
  | 0 => ErrB.of PySem.F.excBase_ValueError
  | 1 => ErrB.of PySem.F.excBase_OverflowError
  | _ + 2 => errB_key
theorem clKF : (ve : Nat) → PySem.W.KxsFacts (clB ve) (clI ve)
  | 0 => PySem.W.kxs_ValueError
  | 1 => PySem.W.kxs_OverflowError
  | _ + 2 => kxs_key
theorem clSF : (ve : Nat) → StoreFacts (clB ve) (clM ve) "object.__setattr__" "object"
  | 0 => PySem.F.store_ValueError
  | 1 => PySem.F.store_OverflowError
  | _ + 2 => store_key
theorem fld_ne (q : Nat) : fldC q ≠ "self" ∧ fldC q ≠ "__class__" ∧ fldC q ≠ "super" ∧ (fldC q == ("__debug__" : Str)) = false := by
  unfold fldC
  split <;> refine ⟨by decide, by decide, by decide, by decide⟩
theorem errB_ok {K : PySem.W.Frag} {D : Addr} (h : errB K D = true) : ErF K D := by
  obtain ⟨h1, h⟩ := He.ba h
  obtain ⟨h2, h⟩ := He.ba h
  obtain ⟨h3, h⟩ := He.ba h
  obtain ⟨h4, h⟩ := He.ba h
  obtain ⟨h5, h⟩ := He.ba h
  obtain ⟨h6, h⟩ := He.ba h
  obtain ⟨h7, h8⟩ := He.ba h
  exact ⟨He.eqO_ok h1, He.eqO_ok h2, of_decide_eq_true h3, h4, He.eqO_ok h5, He.eqO_ok h6, of_decide_eq_true h7, of_decide_eq_true h8⟩
theorem iniB_ok {file : Str} {K : PySem.W.Frag} {c : Cl} (h : iniB file K c = true) : ∃ (oc : Value) (od : Option Addr) (fd : FuncData) (osl : Array (Option Value)) (cda cc : Addr) (y f : Str) (tf : Tok) (ccl cl : Value) (cdd cld : Option Addr) (ccs csl : Array (Option Value)) (vs : Array Value),
    K.lookup (iniAt K c) = some ⟨oc, od, .func fd, osl⟩ ∧ fd.code = .ref cda ∧ fd.defaults = .none ∧ PySem.W.codeIn K (.ref cda) fd.qualname = true ∧ K.lookup cda = some ⟨ccl, cdd, .fields vs, ccs⟩ ∧ vs[2]? = some (.str f tf) ∧ (file == f) = true ∧ fd.closure = [(y, cc)] ∧ K.lookup cc = some ⟨cl, cld, .cell (some (.ref (He.ga K c.name))), csl⟩ := by
  unfold iniB at h
  split at h
  · rename_i oc od fd osl q
    obtain ⟨k0, k2⟩ := He.ba h
    obtain ⟨k1, kd⟩ := He.ba k0
    have qd : fd.defaults = .none := by
      split at kd
      · rename_i q; exact q
      · cases kd
    split at k1
    · rename_i cda qc
      obtain ⟨k3, k4⟩ := He.ba k1
      split at k4
      · rename_i ccl cdd vs ccs q2
        split at k4
        · rename_i f tf q3
          split at k2
          · rename_i y cc qcl
            split at k2
            · rename_i cl cld C csl q4
              have eC := of_decide_eq_true k2
              subst eC
              exact ⟨oc, od, fd, osl, cda, cc, y, f, tf, ccl, cl, cdd, cld, ccs, csl, vs, q, qc, qd, k3, q2, q3, k4, qcl, q4⟩
            · cases k2
          · cases k2
        · cases k4
      · cases k4
    · cases k1
  · cases h
theorem err_of {P : Program} {K : PySem.W.Frag} {c : Cl} (hw : iniW K c = c.val) (h1 : errB K (He.ga K c.name) = true) (h2 : mkB K c (He.ga K c.name) = true) (h3 : iniB P.main.file K c = true) (opq : PySem.W.nsIn K cStatics "thirdparty.any" = some none)
    (top : (P.main.scope.names.lookup ("super" : Str)).isSome = false) (ok : IniOk c) : ErrC P K (He.ga K c.name) (fldC c.q) (clB c.ve) (clN c.ve) (clI c.ve) (clM c.ve) := by
  have e := errB_ok h1
  obtain ⟨m1, h⟩ := He.ba h2
  obtain ⟨m2, h⟩ := He.ba h
  obtain ⟨m3, h⟩ := He.ba h
  obtain ⟨m4, h⟩ := He.ba h
  obtain ⟨m5, h⟩ := He.ba h
  obtain ⟨m6, h⟩ := He.ba h
  obtain ⟨m7, h⟩ := He.ba h
  obtain ⟨m8, h⟩ := He.ba h
  obtain ⟨m9, h⟩ := He.ba h
  obtain ⟨n1, n2, n3, n4⟩ := fld_ne c.q
  refine ⟨clFB _, clKF _, clSF _, m1, m2, e.hd, He.eqO_ok m3, He.eqO_ok m4, of_decide_eq_true m5, of_decide_eq_true m6, He.eqO_ok m7, opq, top, ⟨n1, n2, n3⟩, n4, ?_⟩
  obtain ⟨oc, od, fd, osl, cda, cc, y, f, tf, ccl, cl, cdd, cld, ccs, csl, vs, q, qc, qd, k3, q2, q3, k4, qcl, q4⟩ := iniB_ok h3
  unfold iniW at hw
  rw [q] at hw
  obtain ⟨i1, i2, i3, i4, i5, i6, i7, i8, i9, i10, i11, i12, i13, i14, i15⟩ := fd
  have hw' : (some (i1, i2, i3, i4, i5, i6, i7.map (·.1), i15) : IniW) = c.val := hw
  unfold Cl.val at hw'
  simp only [Option.some.injEq, Prod.mk.injEq] at hw'
  obtain ⟨g1, g2, g3, g4, g5, g6, g7, g8⟩ := hw'
  obtain ⟨txt, j, q1, q2', p0, p1, p2, p3, p4, p5, p6, p7, p8, p9, t1, t2, t3, t4, t5⟩ := ok
  rw [t1] at g3
  rw [t2] at g4
  rw [t3] at g5
  dsimp only at qc k3 qcl qd
  subst g3 g4 g5 g6 g8 qc qcl qd
  have ey : y = ("__class__" : Str) := by
    have z : [y] = [("__class__" : Str)] := g7
    injection z
  subst ey
  exact ⟨iniAt K c, cc, cda, oc, ccl, cl, od, cdd, cld, osl, ccs, csl, i1, i2, txt, f, tf, j, q1, q2', p0, p1, p2, p3, p4, p5, p6, p7, p8, p9, .none, i9, i10, i11, i14, i12, vs, He.eqO_ok m8, m9, q, k3, q2, q3, t4, k4, q4, fun a b => t5 _ _ _ _ _ _ _ _ _ a b⟩
/-! ### the Hook -/
def asC (g : Addr → Option Obj) (n : Nat) : List Addr := cStatics :: sysModules :: He.asD g n
def tab1B (tf : List He.Defn) (K : PySem.W.Frag) : Bool := tf.all fun p => tf.all fun r => decide ((He.cT K p).2 = (He.cT K r).2 → p = r)
abbrev AlC : Type := He.AlD × List IniW × Bool
section
variable (n : Nat) (fa : List He.Fa) (fn : List He.DefD) (tf : List He.Defn) (file : Str) (cl : List Cl)
def obsK (g : Addr → Option Obj) (K : PySem.W.Frag) : AlC := (He.obsD fa fn K, (cl.filter Cl.full).map (iniW K), clsB' file cl K && (tab1B tf K && He.tabsB g tf K))
def obsC (g : Addr → Option Obj) : AlC := obsK fa fn tf file cl g (He.frT g (asC g n))
def valC : AlC := (He.valD fn, (cl.filter Cl.full).map Cl.val, true)
structure SaysC (h : Heap) (K : PySem.W.Frag) : Prop where
  d : He.SaysD fa fn K
  ini : ∀ c ∈ cl, c.full = true → iniW K c = c.val
  cls : clsB' file cl K = true
  one : tab1B tf K = true
  hd : ∀ p ∈ tf, PySem.W.codeHdIn K (He.cT K p).1 (He.cT K p).2 = true
  out : ∀ p ∈ tf, K.lookup (He.cT K p).2 = none
  empty : ∀ p ∈ tf, h.get? (He.cT K p).2 = some { cls := .none, data := .fields #[] }
end
theorem saysC_of {n : Nat} {fa : List He.Fa} {fn : List He.DefD} {tf : List He.Defn} {file : Str} {cl : List Cl} {h : Heap} (e : obsC n fa fn tf file cl h.get? = valC fn cl) : SaysC fa fn tf file cl h (He.frT h.get? (asC h.get? n)) := by
  have e1 : He.obsD fa fn (He.frT h.get? (asC h.get? n)) = He.valD fn := congrArg (fun z : AlC => z.1) e
  have e2 : (cl.filter Cl.full).map (iniW (He.frT h.get? (asC h.get? n))) = (cl.filter Cl.full).map Cl.val := congrArg (fun z : AlC => z.2.1) e
  have e3 : (clsB' file cl (He.frT h.get? (asC h.get? n)) && (tab1B tf (He.frT h.get? (asC h.get? n)) && He.tabsB h.get? tf (He.frT h.get? (asC h.get? n)))) = true := congrArg (fun z : AlC => z.2.2) e
  obtain ⟨h1, e3⟩ := He.ba e3
  obtain ⟨h2, h3⟩ := He.ba e3
  have key : ∀ p ∈ tf, PySem.W.codeHdIn (He.frT h.get? (asC h.get? n)) (He.cT (He.frT h.get? (asC h.get? n)) p).1 (He.cT (He.frT h.get? (asC h.get? n)) p).2 = true ∧ ∃ o, h.get? (He.cT (He.frT h.get? (asC h.get? n)) p).2 = some o ∧ He.emptyTab o = true := fun p hp => by
    obtain ⟨c1, c2⟩ := He.ba (List.all_eq_true.mp h3 p hp)
    refine ⟨c1, ?_⟩
    split at c2
    · rename_i o q; exact ⟨o, q, c2⟩
    · cases c2
  refine ⟨e1, fun c hc hf => ?_, h1, h2, fun p hp => (key p hp).1, fun p hp => ?_, fun p hp => ?_⟩
  · exact List.map_inj_left.mp e2 c (List.mem_filter.mpr ⟨hc, hf⟩)
  · obtain ⟨_, o, q, z⟩ := key p hp
    exact He.frT_none q z
  · obtain ⟨_, o, q, z⟩ := key p hp
    rw [q, He.emptyTab_eq z]
def hookC (n : Nat) (fa : List He.Fa) (fn : List He.DefD) (tf : List He.Defn) (file : Str) (cl : List Cl) : PySem.W.Hook where
  α := AlC
  obs := fun s => obsC n fa fn tf file cl s.heap.get?
  val := fun _ => valC fn cl
  says := fun _ h => ∃ K : PySem.W.Frag, K.In h ∧ SaysC fa fn tf file cl h K
  of := fun _ _ e => ⟨_, He.frT_in, saysC_of e⟩
  keeps := fun _ _ _ ⟨K, hK, c⟩ k => ⟨K, PySem.W.Frag.In.keeps hK k, ⟨c.d, c.ini, c.cls, c.one, c.hd, c.out, fun p hp => k _ _ (c.empty p hp)⟩⟩
theorem obsC_eq {n : Nat} {fa : List He.Fa} {fn : List He.DefD} {tf : List He.Defn} {file : Str} {cl : List Cl} {g : Addr → Option Obj} {s : Shared} (h : ∀ a, g a = s.heap.get? a) : obsC n fa fn tf file cl g = (hookC n fa fn tf file cl).obs s := by
  have e : g = s.heap.get? := funext h
  subst e
  rfl
end MP

set_option Elab.async false
set_option linter.all false
set_option maxRecDepth 100000
set_option maxHeartbeats 8000000
namespace MP
open PySem PySem.Spec PyProof.Rows L2
theorem SaysD_mem {fa : List He.Fa} {fn : List He.DefD} {K : PySem.W.Frag} (c : He.SaysD fa fn K) {f : He.Fa} (h : f ∈ fa) : f.ok K = true := by
  have c1 := (He.ba (show ((fa.all fun f => f.ok K) && fn.all fun d => d.ok K) = true from congrArg (fun z : He.AlD => z.1) c)).1
  exact List.all_eq_true.mp c1 f h
theorem SaysD_def {fa : List He.Fa} {fn : List He.DefD} {K : PySem.W.Frag} (c : He.SaysD fa fn K) {d : He.DefD} (h : d ∈ fn) : ∃ fd, FunD K d.name d.qual d.params d.body d.scope (d.dvs K) (d.kws K) (He.fAd K d.at_) fd := by
  obtain ⟨i, hi, e⟩ := List.getElem_of_mem h
  exact c.def_ i (by rw [List.getElem?_eq_getElem hi, e])
/-- a def: its name, its number, its text, its names, its parameters, its term; does it hold lambdas; does it call one -/
structure Row where
  name : Str
  id : Nat
  txt : Stmt
  N : List Str
  ps : List Str
  F : Fn
  lm : Bool := false
  td : Bool := false
def kwDv : Option (Str × Int) → List (Str × He.Dv)
  | none => []
  | some p => [(p.1, .int p.2)]
def kwV : Option (Str × Int) → List (Str × V)
  | none => []
  | some p => [(p.1, .int p.2)]
theorem kwDv_v (K : PySem.W.Frag) (o : Option (Str × Int)) : (kwDv o).map (fun q => (q.1, q.2.v K)) = kwV o := by cases o <;> rfl
def Row.d (r : Row) : He.DefD := ⟨(r.name, none), r.name, r.name, defArgs r.txt, defBody r.txt, defScope r.txt, [], kwDv (kwId r.id)⟩
def scopeB (N P : List Str) (sc : Scope) : Bool := decide (sc.kind = .function) && !sc.isCoroutine && !sc.isGenerator && decide N.Nodup && decide (N.take P.length = P) &&
  (P.all fun x => decide (sc.names.lookup x = some .local) || decide (sc.names.lookup x = some .cell)) && sc.names.all fun y => decide (y.2 ≠ .free)
theorem scopeB_ok {N P : List Str} {sc : Scope} (h : scopeB N P sc = true) : FnScope N P sc := by
  simp only [scopeB, Bool.and_eq_true, decide_eq_true_eq, Bool.not_eq_true', List.all_eq_true, Bool.or_eq_true] at h
  obtain ⟨⟨⟨⟨⟨⟨h1, h2⟩, h3⟩, h4⟩, h5⟩, h6⟩, h7⟩ := h
  exact ⟨h1, h2, h3, h4, h5, h6, h7⟩
/-- a def with a keyword-only parameter at its end -/
def BindK (r : Row) (p : Str × Int) : Prop := ∃ n, r.ps.length = n + 1 ∧
  (∀ (D : Addr) (doc pm : Value) (an : Option Addr) (cdv ct : Value) (us ks : List Value), us.length = n → ks.length = 1 → KwChain D ([p.1].zip ks) (bindArgs (PySem.W.fnOf r.name r.name (defArgs r.txt) (defBody r.txt) (defScope r.txt) .none (.ref D) doc pm an cdv ct) ⟨us, []⟩) (r.ps.zip (us ++ ks))) ∧
  ∀ (kV doc pm : Value) (an : Option Addr) (cdv ct : Value) (us ws : List Value), us.length = n → ws.length = 1 → bindArgs (PySem.W.fnOf r.name r.name (defArgs r.txt) (defBody r.txt) (defScope r.txt) .none kV doc pm an cdv ct) ⟨us, [p.1].zip ws⟩ = pure (r.ps.zip (us ++ ws))
def BindP (r : Row) : Prop := ∀ (kV doc pm : Value) (an : Option Addr) (cdv ct : Value) (us : List Value), us.length = r.ps.length → bindArgs (PySem.W.fnOf r.name r.name (defArgs r.txt) (defBody r.txt) (defScope r.txt) .none kV doc pm an cdv ct) ⟨us, []⟩ = pure (r.ps.zip us)
def BindOk (r : Row) : Prop := match kwId r.id with
  | none => BindP r
  | some p => BindK r p
theorem bindF_of {K : PySem.W.Frag} {r : Row} {f : Addr} {fd : FuncData} (FD : FunD K r.name r.name (defArgs r.txt) (defBody r.txt) (defScope r.txt) [] (kwV (kwId r.id)) f fd) (h : BindOk r) : BindF K fd r.ps (kwId r.id) := by
  unfold BindOk at h
  cases e : kwId r.id with
  | none =>
    rw [e] at h
    exact FD.bindsN h
  | some p =>
    rw [e] at h FD
    obtain ⟨n, hn, h1, h2⟩ := h
    refine ⟨⟨n, hn, ?_⟩, ?_⟩
    · obtain ⟨oc, od, dV, kV, doc, pm, an, cdv, ct, osl, rfl, lk, hcd, hD, hK⟩ := FD.ex
      rcases hD with ⟨_, rfl⟩ | ⟨e, _⟩
      · exact ⟨fun s us ws X l1 l2 => BindsTo.of_eq (h2 kV doc pm an cdv ct us ws l1 l2), fun a b => a.append b⟩
      · exact absurd rfl e
    · obtain ⟨ds, v, hb⟩ := FD.binds0 (ps := r.ps) n (by simp [kwV]) (by simp [kwV, hn]) h1
      cases v with
      | cons ru rest =>
        cases rest
        exact ⟨_, ru, hb⟩
def rowB (fx : Str → Option Nat) (cs : Str → Option D) (xc tx : Str → Option Nat) (r : Row) : Bool := scopeB r.N r.ps (defScope r.txt) && (if r.td then (match r.ps with
  | [a] => mTold ⟨r.N, defScope r.txt, fun _ => true, fx, cs, xc, tx, false, true⟩ a r.F.body (defBody r.txt)
  | _ => false) else mSs ⟨r.N, defScope r.txt, fun _ => true, fx, cs, xc, tx, r.lm, true⟩ r.F.body (defBody r.txt)) && decide (r.F.nN = r.N.length) && decide (r.F.np = r.ps.length) && (!r.td || (kwId r.id).isNone)
/-- a constant of the module -/
inductive Cst where
  | int (x : Str) (i : Int) | str (x z : Str)
def Cst.fa : Cst → He.Fa
  | .int x i => .int x i
  | .str x z => .str x z
def Cst.nm : Cst → Str
  | .int x _ => x
  | .str x _ => x
def Cst.d : Cst → D
  | .int _ i => .int i
  | .str _ z => .str z
def look {α : Type} (x : Str) : List (Str × α) → Option α
  | [] => none
  | (y, a) :: r => if x = y then some a else look x r
theorem look_mem {α : Type} {x : Str} {a : α} : ∀ {l : List (Str × α)}, look x l = some a → (x, a) ∈ l
  | [], h => by cases h
  | (y, b) :: l, h => by
    unfold look at h
    split at h
    · rename_i e; cases h; subst e; exact List.mem_cons_self
    · exact List.mem_cons_of_mem _ (look_mem h)
section
variable (rows : List Row) (cst : List Cst) (cl : List Cl)
def fxOf (x : Str) : Option Nat := look x ((rows.filter fun r => !r.td).map fun r => (r.name, r.id))
def txOf (x : Str) : Option Nat := look x ((rows.filter fun r => r.td).map fun r => (r.name, r.id))
def xcOf (x : Str) : Option Nat := look x (cl.map fun c => (c.name, c.q))
def csOf (x : Str) : Option D := look x (cst.map fun c => (c.nm, c.d))
def faOf : List He.Fa := bltNames.map He.Fa.free ++ (rows.map fun r => He.Fa.glo r.name) ++ cst.map Cst.fa
def fnsOf : List He.DefD := rows.map Row.d
def tfOf : List He.Defn := (rows.filter fun r => r.lm).map fun r => (r.name, none)
def nmOf (i : Nat) : Str := match rows.find? (fun r => r.id == i) with
  | some r => r.name
  | none => ""
def cnOf (q : Nat) : Str := match cl.find? (fun c => c.q == q) with
  | some c => c.name
  | none => ""
def knOf (q : Nat) : Bool := decide (0 < q) && cl.any fun c => c.q == q
def gOf (P : Program) (w : World) (K : PySem.W.Frag) (mg : Str → Option Value) (base : Heap) : Gb := ⟨P, w, K, mg, base, fun i => He.ga K (nmOf rows i), fun q => He.ga K (cnOf cl q), knOf cl, cl.any fun c => c.q == 0, (tfOf rows).map fun p => ((He.cT K p).2, p.1 ++ ".<locals>." ++ "<lambda>")⟩
/-- what the rows must say of themselves -/
structure RowsOk (T : Tab) (P : Program) : Prop where
  hid : (rows.all fun r => decide (nmOf rows r.id = r.name)) = true
  hr : (rows.all (rowB (fxOf rows) (csOf cst) (xcOf cl) (txOf rows))) = true
  hF : ∀ r ∈ rows, T.fn r.id = some r.F
  hb : ∀ r ∈ rows, BindOk r
  hc : (cl.all fun c => decide (cnOf cl c.q = c.name)) = true
  hi : ∀ c ∈ cl, c.full = true → IniOk c
  top : (P.main.scope.names.lookup ("super" : Str)).isSome = false
end
section
variable {T : Tab} {wf : Nat} {rows : List Row} {cst : List Cst} {cl : List Cl} {P : Program} {w : World} {K : PySem.W.Frag} {mg : Str → Option Value} {base h : Heap}
theorem xsOf (X : K.In h) (G : h.Ns mainGlobals mg) (R : RowsOk rows cst cl T P) (c : SaysC (faOf rows cst) (fnsOf rows) (tfOf rows) P.main.file cl h K) : Xs (gOf rows cl P w K mg base) (xcOf cl) := by
  obtain ⟨h1, h2⟩ := He.ba c.cls
  obtain ⟨h2, h3⟩ := He.ba h2
  obtain ⟨h3, _⟩ := He.ba h3
  obtain ⟨h3, h5⟩ := He.ba h3
  obtain ⟨h3, h4⟩ := He.ba h3
  have at1 : ∀ x r, xcOf cl x = some r → ∃ d ∈ cl, d.name = x ∧ d.q = r := fun x r hx => by
    obtain ⟨d, hd, e⟩ := List.mem_map.mp (look_mem hx)
    cases e
    exact ⟨d, hd, rfl, rfl⟩
  have cn : ∀ d ∈ cl, cnOf cl d.q = d.name := fun d hd => of_decide_eq_true (List.all_eq_true.mp R.hc d hd)
  have ca : ∀ d ∈ cl, (gOf rows cl P w K mg base).ca d.q = He.ga K d.name := fun d hd => by show He.ga K (cnOf cl d.q) = _; rw [cn d hd]
  have kn1 : ∀ q, (gOf rows cl P w K mg base).kn q = true → ∃ d ∈ cl, d.q = q ∧ d.full = true := fun q hq => by
    obtain ⟨k1, k2⟩ := He.ba (show (decide (0 < q) && cl.any fun c => c.q == q) = true from hq)
    obtain ⟨d, hd, e⟩ := List.any_eq_true.mp k2
    have e := beq_iff_eq.mp e
    subst e
    exact ⟨d, hd, rfl, k1⟩
  have full : ∀ d ∈ cl, d.full = true → fullB P.main.file cl K d = true := fun d hd hf => List.all_eq_true.mp h2 d (List.mem_filter.mpr ⟨hd, hf⟩)
  refine ⟨smB_ok h5, PySem.W.mg_none_of X G (He.eqO_ok h4), fun x r hx => ?_, fun q x r hq hx => ?_, fun x q hx hq => ?_, fun q hq => ?_, fun x hx => ?_, fun q hq => ?_⟩
  · obtain ⟨d, hd, rfl, rfl⟩ := at1 x r hx
    obtain ⟨k1, k2⟩ := He.ba (List.all_eq_true.mp h1 d hd)
    rw [ca d hd]
    exact ⟨PySem.W.mg_of X G (He.eqO_ok k1), of_decide_eq_true k2⟩
  · obtain ⟨e, he, rfl, hf⟩ := kn1 q hq
    obtain ⟨d, hd, rfl, rfl⟩ := at1 x r hx
    obtain ⟨_, k⟩ := He.ba (full e he hf)
    obtain ⟨_, k⟩ := He.ba k
    obtain ⟨_, k⟩ := He.ba k
    obtain ⟨_, k⟩ := He.ba k
    obtain ⟨k1, k2⟩ := He.ba (List.all_eq_true.mp k d hd)
    rw [ca d hd, ca e he]
    exact ⟨of_decide_eq_true k1, of_decide_eq_true k2⟩
  · obtain ⟨d, hd, rfl, rfl⟩ := at1 x q hx
    show (decide (0 < d.q) && cl.any fun c => c.q == d.q) = true
    rw [decide_eq_true hq, Bool.true_and]
    exact List.any_eq_true.mpr ⟨d, hd, beq_self_eq_true _⟩
  · obtain ⟨e, he, rfl, hf⟩ := kn1 q hq
    obtain ⟨_, k⟩ := He.ba (full e he hf)
    obtain ⟨_, k⟩ := He.ba k
    obtain ⟨_, k⟩ := He.ba k
    obtain ⟨k, _⟩ := He.ba k
    rw [ca e he]
    exact bxB_ok k
  · obtain ⟨d, hd, _, e⟩ := at1 x 0 hx
    exact List.any_eq_true.mpr ⟨d, hd, beq_iff_eq.mpr e⟩
  · obtain ⟨d, hd, rfl, hf⟩ := kn1 q hq
    obtain ⟨k1, k⟩ := He.ba (full d hd hf)
    obtain ⟨k2, k⟩ := He.ba k
    obtain ⟨k3, k4⟩ := He.ba k
    rw [ca d hd]
    refine ⟨errB_ok k1, ?_, ?_, ?_, _, _, _, _, err_of (c.ini d hd hf) k1 k2 k3 (He.eqO_ok h3) R.top (R.hi d hd hf)⟩ <;>
    · obtain ⟨m1, h⟩ := He.ba k2
      obtain ⟨m2, h⟩ := He.ba h
      obtain ⟨m3, h⟩ := He.ba h
      obtain ⟨m4, h⟩ := He.ba h
      obtain ⟨m5, h⟩ := He.ba h
      obtain ⟨m6, h⟩ := He.ba h
      obtain ⟨m7, h⟩ := He.ba h
      obtain ⟨m8, h⟩ := He.ba h
      obtain ⟨m9, h⟩ := He.ba h
      obtain ⟨m10, h⟩ := He.ba h
      obtain ⟨m11, m12⟩ := He.ba h
      first | exact He.eqO_ok m12 | exact m10 | exact of_decide_eq_true m11
theorem x0Of (X : K.In h) (G : h.Ns mainGlobals mg) (R : RowsOk rows cst cl T P) (c : SaysC (faOf rows cst) (fnsOf rows) (tfOf rows) P.main.file cl h K) (h0 : (gOf rows cl P w K mg base).k0 = true) : X0s (gOf rows cl P w K mg base) (xcOf cl) := by
  obtain ⟨h1, h2⟩ := He.ba c.cls
  obtain ⟨h2, h3⟩ := He.ba h2
  obtain ⟨_, h3⟩ := He.ba h3
  obtain ⟨d, hd, e⟩ := List.any_eq_true.mp (show (cl.any fun c => c.q == 0) = true from h0)
  have k := List.all_eq_true.mp h3 d (List.mem_filter.mpr ⟨hd, e⟩)
  have e0 := beq_iff_eq.mp e
  have cn : ∀ d ∈ cl, cnOf cl d.q = d.name := fun d hd => of_decide_eq_true (List.all_eq_true.mp R.hc d hd)
  have ca : ∀ d ∈ cl, (gOf rows cl P w K mg base).ca d.q = He.ga K d.name := fun d hd => by show He.ga K (cnOf cl d.q) = _; rw [cn d hd]
  have c0 := ca d hd
  rw [e0] at c0
  obtain ⟨k1, k⟩ := He.ba k
  obtain ⟨k2, k⟩ := He.ba k
  obtain ⟨k3, k⟩ := He.ba k
  obtain ⟨k4, k5⟩ := He.ba k
  refine ⟨by rw [c0]; exact errB_ok k1, by rw [c0]; exact k2, by rw [c0]; exact k3, fun x r hx => ?_, by rw [c0]; exact bxB_ok k4⟩
  obtain ⟨d', hd', e'⟩ := List.mem_map.mp (look_mem hx)
  cases e'
  rw [c0, ca d' hd']
  exact of_decide_eq_true (List.all_eq_true.mp k5 d' hd')
theorem lamD_of (c : SaysC (faOf rows cst) (fnsOf rows) (tfOf rows) P.main.file cl h K) (tb : ∀ p ∈ (tfOf rows).map (He.cT K), LamX.TabB base mg p.1 p.2) {r : Row} (hr : r ∈ rows) (hl : r.lm = true) {fd : FuncData} {dvs : List V} {kws : List (Str × V)} (FD : FunD K r.name r.name (defArgs r.txt) (defBody r.txt) (defScope r.txt) dvs kws (He.ga K r.name) fd) :
    LamD (gOf rows cl P w K mg base) (He.ga K r.name) r.name := by
  have mem : ((r.name, none) : He.Defn) ∈ tfOf rows := List.mem_map.mpr ⟨r, List.mem_filter.mpr ⟨hr, hl⟩, rfl⟩
  obtain ⟨oc, od, dV, kV, doc, pm, an, cdv, ct, osl, rfl, lk, hcd, _, _⟩ := FD.ex
  obtain ⟨cd, rfl⟩ := He.codeIn_ref hcd
  have e : (He.cT K (r.name, none)).1 = cd := He.codeOf_eq lk rfl
  refine ⟨cd, (He.cT K (r.name, none)).2, hcd, fun oc' od' fd' osl' h' => ?_, e ▸ tb _ (List.mem_map_of_mem mem), List.mem_map.mpr ⟨_, mem, rfl⟩, fun p hp e1 => ?_⟩
  · have := lk.symm.trans h'
    cases this
    rfl
  · obtain ⟨q, hq, rfl⟩ := List.mem_map.mp hp
    have := of_decide_eq_true (List.all_eq_true.mp (List.all_eq_true.mp c.one q hq) _ mem) e1
    subst this
    rfl
theorem knownOf (X : K.In h) (G : h.Ns mainGlobals mg) (R : RowsOk rows cst cl T P) (c : SaysC (faOf rows cst) (fnsOf rows) (tfOf rows) P.main.file cl h K) (tb : ∀ p ∈ (tfOf rows).map (He.cT K), LamX.TabB base mg p.1 p.2) :
    Known (gOf rows cl P w K mg base) T wf (fxOf rows) (csOf cst) (xcOf cl) (txOf rows) where
  xs := xsOf X G R c
  x0 := x0Of X G R c
  blt := fun x hx => He.free_ok X G (SaysD_mem c.d (List.mem_append_left _ (List.mem_append_left _ (List.mem_map_of_mem hx))))
  con := fun x d hd => by
    obtain ⟨k, hk, e⟩ := List.mem_map.mp (look_mem hd)
    have f := SaysD_mem c.d (List.mem_append_right _ (List.mem_map_of_mem (f := Cst.fa) hk))
    cases k with
    | int y i =>
      cases e
      obtain ⟨t, q⟩ := He.int_ok X G f
      exact ⟨.int i, _, q, ⟨t, rfl⟩, fun _ _ => .int i⟩
    | str y z =>
      cases e
      obtain ⟨t, q⟩ := He.str_ok X G f
      exact ⟨.str z, _, q, ⟨t, rfl⟩, fun _ _ => .str z⟩
  fn := fun x i hx => by
    obtain ⟨r, hr1, e⟩ := List.mem_map.mp (look_mem hx)
    cases e
    obtain ⟨hr1, ht⟩ := List.mem_filter.mp hr1
    have ht : r.td = false := by simpa using ht
    have f := He.glo_ok X G (SaysD_mem c.d (List.mem_append_left _ (List.mem_append_right _ (List.mem_map_of_mem (f := fun r : Row => He.Fa.glo r.name) hr1))))
    obtain ⟨fd, FD⟩ := SaysD_def c.d (List.mem_map_of_mem (f := Row.d) hr1)
    have e1 : nmOf rows r.id = r.name := of_decide_eq_true (List.all_eq_true.mp R.hid r hr1)
    have e2 := List.all_eq_true.mp R.hr r hr1
    simp only [rowB, Bool.and_eq_true, decide_eq_true_eq, ht, Bool.false_eq_true, if_false] at e2
    obtain ⟨⟨⟨⟨s1, s2⟩, s3⟩, s4⟩, _⟩ := e2
    have ea : (gOf rows cl P w K mg base).fa r.id = He.ga K r.name := by show He.ga K (nmOf rows r.id) = _; rw [e1]
    have FD' : FunD K r.name r.name (defArgs r.txt) (defBody r.txt) (defScope r.txt) [] (kwV (kwId r.id)) (He.ga K r.name) fd := by
      rw [← kwDv_v K]
      exact FD
    rw [ea]
    exact ⟨fd, r.ps, f, FD'.kp, bindF_of FD' (R.hb r hr1), r.F, r.name, defArgs r.txt, defBody r.txt, defScope r.txt, r.N, r.lm, R.hF r hr1, ⟨_, _, FD'⟩, scopeB_ok s1, fun hl => lamD_of c tb hr1 hl FD', s2, s3, s4⟩
  told := fun x i hx => by
    obtain ⟨r, hr1, e⟩ := List.mem_map.mp (look_mem hx)
    cases e
    obtain ⟨hr1, ht⟩ := List.mem_filter.mp hr1
    have ht : r.td = true := ht
    have f := He.glo_ok X G (SaysD_mem c.d (List.mem_append_left _ (List.mem_append_right _ (List.mem_map_of_mem (f := fun r : Row => He.Fa.glo r.name) hr1))))
    obtain ⟨fd, FD⟩ := SaysD_def c.d (List.mem_map_of_mem (f := Row.d) hr1)
    have e1 : nmOf rows r.id = r.name := of_decide_eq_true (List.all_eq_true.mp R.hid r hr1)
    have e2 := List.all_eq_true.mp R.hr r hr1
    simp only [rowB, Bool.and_eq_true, decide_eq_true_eq, ht, if_true, Bool.not_true, Bool.false_or, Option.isNone_iff_eq_none] at e2
    obtain ⟨⟨⟨⟨s1, s2⟩, s3⟩, s4⟩, s5⟩ := e2
    have ea : (gOf rows cl P w K mg base).fa r.id = He.ga K r.name := by show He.ga K (nmOf rows r.id) = _; rw [e1]
    have FD' : FunD K r.name r.name (defArgs r.txt) (defBody r.txt) (defScope r.txt) [] [] (He.ga K r.name) fd := by
      have z := kwDv_v K (kwId r.id)
      rw [s5] at z
      have z2 : (Row.d r).kws K = [] := by show (kwDv (kwId r.id)).map _ = _; rw [s5]; rfl
      rw [← z2]
      exact FD
    have hb0 : BindP r := by
      have := R.hb r hr1
      unfold BindOk at this
      rw [s5] at this
      exact this
    have hbs := FD'.bindsN hb0
    rw [ea]
    split at s2
    · rename_i a hps
      rw [hps] at s1 s4 hbs
      exact ⟨fd, a, f, FD'.kp, hbs, r.F, r.name, defArgs r.txt, defBody r.txt, defScope r.txt, r.N, R.hF r hr1, FD', scopeB_ok s1, s2, s3, s4⟩
    · cases s2
end
/-- the law's call, from its run -/
theorem lawSp {g : Gb} {c : List D → Sto → R W} {H : Hp} {a : Addr} {ns : List Int} {ts : List (Addr × Addr)} (hT : ∀ p ∈ g.T, ∃ q ∈ ts, p.1 = q.2) (h1 : ∀ p ∈ ts, H p.2 = some (.tbl #[])) (h2 : ∀ c o, H c = some o → (∃ p ∈ ts, c = p.2) ∨ ∃ ob xs, o = .frz ob (.lst xs))
    (hS : SqL g.K H a (ns.map V.int)) (hc : ∃ st', c [.scr ns] [] = .ok (.dat (.bl true)) st') : spOf g c 1 [.ref a] H (fun v _ => v = .bl true) fun _ _ _ => False := by
  obtain ⟨st', e⟩ := hc
  have F1 : ∀ {c o}, (fun c => if c ∈ ts.map (·.2) then none else H c) c = some o → c ∉ ts.map (·.2) ∧ H c = some o := fun {c o} q => by
    by_cases hm : c ∈ ts.map (·.2)
    · rw [show (fun c => if c ∈ ts.map (·.2) then none else H c) c = none from if_pos hm] at q; cases q
    · exact ⟨hm, by rw [show (fun c => if c ∈ ts.map (·.2) then none else H c) c = H c from if_neg hm] at q; exact q⟩
  have F2 : ∀ {c o}, H c = some o → (∀ ps, o ≠ .tbl ps) → (fun c => if c ∈ ts.map (·.2) then none else H c) c = some o := fun {c o} q nt => by
    refine (if_neg fun hm => ?_).trans q
    obtain ⟨p, hp, rfl⟩ := List.mem_map.mp hm
    rw [h1 p hp] at q
    cases q
    exact nt _ rfl
  refine ⟨fun c => if c ∈ ts.map (·.2) then none else H c, [], [.scr ns], [], rfl, ?_, .cons (.scr ?_) .nil, ?_⟩
  · exact {
      sub := fun c o q => (F1 q).2
      ext := .refl _
      new := fun a o h => .inl h
      rho := ⟨[], rfl, fun a ha => by simp at ha⟩
      keep := fun a o h _ _ => h
      fsh := fun n a o h => by simp at h
      sto := ⟨rfl, fun n o p h => by simp at h, List.nodup_nil⟩
      len := rfl
      dat := fun i d h => by simp at h
      mu := fun i xs h => by simp at h
      apart := fun i j a xs ys h => by simp at h
      pin := fun q hq => by simp at hq
      tb := ⟨fun p hp => by
        obtain ⟨q, hq, e⟩ := hT p hp
        exact LamX.TabS.nil (e ▸ h1 q hq), fun a o q => by
        obtain ⟨q1, q2⟩ := F1 q
        rcases h2 a o q2 with ⟨p, hp, z⟩ | ⟨ob, xs, rfl⟩
        · exact absurd (z ▸ List.mem_map_of_mem (f := (·.2)) hp) q1
        · exact (fun ps z => by cases z), fun a ps q => ⟨ps, q⟩, fun q hq => by simp at hq⟩ }
  · rcases hS with (hS | ⟨o, hS⟩) | hS
    · exact .inl (.inl (F2 hS fun ps z => by cases z))
    · exact .inl (.inr ⟨o, F2 hS fun ps z => by cases z⟩)
    · exact .inr hS
  · rw [e]
    intro F' ρ' H' v _ _ _ h
    exact VR.blI h
theorem lawFn {T : Tab} {wf k : Nat} {rows : List Row} {cst : List Cst} {cl : List Cl} {P : Program} {w : World} {mg : Str → Option Value} {fa : Addr} {h : Heap} {x : Str} {L : Row} (hY : ∃ K : PySem.W.Frag, K.In h ∧ SaysC (faOf rows cst) (fnsOf rows) (tfOf rows) P.main.file cl h K) (G : h.Ns mainGlobals mg) (R : RowsOk rows cst cl T P)
    (hL : L ∈ rows) (hx : L.ps = [x]) (htd : L.td = false) (hkw : kwId L.id = none) (hfa : mg L.name = some (.ref fa)) (hrun : ∀ ns : List Int, ns.length ≤ 63 → ∃ st', run T wf (k + 1) L.id [.scr ns] [] = .ok (.dat (.bl true)) st') :
    ∃ (g : Gb) (fd : FuncData) (sp : Sp) (ts : List (Addr × Addr)), g.P = P ∧ g.w = w ∧ g.mg = mg ∧ g.K.In h ∧ (∀ p ∈ ts, h.get? p.2 = some { cls := .none, data := .fields #[] }) ∧ (∀ p ∈ ts, g.K.lookup p.2 = none) ∧ (∀ p ∈ ts, PySem.W.CodeHd h p.1 p.2) ∧ (∀ (s : Shared) (u : Value), BindsTo s fd ⟨[u], []⟩ [(x, u)]) ∧
        (∀ (H : Hp) (a : Addr) (ns : List Int), ns.length ≤ 63 → (∀ p ∈ ts, H p.2 = some (.tbl #[])) → (∀ c o, H c = some o → (∃ p ∈ ts, c = p.2) ∨ ∃ ob xs, o = .frz ob (.lst xs)) → SqL g.K H a (ns.map V.int) → sp [.ref a] H (fun v _ => v = .bl true) fun _ _ _ => False) ∧
        ∀ base : Heap, g.K.In base → base.Ns mainGlobals mg → (∀ p ∈ ts, LamX.TabB base mg p.1 p.2) → FnG { g with base := base } (3 * (k + 1)) fa fd [x] sp := by
  obtain ⟨K, X, c⟩ := hY
  obtain ⟨fd, FD⟩ := SaysD_def c.d (List.mem_map_of_mem (f := Row.d) hL)
  have FD' : FunD K L.name L.name (defArgs L.txt) (defBody L.txt) (defScope L.txt) [] [] (He.ga K L.name) fd := by
    have z2 : (Row.d L).kws K = [] := by show (kwDv (kwId L.id)).map _ = _; rw [hkw]; rfl
    rw [← z2]
    exact FD
  have hb0 : BindP L := by
    have := R.hb L hL
    unfold BindOk at this
    rw [hkw] at this
    exact this
  refine ⟨gOf rows cl P w K mg h, fd, fun vs H Q E => ∀ base : Heap, spOf (gOf rows cl P w K mg base) (run T wf (k + 1) L.id) 1 vs H Q E, (tfOf rows).map (He.cT K), rfl, rfl, rfl, X, ?_, ?_, ?_, ?_, ?_, ?_⟩
  · intro p hp
    obtain ⟨q, hq, rfl⟩ := List.mem_map.mp hp
    exact c.empty q hq
  · intro p hp
    obtain ⟨q, hq, rfl⟩ := List.mem_map.mp hp
    exact c.out q hq
  · intro p hp
    obtain ⟨q, hq, rfl⟩ := List.mem_map.mp hp
    exact PySem.W.codeHd_of_K X (c.hd q hq)
  · intro s u
    have := FD'.bindsA hb0 s [u] (by rw [hx]; rfl)
    rw [hx] at this
    exact this
  · intro H a ns hl t1 t2 hS base
    refine lawSp (g := gOf rows cl P w K mg base) (fun p hp => ?_) t1 t2 hS (hrun ns hl)
    obtain ⟨q, hq, rfl⟩ := List.mem_map.mp hp
    exact ⟨_, List.mem_map_of_mem hq, rfl⟩
  · intro base Kb Gb tb
    have Kn := knownOf (T := T) (wf := wf) (w := w) (base := base) X G R c tb
    have h1 := He.glo_ok X G (SaysD_mem c.d (List.mem_append_left _ (List.mem_append_right _ (List.mem_map_of_mem (f := fun r : Row => He.Fa.glo r.name) hL))))
    have e2 : fa = He.ga K L.name := by
      have := hfa.symm.trans h1
      cases this; rfl
    subst e2
    have e2 := List.all_eq_true.mp R.hr L hL
    simp only [rowB, Bool.and_eq_true, decide_eq_true_eq, htd, Bool.false_eq_true, if_false] at e2
    obtain ⟨⟨⟨⟨s1, s2⟩, s3⟩, s4⟩, _⟩ := e2
    have FG := fn_ok (g := gOf rows cl P w K mg base) (known_md Kn k) FD' (scopeB_ok s1) (R.hF L hL) (fun hl => lamD_of c tb hL hl FD') s2 s3 s4
    rw [hx] at FG
    exact ⟨fun vs H Q E hq => FG.len vs H Q E (hq base), fun A outer s H args us vs Q E a1 a2 a3 a4 a5 hq => FG.run A outer s H args us vs Q E a1 a2 a3 a4 a5 (hq base)⟩
end MP

set_option Elab.async false
set_option linter.all false
set_option maxRecDepth 100000
namespace MP
open PySem
theorem nr {α : Sort u} {a b : α} (h : a = b) : a = b := h
/-! ### steps of the small language, as equations -/
section
variable {α β : Type} (cf : Nat → List D → Sto → R W) (wf : Nat)
@[simp] theorem bind_okE (a : α) (st : Sto) (f : α → Sto → R β) : (R.ok a st).bind f = f a st := nr rfl
@[simp] theorem bind_excE (c : Nat) (p : D) (st : Sto) (f : α → Sto → R β) : (R.exc c p st : R α).bind f = .exc c p st := nr rfl
@[simp] theorem bind_badE (f : α → Sto → R β) : (R.bad : R α).bind f = .bad := nr rfl
@[simp] theorem out_okE (a : α) (st : Sto) (env : Fr) (f : α → Sto → Out) : (R.ok a st).out env f = f a st := nr rfl
@[simp] theorem out_excE (c : Nat) (p : D) (st : Sto) (env : Fr) (f : α → Sto → Out) : (R.exc c p st : R α).out env f = .exc c p env st := nr rfl
@[simp] theorem then_nx (env : Fr) (st : Sto) (f : Fr → Sto → Out) : (Out.nx env st).andThen f = f env st := nr rfl
@[simp] theorem then_rt (w : W) (st : Sto) (f : Fr → Sto → Out) : (Out.rt w st).andThen f = .rt w st := nr rfl
@[simp] theorem then_exc (c : Nat) (p : D) (env : Fr) (st : Sto) (f : Fr → Sto → Out) : (Out.exc c p env st).andThen f = .exc c p env st := nr rfl
@[simp] theorem opt_some (a : α) (st : Sto) : opt (some a) st = .ok a st := nr rfl
@[simp] theorem opt_none (st : Sto) : opt (none : Option α) st = .bad := nr rfl
@[simp] theorem W_dat (d : D) : (W.dat d).d = d := nr rfl
@[simp] theorem W_own (xs : List D) : (W.own xs).d = .lst xs := nr rfl
@[simp] theorem done_rt (w : W) (st : Sto) : done (.rt w st) = .ok w st := nr rfl
@[simp] theorem done_nx (env : Fr) (st : Sto) : done (.nx env st) = .ok (.dat .non) st := nr rfl
@[simp] theorem done_exc (c : Nat) (p : D) (env : Fr) (st : Sto) : done (.exc c p env st) = .exc c p st := nr rfl
def forB (g : G) (b : Ss) (x : D) (env : Fr) (st : Sto) : Out := match putG g x env with
  | some env' => exs cf wf b env' st
  | none => .bad
def compB (e : E) (g : G) (env : Fr) (c : C) (x : D) (st : Sto) : R (Option D) := (opt (putG g x env) st).bind fun env' s2 => (evC cf c env' s2).bind fun k s3 =>
      if k then (ev cf e env' s3).bind fun y s4 => .ok (some y.d) s4 else .ok none s3
def whC (c : E) (env : Fr) (st : Sto) : R Bool := (ev cf c env st).bind fun x s1 => match x.d with
    | .bl k => .ok k s1
    | _ => .bad
def whB (b : Ss) (env : Fr) (st : Sto) : Out := exs cf wf b env st
variable (i m f : Nat) (x : Str) (d : D) (a b c e e1 e2 : E) (es r : A) (env : Fr) (st : Sto) (o o' : Bop) (q q' : Cop) (lo hi : O) (it : It) (g : G) (own : List Nat) (cc : C) (fb : B1) (fb2 : B2) (ty : Ty) (s : S) (sa sb ss : Ss)
@[simp] theorem ev_var : ev cf (.var i) env st = opt ((getD env i).map .dat) st := by rw [ev]
@[simp] theorem ev_con : ev cf (.con d) env st = .ok (.dat d) st := by rw [ev]
@[simp] theorem ev_glo : ev cf (.glo x d) env st = .ok (.dat d) st := by rw [ev]
@[simp] theorem ev_tup : ev cf (.tup es) env st = (evA cf es env st).bind fun ds s1 => if ds.length ≤ sizeLine then .ok (.dat (.tup ds)) s1 else .bad := by rw [ev]
@[simp] theorem ev_lst : ev cf (.lst es) env st = (evA cf es env st).bind fun ds s1 => if ds.length ≤ sizeLine then .ok (.own ds) s1 else .bad := by rw [ev]
@[simp] theorem ev_bin : ev cf (.bin o a b) env st = (ev cf a env st).bind fun x s1 => (ev cf b env s1).bind fun y s2 => opt (binD o x.d y.d) s2 := by rw [ev]
@[simp] theorem ev_neg : ev cf (.neg a) env st = (ev cf a env st).bind fun x s1 => match x.d with
    | .int i => .ok (.dat (.int (-i))) s1
    | _ => .bad := by rw [ev] <;> rfl
@[simp] theorem ev_cmp : ev cf (.cmp q a b) env st = (ev cf a env st).bind fun x s1 => (ev cf b env s1).bind fun y s2 => opt ((cmpD q x.d y.d).map fun k => .dat (.bl k)) s2 := by rw [ev]
@[simp] theorem ev_chain : ev cf (.chain q q' a b c) env st = (ev cf a env st).bind fun x s1 => (ev cf b env s1).bind fun y s2 => match cmpD q x.d y.d with
    | some true => (ev cf c env s2).bind fun z s3 => opt ((cmpD q' y.d z.d).map fun k => .dat (.bl k)) s3
    | some false => .ok (.dat (.bl false)) s2
    | none => .bad := by rw [ev] <;> rfl
@[simp] theorem ev_not : ev cf (.not a) env st = (ev cf a env st).bind fun x s1 => match x.d with
    | .bl k => .ok (.dat (.bl (!k))) s1
    | _ => .bad := by rw [ev] <;> rfl
@[simp] theorem ev_and : ev cf (.and a b) env st = (ev cf a env st).bind fun x s1 => match x.d with
    | .bl true => ev cf b env s1
    | .bl false => .ok (.dat (.bl false)) s1
    | _ => .bad := by rw [ev] <;> rfl
@[simp] theorem ev_or : ev cf (.or a b) env st = (ev cf a env st).bind fun x s1 => match x.d with
    | .bl true => .ok (.dat (.bl true)) s1
    | .bl false => ev cf b env s1
    | _ => .bad := by rw [ev] <;> rfl
@[simp] theorem ev_ite : ev cf (.ite c a b) env st = (ev cf c env st).bind fun x s1 => match x.d with
    | .bl true => ev cf a env s1
    | .bl false => ev cf b env s1
    | _ => .bad := by rw [ev] <;> rfl
@[simp] theorem ev_idx : ev cf (.idx a b) env st = (ev cf a env st).bind fun x s1 => (ev cf b env s1).bind fun y s2 => match items x.d, y.d with
    | some xs, .int k => opt ((atD xs k).map .dat) s2
    | _, _ => .bad := by rw [ev] <;> rfl
@[simp] theorem ev_idxM : ev cf (.idxM m a) env st = match getM env m with
    | some xs => (ev cf a env st).bind fun y s1 => match y.d with
      | .int k => opt ((atD xs k).map .dat) s1
      | _ => .bad
    | none => .bad := by rw [ev] <;> rfl
@[simp] theorem ev_lenM : ev cf (.lenM m) env st = opt ((getM env m).map fun xs => .dat (.int xs.length)) st := by rw [ev]
@[simp] theorem ev_slc : ev cf (.slc a lo hi) env st = (ev cf a env st).bind fun x s1 => (evO cf lo env s1).bind fun l s2 => (evO cf hi env s2).bind fun h s3 => opt (slcD x.d l h) s3 := by rw [ev]
@[simp] theorem ev_rev : ev cf (.rev a) env st = (ev cf a env st).bind fun x s1 => opt (revD x.d) s1 := by rw [ev]
@[simp] theorem ev_call : ev cf (.call f x es) env st = (evA cf es env st).bind fun ds s1 => cf f ds s1 := by rw [ev]
@[simp] theorem ev_gfn : ev cf (.gfn f x) env st = .ok (.dat (.fn f)) st := by rw [ev]
@[simp] theorem ev_callv (fs : List (Nat × Str)) : ev cf (.callv i fs es) env st = match getD env i with
    | some (.fn f) => if fs.any fun p => decide (p.1 = f) then (evA cf es env st).bind fun ds s1 => cf f ds s1 else .bad
    | _ => .bad := by rw [ev] <;> rfl
@[simp] theorem ev_b1 : ev cf (.b1 fb a) env st = (ev cf a env st).bind fun x s1 => opt (b1D fb x.d) s1 := by rw [ev]
@[simp] theorem ev_b2 : ev cf (.b2 fb2 a b) env st = (ev cf a env st).bind fun x s1 => (ev cf b env s1).bind fun y s2 => opt (b2D fb2 x.d y.d) s2 := by rw [ev]
@[simp] theorem ev_isi : ev cf (.isi a ty) env st = (ev cf a env st).bind fun x s1 => opt ((isiD x.d ty).map fun k => .dat (.bl k)) s1 := by rw [ev]
@[simp] theorem ev_lrng (tp : Bool) : ev cf (.lrng tp it) env st = (evI cf it env st).bind fun xs s1 => .ok (if tp then .dat (.tup xs) else .own xs) s1 := by rw [ev]
@[simp] theorem ev_comp : ev cf (.comp e g own it cc) env st = (evI cf it env st).bind fun xs s1 => if own.any fun i => (getM env i).isSome then .bad else
    (compL (compB cf e g (wipeE env own) cc) xs s1).bind fun ys s5 => if ys.length ≤ sizeLine then .ok (.own ys) s5 else .bad := by rw [ev] <;> rfl
@[simp] theorem ev_get : ev cf (.get a x) env st = (ev cf a env st).bind fun d s1 => opt ((getF x d.d s1).map .dat) s1 := by rw [ev]
@[simp] theorem ev_obi : ev cf (.obi a b) env st = (ev cf a env st).bind fun d s1 => (ev cf b env s1).bind fun y s2 => match lstF d.d s2, y.d with
    | some xs, .int k => opt ((atD xs k).map .dat) s2
    | _, _ => .bad := by rw [ev] <;> rfl
@[simp] theorem ev_obl : ev cf (.obl a) env st = (ev cf a env st).bind fun d s1 => opt ((lstF d.d s1).map fun xs => .dat (.int xs.length)) s1 := by rw [ev]
@[simp] theorem ev_obe : ev cf (.obe a) env st = (ev cf a env st).bind fun d s1 => match lstF d.d s1 with
    | some xs => if okD 60 (.lst xs) then .ok (.dat (.bl (!xs.isEmpty))) s1 else .bad
    | none => .bad := by rw [ev] <;> rfl
@[simp] theorem ev_new : ev cf (.new a) env st = (ev cf a env st).bind fun d s1 => match d with
    | .own xs => .ok (.dat (.ref s1.length)) (s1 ++ [.lst xs])
    | .dat _ => .bad := by rw [ev] <;> rfl
@[simp] theorem evA_nil : evA cf .nil env st = .ok [] st := by rw [evA]
@[simp] theorem evA_cons : evA cf (.cons e r) env st = (ev cf e env st).bind fun x s1 => (evA cf r env s1).bind fun xs s2 => .ok (x.d :: xs) s2 := by rw [evA]
@[simp] theorem evA_star : evA cf (.star e r) env st = (ev cf e env st).bind fun x s1 => match items x.d with
    | some ys => (evA cf r env s1).bind fun xs s2 => .ok (ys ++ xs) s2
    | none => .bad := by rw [evA] <;> rfl
@[simp] theorem evO_none : evO cf .none env st = .ok none st := by rw [evO]
@[simp] theorem evO_some : evO cf (.some e) env st = (ev cf e env st).bind fun x s1 => match x.d with
    | .int i => .ok (some i) s1
    | _ => .bad := by rw [evO] <;> rfl
@[simp] theorem evI_seq : evI cf (.seq e) env st = (ev cf e env st).bind fun x s1 => opt (items x.d) s1 := by rw [evI]
@[simp] theorem evI_mut : evI cf (.mut i) env st = opt (getM env i) st := by rw [evI]
@[simp] theorem evI_rng1 : evI cf (.rng1 a) env st = (ev cf a env st).bind fun x s1 => match x.d with
    | .int n => if rngOk 0 n then .ok (rng 0 n) s1 else .bad
    | _ => .bad := by rw [evI] <;> rfl
@[simp] theorem evI_rng2 : evI cf (.rng2 a b) env st = (ev cf a env st).bind fun x s1 => (ev cf b env s1).bind fun y s2 => match x.d, y.d with
    | .int m, .int n => if rngOk m n then .ok (rng m n) s2 else .bad
    | _, _ => .bad := by rw [evI] <;> rfl
@[simp] theorem evI_zip : evI cf (.zip a b) env st = (ev cf a env st).bind fun x s1 => (ev cf b env s1).bind fun y s2 => match items x.d, items y.d with
    | some xs, some ys => .ok (zipF xs ys) s2
    | _, _ => .bad := by rw [evI] <;> rfl
@[simp] theorem evI_enum : evI cf (.enum a) env st = (ev cf a env st).bind fun x s1 => opt ((items x.d).map enumF) s1 := by rw [evI]
@[simp] theorem evI_enumz : evI cf (.enumz a b) env st = (ev cf a env st).bind fun x s1 => (ev cf b env s1).bind fun y s2 => match x.d, y.d with
    | .lst xs, .lst ys => .ok (enumF (zipF xs ys)) s2
    | _, _ => .bad := by rw [evI] <;> rfl
@[simp] theorem evC_yes : evC cf .yes env st = .ok true st := by rw [evC]
@[simp] theorem evC_one : evC cf (.one e) env st = (ev cf e env st).bind fun x s1 => match x.d with
    | .bl k => .ok k s1
    | _ => .bad := by rw [evC] <;> rfl
@[simp] theorem evW_nil : evW cf .nil env st = .ok [] st := by rw [evW]
@[simp] theorem evW_cons : evW cf (.cons e r) env st = (ev cf e env st).bind fun x s1 => (evW cf r env s1).bind fun xs s2 => .ok (x :: xs) s2 := by rw [evW]
@[simp] theorem ex_asg : ex cf wf (.asg g e) env st = (ev cf e env st).out env fun x s1 => match putG g x.d env with
    | some env' => .nx env' s1
    | none => .bad := by rw [ex] <;> rfl
@[simp] theorem ex_own : ex cf wf (.own i e) env st = (ev cf e env st).out env fun x s1 => match x with
    | .own xs => if i < env.length then .nx (env.set i (.mut xs)) s1 else .bad
    | _ => .bad := by rw [ex] <;> rfl
@[simp] theorem ex_par (gs : List (Bool × Nat)) : ex cf wf (.par gs es) env st = (evW cf es env st).out env fun ws s1 => match putP gs ws env with
    | some env' => .nx env' s1
    | none => .bad := by rw [ex] <;> rfl
@[simp] theorem ex_setm : ex cf wf (.setm i a e) env st = match getM env i with
    | some xs => (ev cf e env st).out env fun x s1 => (ev cf a env s1).out env fun y s2 => match y.d with
      | .int n => match ixD xs.length n with
        | some j => .nx (env.set i (.mut (xs.set j x.d))) s2
        | none => .bad
      | _ => .bad
    | none => .bad := by rw [ex] <;> rfl
@[simp] theorem ex_augm : ex cf wf (.augm i o a e) env st = match getM env i with
    | some xs => (ev cf a env st).out env fun y s1 => match y.d with
      | .int n => match ixD xs.length n with
        | some j => match xs[j]? with
          | some z => (ev cf e env s1).out env fun x s2 => match augD o z x.d with
            | some q => .nx (env.set i (.mut (xs.set j q))) s2
            | none => .bad
          | none => .bad
        | none => .bad
      | _ => .bad
    | none => .bad := by rw [ex] <;> rfl
@[simp] theorem ex_appm : ex cf wf (.appm i e) env st = match getM env i with
    | some xs => (ev cf e env st).out env fun x s1 => if xs.length < sizeLine then .nx (env.set i (.mut (xs ++ [x.d]))) s1 else .bad
    | none => .bad := by rw [ex] <;> rfl
@[simp] theorem ex_extm : ex cf wf (.extm i e) env st = match getM env i with
    | some xs => (ev cf e env st).out env fun x s1 => match x.d with
      | .lst ys => if xs.length + ys.length ≤ sizeLine then .nx (env.set i (.mut (xs ++ ys))) s1 else .bad
      | _ => .bad
    | none => .bad := by rw [ex] <;> rfl
@[simp] theorem ex_ife : ex cf wf (.ife c sa sb) env st = (ev cf c env st).out env fun x s1 => match x.d with
    | .bl true => exs cf wf sa env s1
    | .bl false => exs cf wf sb env s1
    | _ => .bad := by rw [ex] <;> rfl
@[simp] theorem ex_for : ex cf wf (.for_ g it sb) env st = (evI cf it env st).out env fun xs s1 => forL (forB cf wf g sb) xs env s1 := by rw [ex] <;> rfl
@[simp] theorem ex_whl : ex cf wf (.whl c sb) env st = whileL (whC cf c) (whB cf wf sb) wf env st := by rw [ex] <;> rfl
@[simp] theorem ex_ret : ex cf wf (.ret e) env st = (ev cf e env st).out env fun x s1 => .rt x s1 := by rw [ex]
@[simp] theorem ex_exp : ex cf wf (.exp e) env st = (ev cf e env st).out env fun _ s1 => .nx env s1 := by rw [ex]
@[simp] theorem ex_mk : ex cf wf (.mk a b c) env st = (ev cf a env st).out env fun x s1 => (ev cf b env s1).out env fun y s2 => (ev cf c env s2).out env fun z s3 => match x.d, y, z.d with
    | .int m, .own xs, .int t => .rt (.dat (.ref (s3.length + 1))) (s3 ++ [.lst xs, .dct [("mixed", .int m), ("great", .ref s3.length), ("turn", .int t)]])
    | _, _, _ => .bad := by rw [ex] <;> rfl
@[simp] theorem ex_put : ex cf wf (.put a x e) env st = (ev cf e env st).out env fun y s1 => (ev cf a env s1).out env fun d s2 => match putF x d.d y.d s2 with
    | some s3 => .nx env s3
    | none => .bad := by rw [ex] <;> rfl
@[simp] theorem ex_obs : ex cf wf (.obs a b e) env st = (ev cf e env st).out env fun y s1 => (ev cf a env s1).out env fun d s2 => (ev cf b env s2).out env fun z s3 => match z.d with
    | .int k => match setF d.d k y.d s3 with
      | some s4 => .nx env s4
      | none => .bad
    | _ => .bad := by rw [ex] <;> rfl
@[simp] theorem ex_ppar : ex cf wf (.ppar a x i e1 e2) env st = (ev cf e1 env st).out env fun y s1 => (ev cf e2 env s1).out env fun z s2 => (ev cf a env s2).out env fun d s3 => match putF x d.d y.d s3 with
    | some s4 => if i < env.length then .nx (env.set i (.dat z.d)) s4 else .bad
    | none => .bad := by rw [ex] <;> rfl
@[simp] theorem ev_isx : ev cf (.isx a i x) env st = (ev cf a env st).bind fun y s1 => match y.d with
    | .err k _ => .ok (.dat (.bl (subC k i))) s1
    | .non => .ok (.dat (.bl false)) s1
    | _ => .bad := by rw [ev] <;> rfl
@[simp] theorem ev_fld : ev cf (.fld a x) env st = (ev cf a env st).bind fun y s1 => match y.d with
    | .err k p => if fldC k = x then .ok (.dat p) s1 else .bad
    | _ => .bad := by rw [ev] <;> rfl
@[simp] theorem ev_lamc : ev cf (.lamc f x e) env st = match ev cf e env st with
    | .ok w s1 => cf f [.tup [w.d]] s1
    | .exc c p s1 => cf f [.err c p] s1
    | .bad => .bad := by rw [ev] <;> rfl
@[simp] theorem ev_call0 : ev cf (.call0 f x) env st = cf f [] st := by rw [ev]
@[simp] theorem ev_calld : ev cf (.calld f x es) env st = (evA cf es env st).bind fun ds s1 => match kwId f with
    | some p => cf f (ds ++ [.int p.2]) s1
    | none => .bad := by rw [ev] <;> rfl
@[simp] theorem ev_callk : ev cf (.callk f x es e) env st = (evA cf es env st).bind fun ds s1 => (ev cf e env s1).bind fun z s2 => cf f (ds ++ [z.d]) s2 := by rw [ev]
@[simp] theorem ev_dic : ev cf .dic env st = .ok (.dat .emp) st := by rw [ev]
@[simp] theorem ev_mke : ev cf (.mke f x e) env st = (ev cf e env st).bind fun y s1 => .ok (.dat (.err f y.d)) s1 := by rw [ev]
@[simp] theorem ev_mk0 : ev cf (.mk0 x e) env st = (ev cf e env st).bind fun y s1 => .ok (.dat (.err 0 y.d)) s1 := by rw [ev]
@[simp] theorem ev_isb : ev cf (.isb a i) env st = (ev cf a env st).bind fun y s1 => match y.d with
    | .err k _ => .ok (.dat (.bl (subB k i))) s1
    | _ => .bad := by rw [ev] <;> rfl
@[simp] theorem ev_cnt : ev cf (.cnt a e) env st = (ev cf a env st).bind fun x s1 => match x.d with
    | .lst xs => (ev cf e env s1).bind fun y s2 => if scalar y.d && xs.all scalar then .ok (.dat (.int (xs.countP fun z => eqD z y.d))) s2 else .bad
    | _ => .bad := by rw [ev] <;> rfl
@[simp] theorem ex_rais : ex cf wf (.rais i x e) env st = (ev cf e env st).out env fun y s1 => .exc i y.d env s1 := by rw [ex] <;> rfl
@[simp] theorem ex_tryc (t : Option Nat) (cs : List (Nat × Str)) (j : Nat) : ex cf wf (.tryc t e cs i j) env st = match ev cf e env st with
    | .ok w s1 => (match t with
      | none => .nx env s1
      | some k => match putG (.nm k) w.d env with
        | some env' => .nx env' s1
        | none => .bad)
    | .exc c p s1 => if cs.any fun q => subC c q.1 then .nx ((env.set j (.dat (.err c p))).set i .un) s1 else .exc c p env s1
    | .bad => .bad := by rw [ex] <;> rfl
@[simp] theorem ex_told (ns : List Nat) (t : Option Nat) (cs : List (Nat × Str)) (j : Nat) : ex cf wf (.told ns t cs i j) env st = match getD env 0 with
    | some (.tup [d]) => (match t with
      | none => .nx (nons ns (env.set 0 .un)) st
      | some k => .nx ((nons ns (env.set 0 .un)).set k (.dat d)) st)
    | some (.err c p) => if cs.any fun q => subC c q.1 then .nx (((nons ns (env.set 0 .un)).set j (.dat (.err c p))).set i .un) st else .exc c p (nons ns (env.set 0 .un)) st
    | _ => .bad := by rw [ex] <;> rfl
@[simp] theorem nons_nil : nons [] env = env := nr rfl
@[simp] theorem nons_cons (ns : List Nat) : nons (i :: ns) env = nons ns (env.set i (.dat .non)) := nr rfl
@[simp] theorem ex_dead : ex cf wf .dead env st = .bad := by rw [ex]
@[simp] theorem exs_nil : exs cf wf .nil env st = .nx env st := by rw [exs]
@[simp] theorem exs_cons : exs cf wf (.cons s ss) env st = (ex cf wf s env st).andThen fun env' s1 => exs cf wf ss env' s1 := by rw [exs]
@[simp] theorem exs_frz : exs cf wf (.frz i ss) env st = match getM env i with
    | some xs => exs cf wf ss (env.set i (.dat (.lst xs))) st
    | none => .bad := by rw [exs] <;> rfl
@[simp] theorem exs_melt : exs cf wf (.melt i ss) env st = match getD env i with
    | some (.lst xs) => match meltD xs st with
      | some q => exs cf wf ss (env.set i (.dat (.lst q.1))) q.2
      | none => .bad
    | _ => .bad := by rw [exs] <;> rfl
@[simp] theorem putG_nm : putG (.nm i) d env = if i < env.length then some (env.set i (.dat d)) else none := by rw [putG]
@[simp] theorem putG_tp (gs : Gs) (xs : List D) : putG (.tp gs) (.tup xs) env = putGs gs xs env := by rw [putG]
@[simp] theorem putGs_nil : putGs .nil [] env = some env := by rw [putGs]
@[simp] theorem putGs_cons (gs : Gs) (y : D) (xs : List D) : putGs (.cons g gs) (y :: xs) env = (putG g y env).bind fun env' => putGs gs xs env' := by rw [putGs]
@[simp] theorem getD_zero (s : Slot) : getD (s :: env) 0 = match s with
    | .dat d => some d
    | _ => none := by unfold getD; cases s <;> rfl
@[simp] theorem getD_succ (s : Slot) : getD (s :: env) (i + 1) = getD env i := nr rfl
@[simp] theorem getM_zero (s : Slot) : getM (s :: env) 0 = match s with
    | .mut d => some d
    | _ => none := by unfold getM; cases s <;> rfl
@[simp] theorem getM_succ (s : Slot) : getM (s :: env) (i + 1) = getM env i := nr rfl
@[simp] theorem getM_nil : getM [] i = none := nr rfl
@[simp] theorem wipeE_nil : wipeE env [] = env := nr rfl
@[simp] theorem wipeE_cons (vs : List Nat) : wipeE env (i :: vs) = (wipeE env vs).set i .un := nr rfl
@[simp] theorem putP_nil : putP [] [] env = some env := nr rfl
@[simp] theorem putP_f (gs : List (Bool × Nat)) (w : W) (ws : List W) : putP ((false, i) :: gs) (w :: ws) env = if i < env.length then putP gs ws (env.set i (.dat w.d)) else none := nr rfl
@[simp] theorem putP_t (gs : List (Bool × Nat)) (xs : List D) (ws : List W) : putP ((true, i) :: gs) (.own xs :: ws) env = if i < env.length then putP gs ws (env.set i (.mut xs)) else none := nr rfl
end
section
variable (i j : Int) (x y : Str) (xs ys : List D) (b b' : Bool) (d : D) (ns : List Int)
@[simp] theorem c_lt : cmpD .lt (.int i) (.int j) = some (decide (i < j)) := nr rfl
@[simp] theorem c_le : cmpD .le (.int i) (.int j) = some (decide (i ≤ j)) := nr rfl
@[simp] theorem c_gt : cmpD .gt (.int i) (.int j) = some (decide (j < i)) := nr rfl
@[simp] theorem c_ge : cmpD .ge (.int i) (.int j) = some (decide (j ≤ i)) := nr rfl
@[simp] theorem c_isN : cmpD .is d .non = some (match d with | .non => true | _ => false) := by cases d <;> rfl
@[simp] theorem c_isnN : cmpD .isnot d .non = some (match d with | .non => false | _ => true) := by cases d <;> rfl
@[simp] theorem c_isB : cmpD .is (.bl b) (.bl b') = some (decide (b = b')) := nr rfl
@[simp] theorem eqI : eqD (.int i) (.int j) = decide (i = j) := by rw [Bool.eq_iff_iff]; simp [eqD, toPy, PyData.eqv]
@[simp] theorem eqS : eqD (.str x) (.str y) = decide (x = y) := by rw [Bool.eq_iff_iff]; simp [eqD, toPy, PyData.eqv]
@[simp] theorem eqB : eqD (.bl b) (.bl b') = decide (b = b') := by rw [Bool.eq_iff_iff]; simp [eqD, toPy, PyData.eqv]
@[simp] theorem c_eqI : cmpD .eq (.int i) (.int j) = some (decide (i = j)) := by simp [cmpD, okD]
@[simp] theorem c_neI : cmpD .ne (.int i) (.int j) = some (!decide (i = j)) := by simp [cmpD, okD]
@[simp] theorem c_eqB : cmpD .eq (.bl b) (.bl b') = some (decide (b = b')) := by simp [cmpD, okD]
@[simp] theorem c_neB : cmpD .ne (.bl b) (.bl b') = some (!decide (b = b')) := by simp [cmpD, okD]
@[simp] theorem c_eqT0 : cmpD .eq (.tup xs) (.tup []) = some xs.isEmpty := nr rfl
@[simp] theorem c_inT : cmpD .inn d (.tup ys) = if scalar d && ys.all scalar then some (inD d ys) else none := by cases d <;> rfl
@[simp] theorem c_ninT : cmpD .nin d (.tup ys) = if scalar d && ys.all scalar then some (!inD d ys) else none := by cases d <;> rfl
@[simp] theorem bin_add : binD .add (.int i) (.int j) = some (.dat (.int (i + j))) := nr rfl
@[simp] theorem bin_sub : binD .sub (.int i) (.int j) = some (.dat (.int (i - j))) := nr rfl
@[simp] theorem bin_mul : binD .mul (.int i) (.int j) = if mulOk i j then some (.dat (.int (i * j))) else none := nr rfl
theorem bin_mulL : binD .mul (.lst xs) (.int j) = if decide (-(2 ^ 63) ≤ j) && decide (j < 2 ^ 63) && decide (xs.length * j.toNat ≤ sizeLine) then some (.own (rep j xs)) else none := rfl
theorem bin_mulT : binD .mul (.tup xs) (.int j) = if decide (-1000 ≤ j) && decide (j ≤ 1000) && decide (xs.length ≤ 1000) then some (.dat (.tup (rep j xs))) else none := rfl
@[simp] theorem bin_fdiv : binD .fdiv (.int i) (.int j) = if divOk j then some (.dat (.int (i / j))) else none := nr rfl
@[simp] theorem bin_mod : binD .mod (.int i) (.int j) = if decide (0 < j) then some (.dat (.int (i % j))) else none := nr rfl
@[simp] theorem bin_addT : binD .add (.tup xs) (.tup ys) = if xs.length + ys.length ≤ sizeLine then some (.dat (.tup (xs ++ ys))) else none := nr rfl
@[simp] theorem bin_addL : binD .add (.lst xs) (.lst ys) = if xs.length + ys.length ≤ sizeLine then some (.own (xs ++ ys)) else none := nr rfl
@[simp] theorem items_tup : items (.tup xs) = some xs := nr rfl
@[simp] theorem items_lst : items (.lst xs) = some xs := nr rfl
@[simp] theorem items_scr : items (.scr ns) = some (ns.map .int) := nr rfl
@[simp] theorem slc_tup (l h : Option Int) : slcD (.tup xs) l h = some (.dat (.tup (cutD xs l h))) := nr rfl
@[simp] theorem slc_lst (l h : Option Int) : slcD (.lst xs) l h = some (.own (cutD xs l h)) := nr rfl
@[simp] theorem len_tup : b1D .len (.tup xs) = some (.dat (.int xs.length)) := nr rfl
@[simp] theorem len_lst : b1D .len (.lst xs) = some (.dat (.int xs.length)) := nr rfl
@[simp] theorem len_scr : b1D .len (.scr ns) = some (.dat (.int ns.length)) := nr rfl
@[simp] theorem all_lst : b1D .all (.lst xs) = (bools xs).map fun bs => .dat (.bl (bs.all id)) := nr rfl
@[simp] theorem any_lst : b1D .any (.lst xs) = (bools xs).map fun bs => .dat (.bl (bs.any id)) := nr rfl
@[simp] theorem sum_lst : b1D .sum (.lst xs) = (intsOf xs).map fun is => .dat (.int is.sum) := nr rfl
@[simp] theorem list_tup : b1D .list (.tup xs) = some (.own xs) := nr rfl
@[simp] theorem list_lst : b1D .list (.lst xs) = some (.own xs) := nr rfl
@[simp] theorem tuple_lst : b1D .tuple (.lst xs) = some (.dat (.tup xs)) := nr rfl
@[simp] theorem tuple_tup : b1D .tuple (.tup xs) = some (.dat (.tup xs)) := nr rfl
@[simp] theorem int_int : b1D .int (.int i) = some (.dat (.int i)) := nr rfl
@[simp] theorem int_bl : b1D .int (.bl b) = some (.dat (.int (if b then 1 else 0))) := nr rfl
@[simp] theorem abs_int : b1D .abs (.int i) = some (.dat (.int (if i < 0 then -i else i))) := nr rfl
theorem repr_d : b1D .repr d = if okR 60 d && showD 60 d && decide (wt 60 d ≤ sizeLine) then some (.dat (.str (shown d))) else none := by cases d <;> rfl
@[simp] theorem b2_min : b2D .min (.int i) (.int j) = some (.dat (.int (if j < i then j else i))) := nr rfl
@[simp] theorem b2_max : b2D .max (.int i) (.int j) = some (.dat (.int (if j > i then j else i))) := nr rfl
@[simp] theorem aug_add : augD .add (.int i) (.int j) = some (.int (i + j)) := nr rfl
end
@[simp] theorem strOk_of (s : String) : PyData.strOk (Str.ofString s) = true := by
  rw [Str.ofString_eq_toList]
  simp only [PyData.strOk, List.all_toArray, List.all_map, List.all_eq_true]
  intro c _
  simp only [Function.comp, decide_eq_true_eq]
  have h := c.valid
  unfold UInt32.isValidChar Nat.isValidChar at h
  have : c.toNat = c.val.toNat := rfl
  omega
@[simp] theorem ofString_eq (s t : String) : (Str.ofString s = Str.ofString t) = (s = t) := by
  rw [eq_iff_iff]
  constructor
  · intro h
    rw [Str.ofString_eq_toList, Str.ofString_eq_toList] at h
    have h1 := congrArg (fun x : Str => x.cps.toList) h
    simp only at h1
    have h2 : s.toList = t.toList := by
      refine List.map_inj_right (fun x y e => ?_) |>.mp h1
      exact Char.ext (UInt32.toNat_inj.mp e)
    exact String.ext h2
  · rintro rfl; rfl
@[simp] theorem c_eqS (x y : Str) : cmpD .eq (.str x) (.str y) = some (decide (x = y)) := nr rfl
@[simp] theorem c_neS (x y : Str) : cmpD .ne (.str x) (.str y) = some (!decide (x = y)) := nr rfl
theorem sizeLine_big : 100000 ≤ sizeLine := by decide
@[simp] theorem le_size {n : Nat} (h : n ≤ 100000) : n ≤ sizeLine := Nat.le_trans h sizeLine_big
theorem divOk_of {j : Int} (h : 0 < j) (h2 : j < 2 ^ 250) : divOk j = true := by
  have h3 : (2 : Nat) ^ 250 ≤ 2 ^ 9000 := Nat.pow_le_pow_right (by decide) (by decide)
  have h4 : j.natAbs < 2 ^ 9000 := Nat.lt_of_lt_of_le (by omega) h3
  unfold divOk
  rw [decide_eq_true h, decide_eq_true h4]; rfl
theorem mulOk_l {i j : Int} (h : i.natAbs < 2 ^ 63) : mulOk i j = true := by
  unfold mulOk
  rw [decide_eq_true h]; rfl
theorem mulOk_r {i j : Int} (h : j.natAbs < 2 ^ 63) : mulOk i j = true := by
  unfold mulOk
  rw [decide_eq_true h, Bool.or_true]; rfl
@[simp] theorem at0 (a : D) (xs : List D) : atD (a :: xs) 0 = some a := by simp [atD, ixD]
@[simp] theorem at1 (a b : D) (xs : List D) : atD (a :: b :: xs) 1 = some b := by
  have h : (1 : Int) < ((a :: b :: xs).length : Nat) := by simp only [List.length_cons]; omega
  simp only [atD, ixD, if_pos h]; rfl
@[simp] theorem at2 (a b c : D) (xs : List D) : atD (a :: b :: c :: xs) 2 = some c := by
  have h : (2 : Int) < ((a :: b :: c :: xs).length : Nat) := by simp only [List.length_cons]; omega
  simp only [atD, ixD, if_pos h]; rfl
@[simp] theorem at3 (a b c d : D) (xs : List D) : atD (a :: b :: c :: d :: xs) 3 = some d := by
  have h : (3 : Int) < ((a :: b :: c :: d :: xs).length : Nat) := by simp only [List.length_cons]; omega
  simp only [atD, ixD, if_pos h]; rfl
@[simp] theorem at4 (a b c d e : D) (xs : List D) : atD (a :: b :: c :: d :: e :: xs) 4 = some e := by
  have h : (4 : Int) < ((a :: b :: c :: d :: e :: xs).length : Nat) := by simp only [List.length_cons]; omega
  simp only [atD, ixD, if_pos h]; rfl
/-- a list's number at a place -/
def gAt (l : List Int) (i : Nat) : Int := l.getD i 0
theorem gAt_ok {l : List Int} {i : Nat} (h : i < l.length) : l[i]? = some (gAt l i) := by
  rw [gAt, List.getD, List.getElem?_eq_getElem h]; rfl
theorem ixD_ok {m : Nat} {g : Int} (h0 : 0 < g) (h1 : g ≤ m) : ixD m (g - 1) = some (g.toNat - 1) := by
  unfold ixD
  rw [if_pos (by omega), if_pos (by omega)]
  congr 1; omega
theorem ixD_nat {m i : Nat} (h : i < m) : ixD m (i : Int) = some i := by
  unfold ixD
  rw [if_pos (by omega), if_pos (by omega)]
  congr 1
theorem rep_one (m : Nat) (d : D) : rep (m : Int) [d] = List.replicate m d := by
  unfold rep
  rw [Int.toNat_natCast]
  induction m with
  | zero => rfl
  | succ m ih => rw [List.replicate_succ, List.flatten_cons, ih]; rfl
theorem bin_rep {m : Nat} {d : D} (h : m ≤ 100000) : binD .mul (.lst [d]) (.int m) = some (.own (List.replicate m d)) := by
  have h1 : (-(2 ^ 63) : Int) ≤ (m : Int) := by omega
  have h2 : (m : Int) < 2 ^ 63 := by omega
  have h3 : [d].length * (m : Int).toNat ≤ sizeLine := le_size (by simpa using h)
  rw [bin_mulL, decide_eq_true h1, decide_eq_true h2, decide_eq_true h3, rep_one]
  rfl
theorem bin_repT {xs : List D} {m : Nat} (h : m ≤ 1000) (h2 : xs.length ≤ 1000) : binD .mul (.tup xs) (.int m) = some (.dat (.tup (List.replicate m xs).flatten)) := by
  have h1 : (-1000 : Int) ≤ (m : Int) := by omega
  have h3 : (m : Int) ≤ 1000 := by omega
  rw [bin_mulT, decide_eq_true h1, decide_eq_true h2, decide_eq_true h3]
  simp [rep]
/-- loops -/
theorem forL_ind {body : D → Fr → Sto → Out} (P : List D → Fr → Sto → Prop) (h : ∀ x xs env st, P (x :: xs) env st → ∃ env' st', body x env st = .nx env' st' ∧ P xs env' st') :
    ∀ xs env st, P xs env st → ∃ env' st', forL body xs env st = .nx env' st' ∧ P [] env' st'
  | [], env, st, p => ⟨env, st, rfl, p⟩
  | x :: xs, env, st, p => by
    obtain ⟨env', st', e, p'⟩ := h x xs env st p
    obtain ⟨env2, st2, e2, p2⟩ := forL_ind P h xs env' st' p'
    exact ⟨env2, st2, by rw [forL, e]; exact e2, p2⟩
theorem forL_nil {body : D → Fr → Sto → Out} {env : Fr} {st : Sto} : forL body [] env st = .nx env st := rfl
theorem forL_cons {body : D → Fr → Sto → Out} {x : D} {xs : List D} {env : Fr} {st : Sto} : forL body (x :: xs) env st = (body x env st).andThen fun env' s1 => forL body xs env' s1 := rfl
/-- a loop that changes no object -/
theorem forL_st {α σ : Type} (φ : α → D) {body : D → Fr → Sto → Out} (I : σ → Fr → Prop) (step : σ → α → σ) {st : Sto} :
    ∀ (ys : List α), (∀ y ∈ ys, ∀ s env, I s env → ∃ env', body (φ y) env st = .nx env' st ∧ I (step s y) env') →
      ∀ s env, I s env → ∃ env', forL body (ys.map φ) env st = .nx env' st ∧ I (ys.foldl step s) env'
  | [], _, s, env, p => ⟨env, rfl, p⟩
  | y :: ys, h, s, env, p => by
    obtain ⟨env', e, p'⟩ := h y (by simp) s env p
    obtain ⟨env2, e2, p2⟩ := forL_st φ I step ys (fun z hz => h z (by simp [hz])) _ env' p'
    exact ⟨env2, by rw [List.map_cons, forL_cons, e]; exact e2, p2⟩
theorem compL_map {α : Type} (φ : α → D) {f : D → Sto → R (Option D)} (h : α → Option D) {st : Sto} : ∀ (ys : List α), (∀ y ∈ ys, f (φ y) st = .ok (h y) st) → compL f (ys.map φ) st = .ok (ys.filterMap h) st
  | [], _ => rfl
  | y :: ys, q => by
    rw [List.map_cons, compL, q y (by simp)]
    simp only
    rw [compL_map φ h ys fun z hz => q z (by simp [hz])]
    simp only [List.filterMap_cons]
    cases h y <;> rfl
theorem compL_mapT {α : Type} (φ : α → D) {f : D → Sto → R (Option D)} (h : α → D) {st : Sto} (ys : List α) (q : ∀ y ∈ ys, f (φ y) st = .ok (some (h y)) st) : compL f (ys.map φ) st = .ok (ys.map h) st := by
  rw [compL_map φ (fun y => some (h y)) ys q, List.filterMap_eq_map']
theorem enumF_map {α : Type} (φ : α → D) (ys : List α) : enumF (ys.map φ) = ys.zipIdx.map fun p => .tup [.int (p.2 : Nat), φ p.1] := by
  unfold enumF
  rw [List.zipIdx_map, List.map_map]
  rfl
theorem zipF_map {α β : Type} (φ : α → D) (ψ : β → D) (ys : List α) (zs : List β) : zipF (ys.map φ) (zs.map ψ) = (ys.zip zs).map fun p => .tup [φ p.1, ψ p.2] := by
  unfold zipF
  rw [List.zip_map, List.map_map]
  rfl
theorem rngOk_nat {n : Nat} (h : n ≤ 100000) : rngOk 0 (n : Int) = true := by
  unfold rngOk
  simp only [Bool.and_eq_true, decide_eq_true_eq]
  refine ⟨⟨⟨⟨by decide, by decide⟩, by omega⟩, by omega⟩, ?_⟩
  have : (2 : Nat) ^ 24 = 16777216 := by decide
  omega
theorem rng_zero (n : Nat) : rng 0 n = (List.range n).map fun i => .int (i : Nat) := by
  unfold rng
  simp

/-! ### what holds behind a run -/
abbrev XQ := Nat → D → Sto → Prop
def noX : XQ := fun _ _ _ => False
@[irreducible] def R.Sat {α : Type} (r : R α) (Q : α → Sto → Prop) (E : XQ) : Prop := match r with
  | .ok a st => Q a st
  | .exc c p st => E c p st
  | .bad => False
@[irreducible] def Out.Sat (o : Out) (N : Fr → Sto → Prop) (Q : W → Sto → Prop) (E : XQ) : Prop := match o with
  | .nx env st => N env st
  | .rt w st => Q w st
  | .exc c p _ st => E c p st
  | .bad => False
section
variable {α β : Type} {Q Q' : α → Sto → Prop} {E E' : XQ} {N N' : Fr → Sto → Prop} {V V' : W → Sto → Prop}
@[simp] theorem sat_ok (a : α) (st : Sto) : (R.ok a st).Sat Q E = Q a st := by unfold R.Sat; rfl
@[simp] theorem sat_exc (c : Nat) (p : D) (st : Sto) : (R.exc c p st : R α).Sat Q E = E c p st := by unfold R.Sat; rfl
@[simp] theorem sat_bad : (R.bad : R α).Sat Q E = False := by unfold R.Sat; rfl
@[simp] theorem sat_nx (env : Fr) (st : Sto) : (Out.nx env st).Sat N V E = N env st := by unfold Out.Sat; rfl
@[simp] theorem sat_rt (w : W) (st : Sto) : (Out.rt w st).Sat N V E = V w st := by unfold Out.Sat; rfl
@[simp] theorem sat_xc (c : Nat) (p : D) (env : Fr) (st : Sto) : (Out.exc c p env st).Sat N V E = E c p st := by unfold Out.Sat; rfl
@[simp] theorem sat_bd : (Out.bad).Sat N V E = False := by unfold Out.Sat; rfl
@[simp] theorem sat_bind (r : R β) (f : β → Sto → R α) : (r.bind f).Sat Q E = r.Sat (fun a s => (f a s).Sat Q E) E := by cases r <;> simp [R.bind]
@[simp] theorem sat_done (o : Out) : (done o).Sat V E = o.Sat (fun _ st => V (.dat .non) st) V E := by cases o <;> simp [done]
@[simp] theorem sat_then (o : Out) (f : Fr → Sto → Out) : (o.andThen f).Sat N V E = o.Sat (fun env s => (f env s).Sat N V E) V E := by cases o <;> simp [Out.andThen]
@[simp] theorem sat_out (r : R β) (env : Fr) (f : β → Sto → Out) : (r.out env f).Sat N V E = r.Sat (fun a s => (f a s).Sat N V E) E := by cases r <;> simp [R.out]
theorem R.Sat.mono {r : R α} (h : r.Sat Q E) (hq : ∀ a st, Q a st → Q' a st) (he : ∀ c p st, E c p st → E' c p st) : r.Sat Q' E' := by
  cases r with
  | ok a st => rw [sat_ok] at *; exact hq a st h
  | exc c p st => rw [sat_exc] at *; exact he c p st h
  | bad => rw [sat_bad] at *; exact h
/-- with the same errors -/
theorem R.Sat.imp {r : R α} (h : r.Sat Q E) (hq : ∀ a st, Q a st → Q' a st) : r.Sat Q' E := h.mono hq fun _ _ _ z => z
/-- without errors -/
theorem R.Sat.use {r : R α} (h : r.Sat Q noX) (hq : ∀ a st, Q a st → Q' a st) : r.Sat Q' E := h.mono hq fun _ _ _ z => z.elim
theorem Out.Sat.mono {o : Out} (h : o.Sat N V E) (hn : ∀ env st, N env st → N' env st) (hv : ∀ w st, V w st → V' w st) (he : ∀ c p st, E c p st → E' c p st) : o.Sat N' V' E' := by
  cases o with
  | nx env st => rw [sat_nx] at *; exact hn env st h
  | rt w st => rw [sat_rt] at *; exact hv w st h
  | exc c p env st => rw [sat_xc] at *; exact he c p st h
  | bad => rw [sat_bd] at *; exact h
theorem eq_of_sat {r : R α} {a : α} {st : Sto} (h : r.Sat (fun x s => x = a ∧ s = st) noX) : r = .ok a st := by
  cases r with
  | ok x s => rw [sat_ok] at h; obtain ⟨rfl, rfl⟩ := h; rfl
  | exc c p s => rw [sat_exc] at h; exact h.elim
  | bad => rw [sat_bad] at h; exact h.elim
/-- a loop over typed items -/
theorem for_sat {φ : α → D} {body : D → Fr → Sto → Out} {xs : List D} (ys : List α) (hxs : xs = ys.map φ) (P : List α → Fr → Sto → Prop) {env : Fr} {st : Sto} (h0 : P ys env st)
    (hs : ∀ y ys env st, P (y :: ys) env st → (body (φ y) env st).Sat (fun env' st' => P ys env' st') V E) (hend : ∀ env st, P [] env st → N env st) : (forL body xs env st).Sat N V E := by
  subst hxs
  induction ys generalizing env st with
  | nil =>
    show (Out.nx env st).Sat N V E
    rw [sat_nx]; exact hend _ _ h0
  | cons y ys ih =>
    rw [List.map_cons, forL_cons, sat_then]
    exact (hs y ys env st h0).mono (fun env' st' h => ih h) (fun _ _ h => h) fun _ _ _ h => h
/-- a list made item by item -/
theorem comp_sat {φ : α → D} {f : D → Sto → R (Option D)} {xs : List D} (ys : List α) (hxs : xs = ys.map φ) (P : List D → List α → Sto → Prop) {st : Sto} (h0 : P [] ys st)
    (hs : ∀ zs y ys st, P zs (y :: ys) st → (f (φ y) st).Sat (fun o st' => P (zs ++ o.toList) ys st') noX) {Q : List D → Sto → Prop} (hend : ∀ zs st, P zs [] st → Q zs st) : (compL f xs st).Sat Q E := by
  subst hxs
  have main : ∀ (ys : List α) (zs : List D) (st : Sto), P zs ys st → (compL f (ys.map φ) st).Sat (fun r s => P (zs ++ r) [] s) noX := by
    intro ys
    induction ys with
    | nil => intro zs st h; simpa [compL] using h
    | cons y ys ih =>
      intro zs st h
      have h1 := hs zs y ys st h
      rw [List.map_cons, compL]
      cases q : f (φ y) st with
      | ok o s1 =>
        rw [q, sat_ok] at h1
        have h2 := ih _ _ h1
        simp only
        cases q2 : compL f (ys.map φ) s1 with
        | ok r s2 =>
          rw [q2] at h2
          simp only [sat_ok] at h2 ⊢
          cases o <;> simpa using h2
        | exc c p s => rw [q2, sat_exc] at h2; exact h2.elim
        | bad => rw [q2, sat_bad] at h2; exact h2.elim
      | exc c p s => rw [q, sat_exc] at h1; exact h1.elim
      | bad => rw [q, sat_bad] at h1; exact h1.elim
  exact (main ys [] st h0).use fun r s h => hend r s (by simpa using h)
theorem sat_eq {r : R α} {a : α} {st : Sto} (h : r = .ok a st) (q : Q a st) : r.Sat Q E := by rw [h, sat_ok]; exact q
/-- what is wanted at the end, not to be looked into -/
theorem sat_abs {r : R α} (h : ∀ Q' : α → Sto → Prop, (∀ a s, Q a s → Q' a s) → r.Sat Q' E) : r.Sat Q E := h Q fun _ _ z => z
theorem for_inv {φ : α → D} {body : D → Fr → Sto → Out} {xs : List D} (ys : List α) (hxs : xs = ys.map φ) (P : List α → Fr → Sto → Prop) {env : Fr} {st : Sto} (h0 : P ys env st)
    (hs : ∀ P' : List α → Fr → Sto → Prop, (∀ ys env st, P ys env st → P' ys env st) → ∀ y ys env st, P (y :: ys) env st → (body (φ y) env st).Sat (fun env' st' => P' ys env' st') V E) (hend : ∀ env st, P [] env st → N env st) : (forL body xs env st).Sat N V E :=
  for_sat ys hxs P h0 (hs P fun _ _ _ z => z) hend
theorem comp_inv {φ : α → D} {f : D → Sto → R (Option D)} {xs : List D} (ys : List α) (hxs : xs = ys.map φ) (P : List D → List α → Sto → Prop) {st : Sto} (h0 : P [] ys st)
    (hs : ∀ P' : List D → List α → Sto → Prop, (∀ zs ys st, P zs ys st → P' zs ys st) → ∀ zs y ys st, P zs (y :: ys) st → (f (φ y) st).Sat (fun o st' => P' (zs ++ o.toList) ys st') noX) {Q : List D → Sto → Prop} (hend : ∀ zs st, P zs [] st → Q zs st) : (compL f xs st).Sat Q E :=
  comp_sat ys hxs P h0 (hs P fun _ _ _ z => z) hend
end
end MP

set_option maxRecDepth 100000
namespace MP
open PySem
/-- is_whole thing least most -/
def F0 : Fn := ⟨3, 3, (.cons (.ife (.or (.not (.isi (.var 0) .int)) (.isi (.var 0) .bool)) (.cons (.ret (.con (.bl false))) .nil) .nil) (.cons (.ret (.and (.or (.cmp .is (.var 1) (.con .non)) (.cmp .ge (.var 0) (.var 1))) (.or (.cmp .is (.var 2) (.con .non)) (.cmp .le (.var 0) (.var 2))))) .nil))⟩
/-- need_many many -/
def F1 : Fn := ⟨1, 1, (.cons (.ife (.not (.call 0 "is_whole" (.cons (.var 0) (.cons (.glo "FEWEST" (.int 2)) (.cons (.glo "MOST" (.int 4)) .nil))))) (.cons (.rais 4 "BadNumber" (.var 0)) .nil) .nil) (.cons (.ret (.var 0)) .nil))⟩
/-- need_partner many partner -/
def F2 : Fn := ⟨2, 2, (.cons (.ife (.not (.call 0 "is_whole" (.cons (.var 1) (.cons (.con (.int 0)) (.cons (.bin .sub (.var 0) (.con (.int 1))) .nil))))) (.cons (.rais 10 "Missing" (.var 1)) .nil) .nil) (.cons (.ret (.var 1)) .nil))⟩
/-- groups_of many -/
def F3 : Fn := ⟨1, 1, (.cons (.ret (.idx (.tup (.cons (.con (.int 1)) (.cons (.con (.int 2)) (.cons (.con (.int 4)) (.cons (.con (.int 8)) (.cons (.con (.int 16)) .nil)))))) (.var 0))) .nil)⟩
/-- all_of many -/
def F4 : Fn := ⟨1, 1, (.cons (.ret (.bin .sub (.call 3 "groups_of" (.cons (.var 0) .nil)) (.con (.int 1)))) .nil)⟩
/-- bit_of partner -/
def F5 : Fn := ⟨1, 1, (.cons (.ret (.idx (.tup (.cons (.con (.int 1)) (.cons (.con (.int 2)) (.cons (.con (.int 4)) (.cons (.con (.int 8)) .nil))))) (.var 0))) .nil)⟩
/-- is_in partner group -/
def F6 : Fn := ⟨2, 2, (.cons (.ret (.cmp .eq (.bin .mod (.b1 .int (.bin .fdiv (.var 1) (.call 5 "bit_of" (.cons (.var 0) .nil)))) (.con (.int 2))) (.con (.int 1)))) .nil)⟩
/-- sum_of form place factor -/
def F7 : Fn := ⟨1, 3, (.cons (.ret (.b1 .tuple (.comp (.tup (.cons (.bin .add (.var 1) (.con (.int 1))) (.cons (.var 2) .nil))) (.tp (.cons (.nm 1) (.cons (.nm 2) .nil))) [1, 2] (.enum (.var 0)) (.one (.cmp .ne (.var 2) (.con (.int 0))))))) .nil)⟩
/-- is_item many thing -/
def F8 : Fn := ⟨2, 2, (.cons (.ife (.or (.not (.isi (.var 1) .tuple)) (.or (.cmp .ne (.b1 .len (.var 1)) (.con (.int 2))) (.not (.isi (.idx (.var 1) (.con (.int 0))) .str)))) (.cons (.ret (.con (.bl false))) .nil) .nil) (.cons (.ret (.and (.cmp .inn (.idx (.var 1) (.con (.int 0))) (.tup (.cons (.glo "JOIN" (.str "join")) (.cons (.glo "LEAVE" (.str "leave")) .nil)))) (.call 0 "is_whole" (.cons (.idx (.var 1) (.con (.int 1))) (.cons (.con (.int 0)) (.cons (.bin .sub (.var 0) (.con (.int 1))) .nil)))))) .nil))⟩
/-- fault_of many thing group place item -/
def F9 : Fn := ⟨2, 5, (.cons (.ife (.or (.not (.isi (.var 1) .tuple)) (.cmp .gt (.b1 .len (.var 1)) (.glo "MOST_ITEMS" (.int 40)))) (.cons (.ret (.lst (.cons (.tup .nil) .nil))) .nil) .nil) (.cons (.asg (.nm 2) (.con (.int 0))) (.cons (.for_ (.tp (.cons (.nm 3) (.cons (.nm 4) .nil))) (.enum (.var 1)) (.cons (.ife (.or (.not (.call 8 "is_item" (.cons (.var 0) (.cons (.var 4) .nil)))) (.cmp .ne (.call 6 "is_in" (.cons (.idx (.var 4) (.con (.int 1))) (.cons (.var 2) .nil))) (.cmp .eq (.idx (.var 4) (.con (.int 0))) (.glo "LEAVE" (.str "leave"))))) (.cons (.ret (.lst (.cons (.tup (.cons (.var 3) .nil)) .nil))) .nil) .nil) (.cons (.asg (.nm 2) (.call 10 "behind" (.cons (.var 2) (.cons (.var 4) .nil)))) .nil))) (.cons (.ret (.lst .nil)) .nil))))⟩
/-- behind group item -/
def F10 : Fn := ⟨2, 2, (.cons (.ret (.ite (.cmp .eq (.idx (.var 1) (.con (.int 0))) (.glo "JOIN" (.str "join"))) (.bin .add (.var 0) (.call 5 "bit_of" (.cons (.idx (.var 1) (.con (.int 1))) .nil))) (.bin .sub (.var 0) (.call 5 "bit_of" (.cons (.idx (.var 1) (.con (.int 1))) .nil))))) .nil)⟩
/-- is_script many thing -/
def F11 : Fn := ⟨2, 2, (.cons (.ret (.cmp .eq (.call 9 "fault_of" (.cons (.call 1 "need_many" (.cons (.var 0) .nil)) (.cons (.var 1) .nil))) (.lst .nil))) .nil)⟩
/-- need_script many thing place -/
def F12 : Fn := ⟨2, 3, (.cons (.for_ (.nm 2) (.seq (.call 9 "fault_of" (.cons (.var 0) (.cons (.var 1) .nil)))) (.cons (.rais 6 "BadScript" (.var 2)) .nil)) (.cons (.ret (.var 1)) .nil))⟩
/-- pay_in many script partner item form group later part more -/
def F13 : Fn := ⟨3, 9, (.cons (.par [(true, 4), (false, 5)] (.cons (.bin .mul (.lst (.cons (.con (.int 0)) .nil)) (.call 4 "all_of" (.cons (.var 0) .nil))) (.cons (.con (.int 0)) .nil))) (.cons (.for_ (.nm 3) (.seq (.var 1)) (.cons (.asg (.nm 6) (.call 10 "behind" (.cons (.var 5) (.cons (.var 3) .nil)))) (.cons (.ife (.cmp .eq (.idx (.var 3) (.con (.int 1))) (.var 2)) (.cons (.for_ (.tp (.cons (.nm 7) (.cons (.nm 8) .nil))) (.seq (.tup (.cons (.tup (.cons (.var 6) (.cons (.con (.int 1)) .nil))) (.cons (.tup (.cons (.var 5) (.cons (.neg (.con (.int 1))) .nil))) .nil)))) (.cons (.ife (.cmp .gt (.var 7) (.con (.int 0))) (.cons (.augm 4 .add (.bin .sub (.var 7) (.con (.int 1))) (.var 8)) .nil) .nil) .nil)) .nil) .nil) (.cons (.asg (.nm 5) (.var 6)) .nil)))) (.frz 4 (.cons (.ret (.call 7 "sum_of" (.cons (.var 4) .nil))) .nil))))⟩
/-- pay many script partner -/
def F14 : Fn := ⟨3, 3, (.cons (.exp (.call 1 "need_many" (.cons (.var 0) .nil))) (.cons (.exp (.call 12 "need_script" (.cons (.var 0) (.cons (.var 1) .nil)))) (.cons (.ret (.call 13 "pay_in" (.cons (.var 0) (.cons (.var 1) (.cons (.call 2 "need_partner" (.cons (.var 0) (.cons (.var 2) .nil))) .nil))))) .nil)))⟩
/-- there many script group item partner -/
def F15 : Fn := ⟨2, 5, (.cons (.exp (.call 1 "need_many" (.cons (.var 0) .nil))) (.cons (.asg (.nm 2) (.con (.int 0))) (.cons (.for_ (.nm 3) (.seq (.call 12 "need_script" (.cons (.var 0) (.cons (.var 1) .nil)))) (.cons (.asg (.nm 2) (.call 10 "behind" (.cons (.var 2) (.cons (.var 3) .nil)))) .nil)) (.cons (.ret (.b1 .tuple (.comp (.var 4) (.nm 4) [4] (.rng1 (.var 0)) (.one (.call 6 "is_in" (.cons (.var 4) (.cons (.var 2) .nil))))))) .nil))))⟩
/-- _law_begun _law_script _law_mixed _law_k _law_cell -/
def F16 : Fn := ⟨1, 4, (.cons (.asg (.nm 1) (.bin .add (.con (.int 32452843)) (.bin .mul (.con (.int 41)) (.b1 .len (.var 0))))) (.cons (.for_ (.tp (.cons (.nm 2) (.cons (.nm 3) .nil))) (.enum (.var 0)) (.cons (.asg (.nm 1) (.bin .mod (.b1 .int (.bin .add (.bin .add (.bin .mul (.var 1) (.con (.int 998244353))) (.var 3)) (.bin .mul (.con (.int 104723)) (.var 2)))) (.con (.int 2305843009213693951)))) .nil)) (.cons (.mk (.var 1) (.comp (.var 3) (.nm 3) [3] (.seq (.var 0)) (.one (.cmp .ge (.var 3) (.bin .pow (.con (.int 10)) (.con (.int 18)))))) (.con (.int 0))) .nil)))⟩
/-- _law_next _law_draw _law_below _law_at _law_mixed _law_great _law_found -/
def F17 : Fn := ⟨2, 6, (.cons (.ppar (.var 0) "turn" 4 (.bin .add (.get (.var 0) "turn") (.con (.int 1))) (.get (.var 0) "great")) (.cons (.asg (.nm 2) (.bin .mod (.b1 .int (.get (.var 0) "turn")) (.b2 .max (.con (.int 1)) (.obl (.var 4))))) (.cons (.ife (.and (.obe (.var 4)) (.cmp .gt (.obi (.var 4) (.var 2)) (.con (.int 0)))) (.cons (.asg (.nm 5) (.bin .mod (.b1 .int (.obi (.var 4) (.var 2))) (.var 1))) (.cons (.obs (.var 4) (.var 2) (.bin .fdiv (.obi (.var 4) (.var 2)) (.var 1))) (.cons (.ret (.var 5)) .nil))) .nil) (.cons (.asg (.nm 3) (.b1 .int (.bin .add (.bin .add (.bin .mul (.get (.var 0) "mixed") (.con (.int 6364136223846793))) (.bin .mul (.con (.int 1442695040888963)) (.get (.var 0) "turn"))) (.con (.int 11))))) (.cons (.put (.var 0) "mixed" (.bin .mod (.b1 .int (.var 3)) (.con (.int 2305843009213693951)))) (.cons (.ret (.bin .mod (.b1 .int (.bin .fdiv (.get (.var 0) "mixed") (.con (.int 32749)))) (.var 1))) .nil))))))⟩
/-- _law_size _law_many -/
def F18 : Fn := ⟨1, 1, (.cons (.ret (.idx (.lst (.cons (.con (.int 1)) (.cons (.con (.int 2)) (.cons (.con (.int 4)) (.cons (.con (.int 8)) (.cons (.con (.int 16)) .nil)))))) (.var 0))) .nil)⟩
/-- _law_bit _law_partner -/
def F19 : Fn := ⟨1, 1, (.cons (.ret (.idx (.lst (.cons (.con (.int 1)) (.cons (.con (.int 2)) (.cons (.con (.int 4)) (.cons (.con (.int 8)) .nil))))) (.var 0))) .nil)⟩
/-- _law_is_in _law_partner _law_group -/
def F20 : Fn := ⟨2, 2, (.cons (.ret (.cmp .eq (.bin .mod (.b1 .int (.bin .fdiv (.var 1) (.call 19 "_law_bit" (.cons (.var 0) .nil)))) (.con (.int 2))) (.con (.int 1)))) .nil)⟩
/-- _law_form _law_many _law_some _law_found _law_group _law_factor -/
def F21 : Fn := ⟨2, 5, (.cons (.own 2 (.bin .mul (.lst (.cons (.con (.int 0)) .nil)) (.bin .sub (.call 18 "_law_size" (.cons (.var 0) .nil)) (.con (.int 1))))) (.cons (.for_ (.tp (.cons (.nm 3) (.cons (.nm 4) .nil))) (.seq (.var 1)) (.cons (.setm 2 (.bin .sub (.var 3) (.con (.int 1))) (.bin .add (.idxM 2 (.bin .sub (.var 3) (.con (.int 1)))) (.var 4))) .nil)) (.frz 2 (.cons (.ret (.var 2)) .nil))))⟩
/-- _law_pays _law_many _law_row_here _law_forms _law_group _law_word _law_one _law_later _law_mine _law_part _law_by _law_partner -/
def F22 : Fn := ⟨2, 11, (.cons (.par [(false, 2), (false, 3)] (.cons (.comp (.new (.bin .mul (.lst (.cons (.con (.int 0)) .nil)) (.bin .sub (.call 18 "_law_size" (.cons (.var 0) .nil)) (.con (.int 1))))) (.nm 10) [10] (.rng1 (.var 0)) .yes) (.cons (.con (.int 0)) .nil))) (.cons (.for_ (.tp (.cons (.nm 4) (.cons (.nm 5) .nil))) (.seq (.var 1)) (.cons (.asg (.nm 6) (.ite (.cmp .eq (.var 4) (.con (.str "join"))) (.bin .add (.var 3) (.call 19 "_law_bit" (.cons (.var 5) .nil))) (.bin .sub (.var 3) (.call 19 "_law_bit" (.cons (.var 5) .nil))))) (.cons (.asg (.nm 7) (.idx (.var 2) (.var 5))) (.cons (.for_ (.tp (.cons (.nm 8) (.cons (.nm 9) .nil))) (.seq (.tup (.cons (.tup (.cons (.var 6) (.cons (.con (.int 1)) .nil))) (.cons (.tup (.cons (.var 3) (.cons (.neg (.con (.int 1))) .nil))) .nil)))) (.cons (.ife (.cmp .gt (.var 8) (.con (.int 0))) (.cons (.obs (.var 7) (.bin .sub (.var 8) (.con (.int 1))) (.bin .add (.obi (.var 7) (.bin .sub (.var 8) (.con (.int 1)))) (.var 9))) .nil) .nil) .nil)) (.cons (.asg (.nm 3) (.var 6)) .nil))))) (.melt 2 (.cons (.ret (.tup (.cons (.var 2) (.cons (.var 3) .nil)))) .nil))))⟩
/-- _law_sum_of _law_form_here _law_k _law_one -/
def F23 : Fn := ⟨1, 3, (.cons (.ret (.b1 .tuple (.comp (.tup (.cons (.bin .add (.var 1) (.con (.int 1))) (.cons (.var 2) .nil))) (.tp (.cons (.nm 1) (.cons (.nm 2) .nil))) [1, 2] (.enum (.var 0)) (.one (.cmp .ne (.var 2) (.con (.int 0))))))) .nil)⟩
/-- _law_row _law_draw _law_many _law_most _law_turn _law_group _law_found _law_one _law_is_in_it -/
def F24 : Fn := ⟨3, 8, (.cons (.asg (.tp (.cons (.nm 4) (.cons (.nm 5) .nil))) (.tup (.cons (.con (.int 0)) (.cons (.tup .nil) .nil)))) (.cons (.for_ (.nm 3) (.rng1 (.call 17 "_law_next" (.cons (.var 0) (.cons (.bin .add (.var 2) (.con (.int 1))) .nil)))) (.cons (.asg (.nm 6) (.call 17 "_law_next" (.cons (.var 0) (.cons (.var 1) .nil)))) (.cons (.asg (.nm 7) (.call 20 "_law_is_in" (.cons (.var 6) (.cons (.var 4) .nil)))) (.cons (.asg (.nm 5) (.bin .add (.var 5) (.tup (.cons (.tup (.cons (.idx (.lst (.cons (.con (.str "join")) (.cons (.con (.str "leave")) .nil))) (.b1 .int (.var 7))) (.cons (.var 6) .nil))) .nil)))) (.cons (.asg (.nm 4) (.ite (.var 7) (.bin .sub (.var 4) (.call 19 "_law_bit" (.cons (.var 6) .nil))) (.bin .add (.var 4) (.call 19 "_law_bit" (.cons (.var 6) .nil))))) .nil))))) (.cons (.ret (.var 5)) .nil)))⟩
/-- _law_right _law_many _law_row_here _law_got _law_both _law_some _law_due _law_forms _law_group _law_partner _law_form_here _law_one _law_more -/
def F25 : Fn := ⟨2, 12, (.cons (.asg (.tp (.cons (.nm 6) (.cons (.nm 7) .nil))) (.call 22 "_law_pays" (.cons (.var 0) (.cons (.var 1) .nil)))) (.cons (.asg (.nm 2) (.comp (.call 14 "pay" (.cons (.var 0) (.cons (.var 1) (.cons (.var 8) .nil)))) (.nm 8) [8] (.rng1 (.var 0)) .yes)) (.cons (.ife (.cmp .ne (.b1 .repr (.var 2)) (.b1 .repr (.comp (.call 23 "_law_sum_of" (.cons (.var 9) .nil)) (.nm 9) [9] (.seq (.var 6)) .yes))) (.cons (.ret (.con (.bl false))) .nil) .nil) (.cons (.ife (.cmp .ne (.b1 .repr (.comp (.call 14 "pay" (.cons (.var 0) (.cons (.var 1) (.cons (.var 8) .nil)))) (.nm 8) [8] (.rng1 (.var 0)) .yes)) (.b1 .repr (.var 2))) (.cons (.ret (.con (.bl false))) .nil) .nil) (.cons (.asg (.nm 3) (.bin .mul (.lst (.cons (.con (.int 0)) .nil)) (.bin .sub (.call 18 "_law_size" (.cons (.var 0) .nil)) (.con (.int 1))))) (.cons (.for_ (.nm 4) (.seq (.var 2)) (.cons (.asg (.nm 3) (.comp (.bin .add (.var 10) (.var 11)) (.tp (.cons (.nm 10) (.cons (.nm 11) .nil))) [10, 11] (.zip (.var 3) (.call 21 "_law_form" (.cons (.var 0) (.cons (.var 4) .nil)))) .yes)) .nil)) (.cons (.ife (.cmp .ne (.call 23 "_law_sum_of" (.cons (.var 3) .nil)) (.bin .mul (.tup (.cons (.tup (.cons (.var 7) (.cons (.con (.int 1)) .nil))) .nil)) (.b1 .int (.cmp .gt (.var 7) (.con (.int 0)))))) (.cons (.ret (.con (.bl false))) .nil) .nil) (.cons (.asg (.nm 5) (.b1 .tuple (.comp (.var 8) (.nm 8) [8] (.rng1 (.var 0)) (.one (.call 20 "_law_is_in" (.cons (.var 8) (.cons (.var 7) .nil))))))) (.cons (.ife (.cmp .ne (.b1 .repr (.lst (.cons (.call 15 "there" (.cons (.var 0) (.cons (.var 1) .nil))) (.cons (.call 15 "there" (.cons (.var 0) (.cons (.var 1) .nil))) .nil)))) (.b1 .repr (.lst (.cons (.var 5) (.cons (.var 5) .nil))))) (.cons (.ret (.con (.bl false))) .nil) .nil) (.cons (.ret (.cmp .is (.call 11 "is_script" (.cons (.var 0) (.cons (.var 1) .nil))) (.con (.bl true)))) .nil))))))))))⟩
/-- law _law_script _law_draw _law_turn _law_row_here _law_due _law_many _law_kept _law_k -/
def F26 : Fn := ⟨1, 8, (.cons (.asg (.nm 1) (.call 16 "_law_begun" (.cons (.var 0) .nil))) (.cons (.for_ (.nm 2) (.rng1 (.bin .add (.con (.int 3)) (.bin .fdiv (.b2 .min (.con (.int 60)) (.b1 .len (.var 0))) (.con (.int 4))))) (.cons (.asg (.nm 5) (.bin .add (.con (.int 2)) (.call 17 "_law_next" (.cons (.var 1) (.cons (.con (.int 3)) .nil))))) (.cons (.asg (.nm 3) (.call 24 "_law_row" (.cons (.var 1) (.cons (.var 5) (.cons (.idx (.lst (.cons (.con (.int 6)) (.cons (.con (.int 12)) (.cons (.con (.int 40)) .nil)))) (.call 17 "_law_next" (.cons (.var 1) (.cons (.con (.int 3)) .nil)))) .nil))))) (.cons (.asg (.nm 6) (.b1 .repr (.var 3))) (.cons (.ife (.or (.not (.call 25 "_law_right" (.cons (.var 5) (.cons (.var 3) .nil)))) (.cmp .ne (.b1 .repr (.var 3)) (.var 6))) (.cons (.ret (.con (.bl false))) .nil) .nil) .nil))))) (.cons (.asg (.nm 3) (.tup (.cons (.tup (.cons (.con (.str "join")) (.cons (.con (.int 0)) .nil))) (.cons (.tup (.cons (.con (.str "join")) (.cons (.con (.int 1)) .nil))) (.cons (.tup (.cons (.con (.str "leave")) (.cons (.con (.int 0)) .nil))) (.cons (.tup (.cons (.con (.str "join")) (.cons (.con (.int 0)) .nil))) .nil)))))) (.cons (.asg (.nm 4) (.lst (.cons (.tup .nil) (.cons (.tup (.cons (.tup (.cons (.con (.int 1)) (.cons (.con (.int 1)) .nil))) .nil)) (.cons (.tup (.cons (.tup (.cons (.con (.int 1)) (.cons (.con (.int 1)) .nil))) .nil)) (.cons (.tup (.cons (.tup (.cons (.con (.int 1)) (.cons (.con (.int 1)) .nil))) (.cons (.tup (.cons (.con (.int 2)) (.cons (.con (.int 1)) .nil))) (.cons (.tup (.cons (.con (.int 3)) (.cons (.neg (.con (.int 1))) .nil))) .nil)))) .nil)))))) (.cons (.ife (.cmp .ne (.comp (.call 14 "pay" (.cons (.con (.int 2)) (.cons (.slc (.var 3) .none (.some (.var 7))) (.cons (.con (.int 0)) .nil)))) (.nm 7) [7] (.rng1 (.con (.int 4))) .yes) (.var 4)) (.cons (.ret (.con (.bl false))) .nil) .nil) (.cons (.ife (.cmp .ne (.lst (.cons (.call 14 "pay" (.cons (.con (.int 2)) (.cons (.var 3) (.cons (.con (.int 0)) .nil)))) (.cons (.call 14 "pay" (.cons (.con (.int 2)) (.cons (.var 3) (.cons (.con (.int 1)) .nil)))) .nil))) (.lst (.cons (.tup (.cons (.tup (.cons (.con (.int 1)) (.cons (.con (.int 1)) .nil))) .nil)) (.cons (.tup (.cons (.tup (.cons (.con (.int 1)) (.cons (.neg (.con (.int 1))) .nil))) (.cons (.tup (.cons (.con (.int 3)) (.cons (.con (.int 1)) .nil))) .nil))) .nil)))) (.cons (.ret (.con (.bl false))) .nil) .nil) (.cons (.ife (.cmp .ne (.lst (.cons (.call 15 "there" (.cons (.con (.int 2)) (.cons (.var 3) .nil))) (.cons (.call 15 "there" (.cons (.con (.int 2)) (.cons (.slc (.var 3) .none (.some (.con (.int 3)))) .nil))) (.cons (.call 15 "there" (.cons (.con (.int 4)) (.cons (.tup .nil) .nil))) .nil)))) (.lst (.cons (.tup (.cons (.con (.int 0)) (.cons (.con (.int 1)) .nil))) (.cons (.tup (.cons (.con (.int 1)) .nil)) (.cons (.tup .nil) .nil))))) (.cons (.ret (.con (.bl false))) .nil) .nil) (.cons (.asg (.nm 3) (.bin .mul (.tup (.cons (.tup (.cons (.con (.str "join")) (.cons (.con (.int 3)) .nil))) (.cons (.tup (.cons (.con (.str "leave")) (.cons (.con (.int 3)) .nil))) .nil))) (.con (.int 20)))) (.cons (.ret (.cmp .eq (.lst (.cons (.call 14 "pay" (.cons (.con (.int 4)) (.cons (.var 3) (.cons (.con (.int 3)) .nil)))) (.cons (.call 14 "pay" (.cons (.con (.int 4)) (.cons (.slc (.var 3) .none (.some (.con (.int 39)))) (.cons (.con (.int 3)) .nil)))) (.cons (.call 14 "pay" (.cons (.con (.int 4)) (.cons (.var 3) (.cons (.con (.int 0)) .nil)))) .nil)))) (.lst (.cons (.tup .nil) (.cons (.tup (.cons (.tup (.cons (.con (.int 8)) (.cons (.con (.int 1)) .nil))) .nil)) (.cons (.tup .nil) .nil)))))) .nil)))))))))⟩
/-- partners_of many group partner -/
def F27 : Fn := ⟨2, 3, (.cons (.ret (.comp (.var 2) (.nm 2) [2] (.rng1 (.var 0)) (.one (.call 6 "is_in" (.cons (.var 2) (.cons (.var 1) .nil)))))) .nil)⟩
/-- is_term many thing -/
def F28 : Fn := ⟨2, 2, (.cons (.ife (.or (.not (.isi (.var 1) .tuple)) (.or (.cmp .ne (.b1 .len (.var 1)) (.con (.int 2))) (.not (.call 0 "is_whole" (.cons (.idx (.var 1) (.con (.int 0))) (.cons (.con (.int 1)) (.cons (.call 4 "all_of" (.cons (.var 0) .nil)) .nil))))))) (.cons (.ret (.con (.bl false))) .nil) .nil) (.cons (.ret (.and (.call 0 "is_whole" (.cons (.idx (.var 1) (.con (.int 1))) (.cons (.bin .sub (.con (.int 0)) (.glo "MOST_FACTOR" (.int 1000))) (.cons (.glo "MOST_FACTOR" (.int 1000)) .nil)))) (.cmp .ne (.idx (.var 1) (.con (.int 1))) (.con (.int 0))))) .nil))⟩
/-- is_sum_of many thing one other term -/
def F29 : Fn := ⟨2, 5, (.cons (.ife (.or (.not (.isi (.var 1) .tuple)) (.not (.b1 .all (.comp (.call 28 "is_term" (.cons (.var 0) (.cons (.var 4) .nil))) (.nm 4) [4] (.seq (.var 1)) .yes)))) (.cons (.ret (.con (.bl false))) .nil) .nil) (.cons (.ret (.b1 .all (.comp (.cmp .lt (.idx (.var 2) (.con (.int 0))) (.idx (.var 3) (.con (.int 0)))) (.tp (.cons (.nm 2) (.cons (.nm 3) .nil))) [2, 3] (.zip (.var 1) (.slc (.var 1) (.some (.con (.int 1))) .none)) .yes))) .nil))⟩
/-- is_sum many thing -/
def F30 : Fn := ⟨2, 2, (.cons (.ret (.call 29 "is_sum_of" (.cons (.call 1 "need_many" (.cons (.var 0) .nil)) (.cons (.var 1) .nil)))) .nil)⟩
/-- is_fact many thing -/
def F31 : Fn := ⟨2, 2, (.cons (.ife (.or (.not (.isi (.var 1) .tuple)) (.or (.cmp .ne (.b1 .len (.var 1)) (.con (.int 3))) (.not (.isi (.idx (.var 1) (.con (.int 0))) .str)))) (.cons (.ret (.con (.bl false))) .nil) .nil) (.cons (.ife (.or (.cmp .nin (.idx (.var 1) (.con (.int 0))) (.tup (.cons (.glo "LEAST" (.str "least")) (.cons (.glo "SAME" (.str "same")) .nil)))) (.not (.call 29 "is_sum_of" (.cons (.var 0) (.cons (.idx (.var 1) (.con (.int 1))) .nil))))) (.cons (.ret (.con (.bl false))) .nil) .nil) (.cons (.ret (.call 0 "is_whole" (.cons (.idx (.var 1) (.con (.int 2))) (.cons (.bin .sub (.con (.int 0)) (.glo "MOST_BOUND" (.int 1000))) (.cons (.glo "MOST_BOUND" (.int 1000)) .nil))))) .nil)))⟩
/-- book_fault thing wrong number fact -/
def F32 : Fn := ⟨1, 4, (.cons (.ife (.or (.not (.isi (.var 0) .tuple)) (.cmp .ne (.b1 .len (.var 0)) (.con (.int 2)))) (.cons (.ret (.tup .nil)) .nil) .nil) (.cons (.ife (.not (.call 0 "is_whole" (.cons (.idx (.var 0) (.con (.int 0))) (.cons (.glo "FEWEST" (.int 2)) (.cons (.glo "MOST" (.int 4)) .nil))))) (.cons (.ret (.tup (.cons (.con (.str "many")) .nil))) .nil) .nil) (.cons (.ife (.or (.not (.isi (.idx (.var 0) (.con (.int 1))) .tuple)) (.cmp .gt (.b1 .len (.idx (.var 0) (.con (.int 1)))) (.glo "MOST_FACTS" (.int 8)))) (.cons (.ret (.tup (.cons (.con (.str "facts")) .nil))) .nil) .nil) (.cons (.asg (.nm 1) (.comp (.var 2) (.tp (.cons (.nm 2) (.cons (.nm 3) .nil))) [2, 3] (.enum (.idx (.var 0) (.con (.int 1)))) (.one (.not (.call 31 "is_fact" (.cons (.idx (.var 0) (.con (.int 0))) (.cons (.var 3) .nil))))))) (.cons (.ret (.ite (.cmp .ne (.var 1) (.lst .nil)) (.tup (.cons (.con (.str "fact")) (.cons (.idx (.var 1) (.con (.int 0))) .nil))) (.con .non))) .nil)))))⟩
/-- need_book thing place -/
def F33 : Fn := ⟨1, 2, (.cons (.asg (.nm 1) (.call 32 "book_fault" (.cons (.var 0) .nil))) (.cons (.ife (.cmp .isnot (.var 1) (.con .non)) (.cons (.rais 1 "BadBook" (.var 1)) .nil) .nil) (.cons (.ret (.var 0)) .nil)))⟩
/-- never_less many found group partner rest terms -/
def F34 : Fn := ⟨1, 6, (.cons (.own 1 (.lst .nil)) (.cons (.for_ (.nm 2) (.rng2 (.con (.int 1)) (.call 3 "groups_of" (.cons (.var 0) .nil))) (.cons (.for_ (.nm 3) (.seq (.call 27 "partners_of" (.cons (.var 0) (.cons (.var 2) .nil)))) (.cons (.asg (.nm 4) (.bin .sub (.var 2) (.call 5 "bit_of" (.cons (.var 3) .nil)))) (.cons (.asg (.nm 5) (.ite (.cmp .gt (.var 4) (.con (.int 0))) (.tup (.cons (.tup (.cons (.var 4) (.cons (.neg (.con (.int 1))) .nil))) (.cons (.tup (.cons (.var 2) (.cons (.con (.int 1)) .nil))) .nil))) (.tup (.cons (.tup (.cons (.var 2) (.cons (.con (.int 1)) .nil))) .nil)))) (.cons (.appm 1 (.tup (.cons (.glo "LEAST" (.str "least")) (.cons (.var 5) (.cons (.con (.int 0)) .nil))))) .nil)))) .nil)) (.frz 1 (.cons (.ret (.var 1)) .nil))))⟩
/-- rows_in book -/
def F35 : Fn := ⟨1, 1, (.cons (.ret (.bin .add (.b1 .list (.idx (.var 0) (.con (.int 1)))) (.call 34 "never_less" (.cons (.idx (.var 0) (.con (.int 0))) .nil)))) .nil)⟩
/-- rows_of book -/
def F36 : Fn := ⟨1, 1, (.cons (.ret (.b1 .tuple (.call 35 "rows_in" (.cons (.call 33 "need_book" (.cons (.var 0) .nil)) .nil)))) .nil)⟩
/-- _law_among _law_draw _law_some -/
def F37 : Fn := ⟨2, 2, (.cons (.ret (.idx (.var 1) (.call 17 "_law_next" (.cons (.var 0) (.cons (.b1 .len (.var 1)) .nil))))) .nil)⟩
/-- _law_numbers _law_draw _law_many _law_found _law_group _law_most _law_partner -/
def F38 : Fn := ⟨2, 6, (.cons (.own 2 (.lst (.cons (.con (.int 0)) .nil))) (.cons (.for_ (.nm 3) (.rng2 (.con (.int 1)) (.call 18 "_law_size" (.cons (.var 1) .nil))) (.cons (.asg (.nm 4) (.b1 .max (.comp (.idxM 2 (.bin .sub (.var 3) (.call 19 "_law_bit" (.cons (.var 5) .nil)))) (.nm 5) [5] (.rng1 (.var 1)) (.one (.call 20 "_law_is_in" (.cons (.var 5) (.cons (.var 3) .nil))))))) (.cons (.appm 2 (.bin .add (.var 4) (.idx (.lst (.cons (.con (.int 0)) (.cons (.con (.int 0)) (.cons (.con (.int 1)) (.cons (.con (.int 2)) (.cons (.con (.int 5)) (.cons (.call 17 "_law_next" (.cons (.var 0) (.cons (.con (.int 20)) .nil))) .nil))))))) (.call 17 "_law_next" (.cons (.var 0) (.cons (.con (.int 6)) .nil)))))) .nil))) (.frz 2 (.cons (.ret (.b1 .tuple (.var 2))) .nil))))⟩
/-- _law_reckon _law_some _law_numbers_here _law_group _law_factor -/
def F39 : Fn := ⟨2, 4, (.cons (.ret (.b1 .sum (.comp (.bin .mul (.var 3) (.idx (.var 1) (.var 2))) (.tp (.cons (.nm 2) (.cons (.nm 3) .nil))) [2, 3] (.seq (.var 0)) .yes))) .nil)⟩
/-- _law_terms _law_draw _law_many _law_most _law_groups _law_turn _law_found _law_group -/
def F40 : Fn := ⟨3, 7, (.cons (.asg (.nm 3) (.lst .nil)) (.cons (.for_ (.nm 4) (.rng1 (.call 17 "_law_next" (.cons (.var 0) (.cons (.bin .add (.var 2) (.con (.int 1))) .nil)))) (.cons (.asg (.nm 6) (.bin .add (.con (.int 1)) (.call 17 "_law_next" (.cons (.var 0) (.cons (.bin .sub (.call 18 "_law_size" (.cons (.var 1) .nil)) (.con (.int 1))) .nil))))) (.cons (.asg (.nm 3) (.bin .add (.var 3) (.bin .mul (.lst (.cons (.var 6) .nil)) (.b1 .int (.cmp .nin (.var 6) (.var 3)))))) .nil))) (.cons (.own 5 (.lst .nil)) (.cons (.for_ (.nm 6) (.seq (.b1 .sorted (.var 3))) (.cons (.appm 5 (.tup (.cons (.var 6) (.cons (.idx (.lst (.cons (.con (.int 1)) (.cons (.con (.int 1)) (.cons (.neg (.con (.int 1))) (.cons (.neg (.con (.int 1))) (.cons (.con (.int 2)) (.cons (.neg (.con (.int 2))) (.cons (.con (.int 3)) (.cons (.bin .add (.con (.int 1)) (.call 17 "_law_next" (.cons (.var 0) (.cons (.con (.int 1000)) .nil)))) .nil))))))))) (.call 17 "_law_next" (.cons (.var 0) (.cons (.con (.int 8)) .nil)))) .nil)))) .nil)) (.frz 5 (.cons (.ret (.b1 .tuple (.var 5))) .nil))))))⟩
/-- _law_fact _law_draw _law_many _law_numbers_here _law_some _law_bound _law_value _law_lack -/
def F41 : Fn := ⟨3, 7, (.cons (.asg (.nm 3) (.call 40 "_law_terms" (.cons (.var 0) (.cons (.var 1) (.cons (.con (.int 3)) .nil))))) (.cons (.par [(false, 5), (false, 6)] (.cons (.call 39 "_law_reckon" (.cons (.var 3) (.cons (.var 2) .nil))) (.cons (.idx (.lst (.cons (.con (.int 0)) (.cons (.con (.int 0)) (.cons (.con (.int 1)) (.cons (.con (.int 3)) (.cons (.call 17 "_law_next" (.cons (.var 0) (.cons (.con (.int 50)) .nil))) .nil)))))) (.call 17 "_law_next" (.cons (.var 0) (.cons (.con (.int 5)) .nil)))) .nil))) (.cons (.ife (.and (.cmp .eq (.call 17 "_law_next" (.cons (.var 0) (.cons (.con (.int 4)) .nil))) (.con (.int 0))) (.chain .lt .lt (.neg (.con (.int 1001))) (.var 5) (.con (.int 1001)))) (.cons (.ret (.tup (.cons (.con (.str "same")) (.cons (.var 3) (.cons (.var 5) .nil))))) .nil) .nil) (.cons (.asg (.nm 4) (.b2 .min (.con (.int 1000)) (.bin .sub (.var 5) (.var 6)))) (.cons (.ret (.ite (.cmp .gt (.var 4) (.neg (.con (.int 1001)))) (.tup (.cons (.con (.str "least")) (.cons (.var 3) (.cons (.var 4) .nil)))) (.tup (.cons (.con (.str "least")) (.cons (.tup .nil) (.cons (.con (.int 0)) .nil)))))) .nil)))))⟩
/-- _law_book _law_draw _law_most _law_many _law_numbers_here _law_facts _law_turn -/
def F42 : Fn := ⟨2, 6, (.cons (.asg (.nm 2) (.idx (.lst (.cons (.con (.int 2)) (.cons (.con (.int 3)) (.cons (.con (.int 3)) (.cons (.con (.int 3)) (.cons (.con (.int 3)) (.cons (.con (.int 4)) .nil))))))) (.call 17 "_law_next" (.cons (.var 0) (.cons (.con (.int 6)) .nil))))) (.cons (.asg (.nm 3) (.call 38 "_law_numbers" (.cons (.var 0) (.cons (.var 2) .nil)))) (.cons (.asg (.nm 4) (.b1 .tuple (.comp (.call 41 "_law_fact" (.cons (.var 0) (.cons (.var 2) (.cons (.var 3) .nil)))) (.nm 5) [5] (.rng1 (.call 17 "_law_next" (.cons (.var 0) (.cons (.bin .add (.var 1) (.con (.int 1))) .nil)))) .yes))) (.cons (.ret (.tup (.cons (.tup (.cons (.var 2) (.cons (.var 4) .nil))) (.cons (.var 3) .nil)))) .nil))))⟩
/-- _law_rows _law_book_here _law_found _law_group _law_partner _law_rest -/
def F43 : Fn := ⟨1, 5, (.cons (.own 1 (.b1 .list (.idx (.var 0) (.con (.int 1))))) (.cons (.for_ (.nm 2) (.rng2 (.con (.int 1)) (.call 18 "_law_size" (.cons (.idx (.var 0) (.con (.int 0))) .nil))) (.cons (.for_ (.nm 3) (.rng1 (.idx (.var 0) (.con (.int 0)))) (.cons (.ife (.call 20 "_law_is_in" (.cons (.var 3) (.cons (.var 2) .nil))) (.cons (.asg (.nm 4) (.bin .sub (.var 2) (.call 19 "_law_bit" (.cons (.var 3) .nil)))) (.cons (.appm 1 (.tup (.cons (.con (.str "least")) (.cons (.bin .add (.bin .mul (.tup (.cons (.tup (.cons (.var 4) (.cons (.neg (.con (.int 1))) .nil))) .nil)) (.b1 .int (.cmp .gt (.var 4) (.con (.int 0))))) (.tup (.cons (.tup (.cons (.var 2) (.cons (.con (.int 1)) .nil))) .nil))) (.cons (.con (.int 0)) .nil))))) .nil)) .nil) .nil)) .nil)) (.frz 1 (.cons (.ret (.var 1)) .nil))))⟩
/-- _law_put _law_row _law_at _law_odd -/
def F44 : Fn := ⟨3, 3, (.cons (.ret (.bin .add (.bin .add (.slc (.var 0) .none (.some (.var 1))) (.tup (.cons (.var 2) .nil))) (.slc (.var 0) (.some (.bin .add (.var 1) (.con (.int 1)))) .none))) .nil)⟩
/-- _law_spoilt _law_draw _law_thing _law_some _law_at _law_odd _law_mode -/
def F45 : Fn := ⟨3, 6, (.cons (.par [(false, 4), (false, 5)] (.cons (.idx (.var 2) (.call 17 "_law_next" (.cons (.var 0) (.cons (.b1 .len (.var 2)) .nil)))) (.cons (.call 17 "_law_next" (.cons (.var 0) (.cons (.con (.int 8)) .nil))) .nil))) (.cons (.ife (.or (.not (.isi (.var 1) .tuple)) (.cmp .eq (.var 1) (.tup .nil))) (.cons (.ret (.var 4)) .nil) .nil) (.cons (.asg (.nm 3) (.call 17 "_law_next" (.cons (.var 0) (.cons (.b1 .len (.var 1)) .nil)))) (.cons (.ife (.and (.cmp .gt (.var 5) (.con (.int 3))) (.isi (.idx (.var 1) (.var 3)) .tuple)) (.cons (.ret (.call 44 "_law_put" (.cons (.var 1) (.cons (.var 3) (.cons (.call 45 "_law_spoilt" (.cons (.var 0) (.cons (.idx (.var 1) (.var 3)) (.cons (.var 2) .nil)))) .nil))))) .nil) .nil) (.cons (.ife (.cmp .eq (.var 5) (.con (.int 0))) (.cons (.ret (.bin .add (.slc (.var 1) .none (.some (.var 3))) (.slc (.var 1) (.some (.bin .add (.var 3) (.con (.int 1)))) .none))) .nil) .nil) (.cons (.ife (.cmp .eq (.var 5) (.con (.int 1))) (.cons (.ret (.bin .add (.bin .add (.slc (.var 1) .none (.some (.var 3))) (.rev (.slc (.var 1) (.some (.var 3)) (.some (.bin .add (.var 3) (.con (.int 2))))))) (.slc (.var 1) (.some (.bin .add (.var 3) (.con (.int 2)))) .none))) .nil) .nil) (.cons (.ife (.cmp .eq (.var 5) (.con (.int 2))) (.cons (.ret (.bin .add (.bin .add (.slc (.var 1) .none (.some (.var 3))) (.tup (.cons (.idx (.var 1) (.var 3)) .nil))) (.slc (.var 1) (.some (.var 3)) .none))) .nil) .nil) (.cons (.ret (.ite (.cmp .gt (.var 5) (.con (.int 4))) (.call 44 "_law_put" (.cons (.var 1) (.cons (.var 3) (.cons (.var 4) .nil)))) (.bin .add (.bin .add (.slc (.var 1) .none (.some (.var 3))) (.tup (.cons (.var 4) .nil))) (.slc (.var 1) (.some (.var 3)) .none)))) .nil))))))))⟩
/-- _law_between _law_thing _law_least _law_most -/
def F46 : Fn := ⟨3, 3, (.cons (.ret (.and (.isi (.var 0) .int) (.and (.not (.isi (.var 0) .bool)) (.chain .le .le (.var 1) (.var 0) (.var 2))))) .nil)⟩
/-- _law_sum_right _law_many _law_thing _law_term _law_k -/
def F47 : Fn := ⟨2, 4, (.cons (.ife (.not (.isi (.var 1) .tuple)) (.cons (.ret (.con (.bl false))) .nil) .nil) (.cons (.for_ (.nm 2) (.seq (.var 1)) (.cons (.ife (.or (.not (.isi (.var 2) .tuple)) (.or (.cmp .ne (.b1 .len (.var 2)) (.con (.int 2))) (.not (.call 46 "_law_between" (.cons (.idx (.var 2) (.con (.int 0))) (.cons (.con (.int 1)) (.cons (.bin .sub (.call 18 "_law_size" (.cons (.var 0) .nil)) (.con (.int 1))) .nil))))))) (.cons (.ret (.con (.bl false))) .nil) .nil) (.cons (.ife (.or (.not (.call 46 "_law_between" (.cons (.idx (.var 2) (.con (.int 1))) (.cons (.neg (.con (.int 1000))) (.cons (.con (.int 1000)) .nil))))) (.cmp .eq (.idx (.var 2) (.con (.int 1))) (.con (.int 0)))) (.cons (.ret (.con (.bl false))) .nil) .nil) .nil))) (.cons (.ret (.cmp .eq (.comp (.var 3) (.nm 3) [3] (.rng1 (.bin .sub (.b1 .len (.var 1)) (.con (.int 1)))) (.one (.cmp .ge (.idx (.idx (.var 1) (.var 3)) (.con (.int 0))) (.idx (.idx (.var 1) (.bin .add (.var 3) (.con (.int 1)))) (.con (.int 0)))))) (.lst .nil))) .nil)))⟩
/-- _law_wrong _law_thing _law_k _law_fact_here -/
def F48 : Fn := ⟨1, 3, (.cons (.ife (.or (.not (.isi (.var 0) .tuple)) (.cmp .ne (.b1 .len (.var 0)) (.con (.int 2)))) (.cons (.ret (.lst (.cons (.tup .nil) .nil))) .nil) .nil) (.cons (.ife (.not (.call 46 "_law_between" (.cons (.idx (.var 0) (.con (.int 0))) (.cons (.con (.int 2)) (.cons (.con (.int 4)) .nil))))) (.cons (.ret (.lst (.cons (.tup (.cons (.con (.str "many")) .nil)) .nil))) .nil) .nil) (.cons (.ife (.or (.not (.isi (.idx (.var 0) (.con (.int 1))) .tuple)) (.cmp .gt (.b1 .len (.idx (.var 0) (.con (.int 1)))) (.con (.int 8)))) (.cons (.ret (.lst (.cons (.tup (.cons (.con (.str "facts")) .nil)) .nil))) .nil) .nil) (.cons (.for_ (.tp (.cons (.nm 1) (.cons (.nm 2) .nil))) (.enum (.idx (.var 0) (.con (.int 1)))) (.cons (.ife (.or (.not (.isi (.var 2) .tuple)) (.or (.cmp .ne (.b1 .len (.var 2)) (.con (.int 3))) (.not (.isi (.idx (.var 2) (.con (.int 0))) .str)))) (.cons (.ret (.lst (.cons (.tup (.cons (.con (.str "fact")) (.cons (.var 1) .nil))) .nil))) .nil) .nil) (.cons (.ife (.or (.cmp .nin (.idx (.var 2) (.con (.int 0))) (.tup (.cons (.con (.str "least")) (.cons (.con (.str "same")) .nil)))) (.not (.call 47 "_law_sum_right" (.cons (.idx (.var 0) (.con (.int 0))) (.cons (.idx (.var 2) (.con (.int 1))) .nil))))) (.cons (.ret (.lst (.cons (.tup (.cons (.con (.str "fact")) (.cons (.var 1) .nil))) .nil))) .nil) .nil) (.cons (.ife (.not (.call 46 "_law_between" (.cons (.idx (.var 2) (.con (.int 2))) (.cons (.neg (.con (.int 1000))) (.cons (.con (.int 1000)) .nil))))) (.cons (.ret (.lst (.cons (.tup (.cons (.con (.str "fact")) (.cons (.var 1) .nil))) .nil))) .nil) .nil) .nil)))) (.cons (.ret (.lst .nil)) .nil)))))⟩
/-- _law_told _law_call e _law_found _law_caught -/
def F49 : Fn := ⟨1, 4, (.cons (.told [2, 3] (some 2) [(0, "StayError")] 1 3) (.cons (.ife (.cmp .is (.var 3) (.con .non)) (.cons (.ret (.var 2)) .nil) .nil) (.cons (.ife (.and (.isx (.var 3) 1 "BadBook") (.not (.isx (.var 3) 2 "BadText"))) (.cons (.ret (.lst (.cons (.con (.str "book")) (.cons (.fld (.var 3) "place") .nil)))) .nil) .nil) (.cons (.ret (.ite (.isx (.var 3) 4 "BadNumber") (.lst (.cons (.con (.str "number")) (.cons (.fld (.var 3) "value") .nil))) (.lst (.cons (.con (.str "other")) .nil)))) .nil))))⟩
/-- _law_right _law_thing _law_due _law_lap _law_wrong_here _law_kept -/
def F50 : Fn := ⟨1, 5, (.cons (.par [(false, 3), (false, 4)] (.cons (.call 48 "_law_wrong" (.cons (.var 0) .nil)) (.cons (.b1 .repr (.var 0)) .nil))) (.cons (.asg (.nm 1) (.ite (.cmp .ne (.var 3) (.lst .nil)) (.bin .mul (.lst (.cons (.lst (.cons (.con (.str "book")) (.cons (.idx (.var 3) (.con (.int 0))) .nil))) .nil)) (.con (.int 2))) (.lst (.cons (.var 0) (.cons (.b1 .tuple (.call 43 "_law_rows" (.cons (.var 0) .nil))) .nil))))) (.cons (.for_ (.nm 2) (.rng1 (.con (.int 2))) (.cons (.ife (.cmp .ne (.b1 .repr (.lst (.cons (.lamc 49 "_law_told" (.call 33 "need_book" (.cons (.var 0) .nil))) (.cons (.lamc 49 "_law_told" (.call 36 "rows_of" (.cons (.var 0) .nil))) .nil)))) (.b1 .repr (.var 1))) (.cons (.ret (.con (.bl false))) .nil) .nil) .nil)) (.cons (.ret (.cmp .eq (.b1 .repr (.var 0)) (.var 4))) .nil))))⟩
/-- law _law_script _law_draw _law_some _law_turn _law_fact_here _law_rows_here _law_due _law_terms_here _law_lap _law_odd _law_book_here _law_numbers_here _law_thing _law_one -/
def F51 : Fn := ⟨1, 14, (.cons (.asg (.nm 1) (.call 16 "_law_begun" (.cons (.var 0) .nil))) (.cons (.asg (.nm 2) (.lst (.cons (.con .non) (.cons (.con (.bl true)) (.cons (.con (.int 0)) (.cons (.con (.int 1)) (.cons (.con (.int 2)) (.cons (.con (.int 4)) (.cons (.con (.int 5)) (.cons (.con (.int 7)) (.cons (.con (.int 8)) (.cons (.con (.int 16)) (.cons (.con (.int 1000)) (.cons (.con (.int 1001)) (.cons (.neg (.con (.int 1001))) (.cons (.con (.str "least")) (.cons (.con (.str "same")) (.cons (.con (.str "")) (.cons (.tup .nil) (.cons (.lst .nil) (.cons .dic (.cons (.tup (.cons (.con (.int 1)) (.cons (.con (.int 1)) .nil))) (.cons (.bin .pow (.con (.int 10)) (.con (.int 29))) .nil))))))))))))))))))))))) (.cons (.for_ (.nm 3) (.rng1 (.bin .add (.con (.int 3)) (.bin .fdiv (.b2 .min (.con (.int 60)) (.b1 .len (.var 0))) (.con (.int 6))))) (.cons (.asg (.tp (.cons (.nm 10) (.cons (.nm 11) .nil))) (.call 42 "_law_book" (.cons (.var 1) (.cons (.con (.int 8)) .nil)))) (.cons (.ife (.or (.cmp .ne (.call 48 "_law_wrong" (.cons (.var 10) .nil)) (.lst .nil)) (.not (.call 50 "_law_right" (.cons (.var 10) .nil)))) (.cons (.ret (.con (.bl false))) .nil) .nil) (.cons (.asg (.nm 7) (.call 40 "_law_terms" (.cons (.var 1) (.cons (.idx (.var 10) (.con (.int 0))) (.cons (.con (.int 5)) .nil))))) (.cons (.for_ (.nm 8) (.rng1 (.con (.int 4))) (.cons (.asg (.nm 12) (.call 45 "_law_spoilt" (.cons (.var 1) (.cons (.var 10) (.cons (.var 2) .nil))))) (.cons (.ife (.or (.not (.call 50 "_law_right" (.cons (.var 12) .nil))) (.not (.call 50 "_law_right" (.cons (.call 45 "_law_spoilt" (.cons (.var 1) (.cons (.var 12) (.cons (.var 2) .nil)))) .nil)))) (.cons (.ret (.con (.bl false))) .nil) .nil) (.cons (.for_ (.nm 13) (.seq (.tup (.cons (.var 7) (.cons (.call 45 "_law_spoilt" (.cons (.var 1) (.cons (.var 7) (.cons (.var 2) .nil)))) (.cons (.b1 .list (.var 7)) (.cons (.bin .add (.rev (.var 7)) (.var 7)) .nil)))))) (.cons (.ife (.cmp .ne (.b1 .repr (.lst (.cons (.call 30 "is_sum" (.cons (.idx (.var 10) (.con (.int 0))) (.cons (.var 13) .nil))) (.cons (.call 30 "is_sum" (.cons (.idx (.var 10) (.con (.int 0))) (.cons (.var 13) .nil))) .nil)))) (.b1 .repr (.bin .mul (.lst (.cons (.call 47 "_law_sum_right" (.cons (.idx (.var 10) (.con (.int 0))) (.cons (.var 13) .nil))) .nil)) (.con (.int 2))))) (.cons (.ret (.con (.bl false))) .nil) .nil) .nil)) .nil)))) (.cons (.asg (.nm 9) (.call 37 "_law_among" (.cons (.var 1) (.cons (.lst (.cons (.con .non) (.cons (.con (.bl true)) (.cons (.con (.int 1)) (.cons (.con (.int 5)) (.cons (.con (.str "3")) (.cons (.tup (.cons (.con (.int 3)) .nil)) (.cons (.lst .nil) (.cons (.bin .pow (.con (.int 10)) (.con (.int 29))) .nil))))))))) .nil)))) (.cons (.ife (.cmp .ne (.b1 .repr (.lamc 49 "_law_told" (.call 30 "is_sum" (.cons (.var 9) (.cons (.var 7) .nil))))) (.b1 .repr (.lst (.cons (.con (.str "number")) (.cons (.var 9) .nil))))) (.cons (.ret (.con (.bl false))) .nil) .nil) .nil))))))) (.cons (.asg (.nm 4) (.tup (.cons (.con (.str "least")) (.cons (.tup (.cons (.tup (.cons (.con (.int 1)) (.cons (.neg (.con (.int 1000))) .nil))) (.cons (.tup (.cons (.con (.int 15)) (.cons (.con (.int 1000)) .nil))) .nil))) (.cons (.neg (.con (.int 1000))) .nil))))) (.cons (.asg (.nm 5) (.lst (.cons (.tup (.cons (.con (.int 4)) (.cons (.bin .mul (.tup (.cons (.var 4) .nil)) (.con (.int 8))) .nil))) (.cons (.tup (.cons (.con (.int 4)) (.cons (.bin .mul (.tup (.cons (.var 4) .nil)) (.con (.int 9))) .nil))) (.cons (.tup (.cons (.con (.int 2)) (.cons (.tup .nil) .nil))) (.cons (.tup (.cons (.con (.int 1)) (.cons (.tup .nil) .nil))) (.cons (.tup (.cons (.con (.int 5)) (.cons (.tup .nil) .nil))) (.cons (.tup (.cons (.con (.int 3)) (.cons (.lst (.cons (.var 4) .nil)) .nil))) (.cons (.tup (.cons (.con (.int 3)) (.cons (.tup (.cons (.var 4) .nil)) .nil))) .nil))))))))) (.cons (.asg (.nm 5) (.bin .add (.var 5) (.lst (.cons (.lst (.cons (.con (.int 2)) (.cons (.tup .nil) .nil))) (.cons (.con .non) (.cons (.tup .nil) .nil)))))) (.cons (.asg (.nm 5) (.bin .add (.var 5) (.lst (.cons (.tup (.cons (.con (.int 2)) (.cons (.tup (.cons (.tup (.cons (.con (.str "same")) (.cons (.tup .nil) (.cons (.con (.int 1000)) .nil)))) .nil)) .nil))) (.cons (.tup (.cons (.con (.int 2)) (.cons (.tup (.cons (.tup (.cons (.con (.str "same")) (.cons (.tup .nil) (.cons (.con (.int 1001)) .nil)))) .nil)) .nil))) (.cons (.tup (.cons (.con (.int 2)) (.cons (.tup (.cons (.tup (.cons (.con (.str "most")) (.cons (.tup .nil) (.cons (.con (.int 0)) .nil)))) .nil)) .nil))) (.cons (.tup (.cons (.con (.int 2)) (.cons (.tup (.cons (.tup .nil) .nil)) .nil))) .nil))))))) (.cons (.asg (.nm 5) (.bin .add (.var 5) (.lst (.cons (.tup (.cons (.con (.int 2)) (.cons (.tup (.cons (.tup (.cons (.con (.str "least")) (.cons (.tup (.cons (.tup (.cons (.con (.int 1)) (.cons (.con (.int 0)) .nil))) .nil)) (.cons (.con (.int 0)) .nil)))) .nil)) .nil))) (.cons (.tup (.cons (.con (.int 2)) (.cons (.tup (.cons (.tup (.cons (.con (.str "least")) (.cons (.tup (.cons (.tup (.cons (.con (.int 2)) (.cons (.con (.int 1)) .nil))) (.cons (.tup (.cons (.con (.int 1)) (.cons (.con (.int 1)) .nil))) .nil))) (.cons (.con (.int 0)) .nil)))) .nil)) .nil))) (.cons (.tup (.cons (.con (.int 2)) (.cons (.tup (.cons (.var 4) (.cons (.con (.int 5)) .nil))) .nil))) (.cons (.con (.str "ab")) (.cons .dic .nil)))))))) (.cons (.ife (.cmp .ne (.comp (.var 12) (.nm 12) [12] (.seq (.var 5)) (.one (.not (.call 50 "_law_right" (.cons (.var 12) .nil))))) (.lst .nil)) (.cons (.ret (.con (.bl false))) .nil) .nil) (.cons (.asg (.nm 6) (.lst (.cons (.tup (.cons (.tup (.cons (.con (.int 1)) (.cons (.con (.int 1)) .nil))) .nil)) (.cons (.tup (.cons (.tup (.cons (.con (.int 2)) (.cons (.con (.int 1)) .nil))) .nil)) (.cons (.tup (.cons (.tup (.cons (.con (.int 2)) (.cons (.neg (.con (.int 1))) .nil))) (.cons (.tup (.cons (.con (.int 3)) (.cons (.con (.int 1)) .nil))) .nil))) (.cons (.tup (.cons (.tup (.cons (.con (.int 1)) (.cons (.neg (.con (.int 1))) .nil))) (.cons (.tup (.cons (.con (.int 3)) (.cons (.con (.int 1)) .nil))) .nil))) .nil)))))) (.cons (.ret (.cmp .eq (.call 36 "rows_of" (.cons (.tup (.cons (.con (.int 2)) (.cons (.tup .nil) .nil))) .nil)) (.b1 .tuple (.comp (.tup (.cons (.con (.str "least")) (.cons (.var 2) (.cons (.con (.int 0)) .nil)))) (.nm 2) [2] (.seq (.var 6)) .yes)))) .nil)))))))))))⟩
/-- is_table_form many thing number -/
def F52 : Fn := ⟨2, 3, (.cons (.ife (.or (.not (.isi (.var 1) .tuple)) (.or (.cmp .ne (.b1 .len (.var 1)) (.con (.int 2))) (.not (.call 0 "is_whole" (.cons (.idx (.var 1) (.con (.int 0))) (.cons (.con (.int 1)) (.cons (.con .non) .nil))))))) (.cons (.ret (.con (.bl false))) .nil) .nil) (.cons (.ife (.or (.not (.isi (.idx (.var 1) (.con (.int 1))) .tuple)) (.cmp .ne (.b1 .len (.idx (.var 1) (.con (.int 1)))) (.call 3 "groups_of" (.cons (.var 0) .nil)))) (.cons (.ret (.con (.bl false))) .nil) .nil) (.cons (.ret (.and (.b1 .all (.comp (.call 0 "is_whole" (.cons (.var 2) (.cons (.con .non) (.cons (.con .non) .nil)))) (.nm 2) [2] (.seq (.idx (.var 1) (.con (.int 1)))) .yes)) (.cmp .eq (.idx (.idx (.var 1) (.con (.int 1))) (.con (.int 0))) (.con (.int 0))))) .nil)))⟩
/-- reckoned some numbers group factor -/
def F53 : Fn := ⟨2, 4, (.cons (.ret (.b1 .sum (.comp (.bin .mul (.var 3) (.idx (.var 1) (.var 2))) (.tp (.cons (.nm 2) (.cons (.nm 3) .nil))) [2, 3] (.seq (.var 0)) .yes))) .nil)⟩
/-- is_kept fact unit numbers value word some bound -/
def F54 : Fn := ⟨3, 7, (.cons (.asg (.tp (.cons (.nm 4) (.cons (.nm 5) (.cons (.nm 6) .nil)))) (.var 0)) (.cons (.asg (.nm 3) (.call 53 "reckoned" (.cons (.var 5) (.cons (.var 2) .nil)))) (.cons (.ret (.ite (.cmp .eq (.var 4) (.glo "SAME" (.str "same"))) (.cmp .eq (.var 3) (.bin .mul (.var 6) (.var 1))) (.cmp .ge (.var 3) (.bin .mul (.var 6) (.var 1))))) .nil)))⟩
/-- are_worths many thing fact -/
def F55 : Fn := ⟨2, 3, (.cons (.ife (.not (.call 52 "is_table_form" (.cons (.call 1 "need_many" (.cons (.var 0) .nil)) (.cons (.var 1) .nil)))) (.cons (.ret (.con (.bl false))) .nil) .nil) (.cons (.ret (.b1 .all (.comp (.call 54 "is_kept" (.cons (.var 2) (.cons (.idx (.var 1) (.con (.int 0))) (.cons (.idx (.var 1) (.con (.int 1))) .nil)))) (.nm 2) [2] (.seq (.call 34 "never_less" (.cons (.var 0) .nil))) .yes))) .nil))⟩
/-- is_table_in book thing fact -/
def F56 : Fn := ⟨2, 3, (.cons (.ife (.not (.call 52 "is_table_form" (.cons (.idx (.var 0) (.con (.int 0))) (.cons (.var 1) .nil)))) (.cons (.ret (.con (.bl false))) .nil) .nil) (.cons (.ret (.b1 .all (.comp (.call 54 "is_kept" (.cons (.var 2) (.cons (.idx (.var 1) (.con (.int 0))) (.cons (.idx (.var 1) (.con (.int 1))) .nil)))) (.nm 2) [2] (.seq (.call 35 "rows_in" (.cons (.var 0) .nil))) .yes))) .nil))⟩
/-- keeps book thing -/
def F57 : Fn := ⟨2, 2, (.cons (.ret (.call 56 "is_table_in" (.cons (.call 33 "need_book" (.cons (.var 0) .nil)) (.cons (.var 1) .nil)))) .nil)⟩
/-- common one other -/
def F58 : Fn := ⟨2, 2, (.cons (.whl (.cmp .gt (.var 1) (.con (.int 0))) (.cons (.par [(false, 0), (false, 1)] (.cons (.var 1) (.cons (.bin .mod (.b1 .int (.var 0)) (.var 1)) .nil))) .nil)) (.cons (.ret (.var 0)) .nil))⟩
/-- fraction top bottom part -/
def F59 : Fn := ⟨2, 3, (.cons (.asg (.nm 2) (.call 58 "common" (.cons (.b1 .abs (.var 0)) (.cons (.var 1) .nil)))) (.cons (.ret (.tup (.cons (.bin .fdiv (.var 0) (.var 2)) (.cons (.bin .fdiv (.var 1) (.var 2)) .nil)))) .nil))⟩
/-- value_of some table -/
def F60 : Fn := ⟨2, 2, (.cons (.ret (.call 59 "fraction" (.cons (.call 53 "reckoned" (.cons (.var 0) (.cons (.idx (.var 1) (.con (.int 1))) .nil))) (.cons (.idx (.var 1) (.con (.int 0))) .nil)))) .nil)⟩
/-- _law_whole _law_thing _law_least -/
def F61 : Fn := ⟨2, 2, (.cons (.ret (.and (.isi (.var 0) .int) (.and (.not (.isi (.var 0) .bool)) (.or (.cmp .is (.var 1) (.con .non)) (.cmp .ge (.var 0) (.var 1)))))) .nil)⟩
/-- _law_kept _law_fact_here _law_unit _law_numbers_here _law_value _law_due -/
def F62 : Fn := ⟨3, 5, (.cons (.par [(false, 3), (false, 4)] (.cons (.call 39 "_law_reckon" (.cons (.idx (.var 0) (.con (.int 1))) (.cons (.var 2) .nil))) (.cons (.bin .mul (.idx (.var 0) (.con (.int 2))) (.var 1)) .nil))) (.cons (.ret (.ite (.cmp .eq (.idx (.var 0) (.con (.int 0))) (.con (.str "same"))) (.cmp .eq (.var 3) (.var 4)) (.cmp .ge (.var 3) (.var 4)))) .nil))⟩
/-- _law_is_table _law_book_here _law_thing _law_one _law_row -/
def F63 : Fn := ⟨2, 4, (.cons (.ife (.or (.not (.isi (.var 1) .tuple)) (.or (.cmp .ne (.b1 .len (.var 1)) (.con (.int 2))) (.not (.call 61 "_law_whole" (.cons (.idx (.var 1) (.con (.int 0))) (.cons (.con (.int 1)) .nil)))))) (.cons (.ret (.con (.bl false))) .nil) .nil) (.cons (.ife (.or (.not (.isi (.idx (.var 1) (.con (.int 1))) .tuple)) (.or (.cmp .ne (.b1 .len (.idx (.var 1) (.con (.int 1)))) (.call 18 "_law_size" (.cons (.idx (.var 0) (.con (.int 0))) .nil))) (.cmp .ne (.idx (.idx (.var 1) (.con (.int 1))) (.con (.int 0))) (.con (.int 0))))) (.cons (.ret (.con (.bl false))) .nil) .nil) (.cons (.ife (.cmp .ne (.comp (.var 2) (.nm 2) [2] (.seq (.idx (.var 1) (.con (.int 1)))) (.one (.not (.call 61 "_law_whole" (.cons (.var 2) (.cons (.con .non) .nil)))))) (.lst .nil)) (.cons (.ret (.con (.bl false))) .nil) .nil) (.cons (.ret (.cmp .eq (.comp (.var 3) (.nm 3) [3] (.seq (.call 43 "_law_rows" (.cons (.var 0) .nil))) (.one (.not (.call 62 "_law_kept" (.cons (.var 3) (.cons (.idx (.var 1) (.con (.int 0))) (.cons (.idx (.var 1) (.con (.int 1))) .nil))))))) (.lst .nil))) .nil))))⟩
/-- _law_fraction _law_top _law_low _law_one _law_other -/
def F64 : Fn := ⟨2, 4, (.cons (.par [(false, 2), (false, 3)] (.cons (.b2 .max (.var 0) (.bin .sub (.con (.int 0)) (.var 0))) (.cons (.var 1) .nil))) (.cons (.whl (.cmp .gt (.var 3) (.con (.int 0))) (.cons (.par [(false, 2), (false, 3)] (.cons (.var 3) (.cons (.bin .mod (.b1 .int (.var 2)) (.var 3)) .nil))) .nil)) (.cons (.ret (.tup (.cons (.bin .fdiv (.var 0) (.var 2)) (.cons (.bin .fdiv (.var 1) (.var 2)) .nil)))) .nil)))⟩
/-- _law_told _law_call _law_caught e -/
def F65 : Fn := ⟨1, 3, (.cons (.told [1] none [(0, "StayError")] 2 1) (.cons (.ife (.isx (.var 1) 1 "BadBook") (.cons (.ret (.lst (.cons (.con (.str "book")) (.cons (.fld (.var 1) "place") .nil)))) .nil) .nil) (.cons (.ret (.ite (.isx (.var 1) 4 "BadNumber") (.lst (.cons (.con (.str "number")) (.cons (.fld (.var 1) "value") .nil))) (.lst (.cons (.con (.str "other")) .nil)))) .nil)))⟩
/-- _law_things _law_draw _law_numbers_here _law_some _law_times_so _law_found _law_more _law_lap _law_unit _law_at _law_number -/
def F66 : Fn := ⟨2, 10, (.cons (.asg (.tp (.cons (.nm 7) (.cons (.nm 8) .nil))) (.tup (.cons (.bin .add (.con (.int 1)) (.call 17 "_law_next" (.cons (.var 0) (.cons (.con (.int 6)) .nil)))) (.cons (.call 17 "_law_next" (.cons (.var 0) (.cons (.b1 .len (.var 1)) .nil))) .nil)))) (.cons (.asg (.nm 2) (.lst (.cons (.con .non) (.cons (.con (.bl true)) (.cons (.con (.int 0)) (.cons (.neg (.con (.int 1))) (.cons (.con (.int 5)) (.cons (.tup .nil) (.cons (.lst .nil) (.cons (.con (.str "a")) (.cons (.bin .pow (.con (.int 10)) (.con (.int 40))) .nil))))))))))) (.cons (.asg (.nm 3) (.b1 .tuple (.comp (.bin .mul (.var 7) (.var 9)) (.nm 9) [9] (.seq (.var 1)) .yes))) (.cons (.own 4 (.lst (.cons (.tup (.cons (.con (.int 1)) (.cons (.var 1) .nil))) (.cons (.tup (.cons (.var 7) (.cons (.var 3) .nil))) (.cons (.tup (.cons (.var 7) (.cons (.var 1) .nil))) (.cons (.tup (.cons (.con (.int 0)) (.cons (.var 1) .nil))) (.cons (.tup (.cons (.neg (.con (.int 1))) (.cons (.var 1) .nil))) (.cons (.lst (.cons (.con (.int 1)) (.cons (.var 1) .nil))) .nil)))))))) (.cons (.appm 4 (.tup (.cons (.con (.int 1)) (.cons (.b1 .list (.var 1)) .nil)))) (.cons (.for_ (.nm 5) (.seq (.tup (.cons (.neg (.con (.int 1))) (.cons (.con (.int 1)) (.cons (.con (.int 7)) .nil))))) (.cons (.appm 4 (.tup (.cons (.var 7) (.cons (.bin .add (.bin .add (.slc (.var 3) .none (.some (.var 8))) (.tup (.cons (.bin .add (.idx (.var 3) (.var 8)) (.var 5)) .nil))) (.slc (.var 3) (.some (.bin .add (.var 8) (.con (.int 1)))) .none)) .nil)))) .nil)) (.frz 4 (.cons (.own 4 (.bin .add (.var 4) (.lst (.cons (.tup (.cons (.con (.int 1)) (.cons (.slc (.var 1) .none (.some (.neg (.con (.int 1))))) .nil))) (.cons (.tup (.cons (.con (.int 1)) (.cons (.bin .add (.var 1) (.tup (.cons (.con (.int 99)) .nil))) .nil))) (.cons (.tup (.cons (.con (.int 1)) (.cons (.rev (.var 1)) .nil))) (.cons (.tup (.cons (.con (.int 1)) (.cons (.bin .mul (.tup (.cons (.con (.int 0)) .nil)) (.b1 .len (.var 1))) .nil))) .nil))))))) (.frz 4 (.cons (.own 4 (.bin .add (.var 4) (.lst (.cons (.con .non) (.cons (.tup .nil) (.cons (.con (.str "ab")) .nil)))))) (.cons (.for_ (.nm 6) (.rng1 (.con (.int 4))) (.cons (.appm 4 (.call 45 "_law_spoilt" (.cons (.var 0) (.cons (.tup (.cons (.var 7) (.cons (.var 3) .nil))) (.cons (.var 2) .nil))))) .nil)) (.frz 4 (.cons (.ret (.var 4)) .nil)))))))))))))⟩
/-- law _law_script _law_draw _law_turn _law_thing _law_told_here _law_odd _law_book_here _law_numbers_here _law_other _law_far _law_bare _law_kept_here _law_keep_so _law_due _law_lap _law_unit _law_terms_here _law_one -/
def F67 : Fn := ⟨1, 18, (.cons (.asg (.nm 1) (.call 16 "_law_begun" (.cons (.var 0) .nil))) (.cons (.for_ (.nm 2) (.rng1 (.bin .add (.con (.int 3)) (.bin .fdiv (.b2 .min (.con (.int 60)) (.b1 .len (.var 0))) (.con (.int 6))))) (.cons (.asg (.tp (.cons (.nm 6) (.cons (.nm 7) .nil))) (.call 42 "_law_book" (.cons (.var 1) (.cons (.con (.int 5)) .nil)))) (.cons (.asg (.tp (.cons (.nm 8) (.cons (.nm 9) .nil))) (.call 42 "_law_book" (.cons (.var 1) (.cons (.con (.int 3)) .nil)))) (.cons (.par [(false, 10), (false, 11)] (.cons (.tup (.cons (.idx (.var 6) (.con (.int 0))) (.cons (.tup .nil) .nil))) (.cons (.b1 .repr (.lst (.cons (.var 6) (.cons (.var 7) .nil)))) .nil))) (.cons (.for_ (.nm 3) (.seq (.call 66 "_law_things" (.cons (.var 1) (.cons (.var 7) .nil)))) (.cons (.asg (.nm 12) (.b1 .repr (.var 3))) (.cons (.asg (.nm 13) (.lst (.cons (.call 63 "_law_is_table" (.cons (.var 10) (.cons (.var 3) .nil))) (.cons (.call 63 "_law_is_table" (.cons (.var 6) (.cons (.var 3) .nil))) (.cons (.call 63 "_law_is_table" (.cons (.var 8) (.cons (.var 3) .nil))) .nil))))) (.cons (.for_ (.nm 14) (.rng1 (.con (.int 2))) (.cons (.ife (.cmp .ne (.b1 .repr (.lst (.cons (.call 55 "are_worths" (.cons (.idx (.var 6) (.con (.int 0))) (.cons (.var 3) .nil))) (.cons (.call 57 "keeps" (.cons (.var 6) (.cons (.var 3) .nil))) (.cons (.call 57 "keeps" (.cons (.var 8) (.cons (.var 3) .nil))) .nil))))) (.b1 .repr (.var 13))) (.cons (.ret (.con (.bl false))) .nil) .nil) .nil)) (.cons (.ife (.cmp .ne (.b1 .repr (.var 3)) (.var 12)) (.cons (.ret (.con (.bl false))) .nil) .nil) .nil))))) (.cons (.ife (.or (.cmp .isnot (.call 57 "keeps" (.cons (.var 6) (.cons (.tup (.cons (.con (.int 1)) (.cons (.var 7) .nil))) .nil))) (.con (.bl true))) (.cmp .isnot (.call 57 "keeps" (.cons (.var 6) (.cons (.tup (.cons (.con (.int 3)) (.cons (.b1 .tuple (.comp (.bin .mul (.con (.int 3)) (.var 17)) (.nm 17) [17] (.seq (.var 7)) .yes)) .nil))) .nil))) (.con (.bl true)))) (.cons (.ret (.con (.bl false))) .nil) .nil) (.cons (.par [(false, 15), (false, 16)] (.cons (.bin .add (.con (.int 1)) (.call 17 "_law_next" (.cons (.var 1) (.cons (.con (.int 12)) .nil)))) (.cons (.call 40 "_law_terms" (.cons (.var 1) (.cons (.idx (.var 6) (.con (.int 0))) (.cons (.con (.int 4)) .nil)))) .nil))) (.cons (.asg (.nm 4) (.lst (.cons (.call 60 "value_of" (.cons (.var 16) (.cons (.tup (.cons (.var 15) (.cons (.var 7) .nil))) .nil))) (.cons (.call 60 "value_of" (.cons (.tup .nil) (.cons (.tup (.cons (.var 15) (.cons (.var 7) .nil))) .nil))) .nil)))) (.cons (.ife (.cmp .ne (.b1 .repr (.var 4)) (.b1 .repr (.lst (.cons (.call 64 "_law_fraction" (.cons (.call 39 "_law_reckon" (.cons (.var 16) (.cons (.var 7) .nil))) (.cons (.var 15) .nil))) (.cons (.tup (.cons (.con (.int 0)) (.cons (.con (.int 1)) .nil))) .nil))))) (.cons (.ret (.con (.bl false))) .nil) .nil) (.cons (.asg (.nm 5) (.call 37 "_law_among" (.cons (.var 1) (.cons (.lst (.cons (.con .non) (.cons (.con (.bl true)) (.cons (.con (.int 1)) (.cons (.con (.int 5)) (.cons (.con (.str "3")) (.cons (.tup (.cons (.con (.int 3)) .nil)) (.cons (.lst .nil) .nil)))))))) .nil)))) (.cons (.asg (.nm 4) (.lst (.cons (.lamc 65 "_law_told" (.call 55 "are_worths" (.cons (.var 5) (.cons (.con .non) .nil)))) (.cons (.lamc 65 "_law_told" (.call 57 "keeps" (.cons (.tup (.cons (.var 5) (.cons (.tup .nil) .nil))) (.cons (.con .non) .nil)))) .nil)))) (.cons (.ife (.or (.cmp .ne (.b1 .repr (.var 4)) (.b1 .repr (.lst (.cons (.lst (.cons (.con (.str "number")) (.cons (.var 5) .nil))) (.cons (.lst (.cons (.con (.str "book")) (.cons (.tup (.cons (.con (.str "many")) .nil)) .nil))) .nil))))) (.cmp .ne (.b1 .repr (.lst (.cons (.var 6) (.cons (.var 7) .nil)))) (.var 11))) (.cons (.ret (.con (.bl false))) .nil) .nil) .nil)))))))))))) (.cons (.ret (.cmp .eq (.call 60 "value_of" (.cons (.tup (.cons (.tup (.cons (.con (.int 1)) (.cons (.neg (.con (.int 2))) .nil))) (.cons (.tup (.cons (.con (.int 3)) (.cons (.con (.int 1)) .nil))) .nil))) (.cons (.tup (.cons (.con (.int 4)) (.cons (.tup (.cons (.con (.int 0)) (.cons (.con (.int 3)) (.cons (.con (.int 3)) (.cons (.con (.int 4)) .nil))))) .nil))) .nil))) (.tup (.cons (.neg (.con (.int 1))) (.cons (.con (.int 2)) .nil))))) .nil)))⟩
/-- need_sum many thing -/
def F68 : Fn := ⟨2, 2, (.cons (.ife (.not (.call 29 "is_sum_of" (.cons (.var 0) (.cons (.var 1) .nil)))) (.cons (.rais 3 "BadSum" (.var 1)) .nil) .nil) (.cons (.ret (.var 1)) .nil))⟩
/-- form_of many some found group factor -/
def F69 : Fn := ⟨2, 5, (.cons (.own 2 (.bin .mul (.lst (.cons (.con (.int 0)) .nil)) (.call 4 "all_of" (.cons (.var 0) .nil)))) (.cons (.for_ (.tp (.cons (.nm 3) (.cons (.nm 4) .nil))) (.seq (.var 1)) (.cons (.setm 2 (.bin .sub (.var 3) (.con (.int 1))) (.var 4)) .nil)) (.frz 2 (.cons (.ret (.var 2)) .nil))))⟩
/-- is_weights_form rows thing row number -/
def F70 : Fn := ⟨2, 4, (.cons (.ife (.or (.not (.isi (.var 1) .tuple)) (.or (.cmp .ne (.b1 .len (.var 1)) (.con (.int 2))) (.not (.call 0 "is_whole" (.cons (.idx (.var 1) (.con (.int 0))) (.cons (.con (.int 1)) (.cons (.con .non) .nil))))))) (.cons (.ret (.con (.bl false))) .nil) .nil) (.cons (.ife (.or (.not (.isi (.idx (.var 1) (.con (.int 1))) .tuple)) (.cmp .ne (.b1 .len (.idx (.var 1) (.con (.int 1)))) (.b1 .len (.var 0)))) (.cons (.ret (.con (.bl false))) .nil) .nil) (.cons (.ret (.b1 .all (.comp (.call 0 "is_whole" (.cons (.var 3) (.cons (.ite (.cmp .eq (.idx (.var 2) (.con (.int 0))) (.glo "SAME" (.str "same"))) (.con .non) (.con (.int 0))) (.cons (.con .non) .nil)))) (.tp (.cons (.nm 2) (.cons (.nm 3) .nil))) [2, 3] (.zip (.var 0) (.idx (.var 1) (.con (.int 1)))) .yes))) .nil)))⟩
/-- added many rows numbers found row number group factor -/
def F71 : Fn := ⟨3, 8, (.cons (.own 3 (.bin .mul (.lst (.cons (.con (.int 0)) .nil)) (.call 4 "all_of" (.cons (.var 0) .nil)))) (.cons (.for_ (.tp (.cons (.nm 4) (.cons (.nm 5) .nil))) (.zip (.var 1) (.var 2)) (.cons (.for_ (.tp (.cons (.nm 6) (.cons (.nm 7) .nil))) (.seq (.idx (.var 4) (.con (.int 1)))) (.cons (.augm 3 .add (.bin .sub (.var 6) (.con (.int 1))) (.bin .mul (.var 7) (.var 5))) .nil)) .nil)) (.frz 3 (.cons (.ret (.var 3)) .nil))))⟩
/-- total_in book form thing rows unit numbers factor row number -/
def F72 : Fn := ⟨3, 9, (.cons (.asg (.nm 3) (.call 35 "rows_in" (.cons (.var 0) .nil))) (.cons (.ife (.not (.call 70 "is_weights_form" (.cons (.var 3) (.cons (.var 2) .nil)))) (.cons (.ret (.con .non)) .nil) .nil) (.cons (.asg (.tp (.cons (.nm 4) (.cons (.nm 5) .nil))) (.var 2)) (.cons (.ife (.cmp .ne (.call 71 "added" (.cons (.idx (.var 0) (.con (.int 0))) (.cons (.var 3) (.cons (.var 5) .nil)))) (.comp (.bin .mul (.var 4) (.var 6)) (.nm 6) [6] (.seq (.var 1)) .yes)) (.cons (.ret (.con .non)) .nil) .nil) (.cons (.ret (.call 59 "fraction" (.cons (.b1 .sum (.comp (.bin .mul (.idx (.var 7) (.con (.int 2))) (.var 8)) (.tp (.cons (.nm 7) (.cons (.nm 8) .nil))) [7, 8] (.zip (.var 3) (.var 5)) .yes)) (.cons (.var 4) .nil)))) .nil)))))⟩
/-- total_of book some thing -/
def F73 : Fn := ⟨3, 3, (.cons (.exp (.call 68 "need_sum" (.cons (.idx (.call 33 "need_book" (.cons (.var 0) .nil)) (.con (.int 0))) (.cons (.var 1) .nil)))) (.cons (.ret (.call 72 "total_in" (.cons (.var 0) (.cons (.call 69 "form_of" (.cons (.idx (.var 0) (.con (.int 0))) (.cons (.var 1) .nil))) (.cons (.var 2) .nil))))) .nil))⟩
/-- need_small form factor -/
def F74 : Fn := ⟨1, 2, (.cons (.ife (.b1 .any (.comp (.cmp .gt (.b1 .abs (.var 1)) (.glo "MOST_FACTOR" (.int 1000))) (.nm 1) [1] (.seq (.var 0)) .yes)) (.cons (.rais 11 "TooMany" (.glo "MOST_FACTOR" (.int 1000))) .nil) .nil) (.cons (.ret (.call 7 "sum_of" (.cons (.var 0) .nil))) .nil))⟩
/-- subtract one other times mine yours factor far -/
def F75 : Fn := ⟨3, 7, (.cons (.exp (.call 68 "need_sum" (.cons (.glo "MOST" (.int 4)) (.cons (.var 0) .nil)))) (.cons (.exp (.call 68 "need_sum" (.cons (.glo "MOST" (.int 4)) (.cons (.var 1) .nil)))) (.cons (.ife (.not (.call 0 "is_whole" (.cons (.var 2) (.cons (.bin .sub (.con (.int 0)) (.glo "MOST_FACTOR" (.int 1000))) (.cons (.glo "MOST_FACTOR" (.int 1000)) .nil))))) (.cons (.rais 4 "BadNumber" (.var 2)) .nil) .nil) (.cons (.par [(false, 3), (false, 4)] (.cons (.call 69 "form_of" (.cons (.glo "MOST" (.int 4)) (.cons (.var 0) .nil))) (.cons (.call 69 "form_of" (.cons (.glo "MOST" (.int 4)) (.cons (.var 1) .nil))) .nil))) (.cons (.ret (.call 74 "need_small" (.cons (.comp (.bin .sub (.var 5) (.bin .mul (.var 2) (.var 6))) (.tp (.cons (.nm 5) (.cons (.nm 6) .nil))) [5, 6] (.zip (.var 3) (.var 4)) .yes) .nil))) .nil)))))⟩
/-- _law_total _law_book_here _law_form_here _law_thing _law_rows_here _law_here _law_total_here _law_row _law_number _law_one _law_more _law_factor -/
def F76 : Fn := ⟨3, 11, (.cons (.asg (.nm 3) (.call 43 "_law_rows" (.cons (.var 0) .nil))) (.cons (.ife (.or (.not (.isi (.var 2) .tuple)) (.or (.cmp .ne (.b1 .len (.var 2)) (.con (.int 2))) (.not (.call 61 "_law_whole" (.cons (.idx (.var 2) (.con (.int 0))) (.cons (.con (.int 1)) .nil)))))) (.cons (.ret (.con .non)) .nil) .nil) (.cons (.ife (.or (.not (.isi (.idx (.var 2) (.con (.int 1))) .tuple)) (.cmp .ne (.b1 .len (.idx (.var 2) (.con (.int 1)))) (.b1 .len (.var 3)))) (.cons (.ret (.con .non)) .nil) .nil) (.cons (.par [(false, 4), (false, 5)] (.cons (.bin .mul (.lst (.cons (.con (.int 0)) .nil)) (.b1 .len (.var 1))) (.cons (.con (.int 0)) .nil))) (.cons (.for_ (.tp (.cons (.nm 6) (.cons (.nm 7) .nil))) (.zip (.var 3) (.idx (.var 2) (.con (.int 1)))) (.cons (.ife (.not (.call 61 "_law_whole" (.cons (.var 7) (.cons (.ite (.cmp .eq (.idx (.var 6) (.con (.int 0))) (.con (.str "same"))) (.con .non) (.con (.int 0))) .nil)))) (.cons (.ret (.con .non)) .nil) .nil) (.cons (.asg (.nm 4) (.comp (.bin .add (.var 8) (.bin .mul (.var 7) (.var 9))) (.tp (.cons (.nm 8) (.cons (.nm 9) .nil))) [8, 9] (.zip (.var 4) (.call 21 "_law_form" (.cons (.idx (.var 0) (.con (.int 0))) (.cons (.idx (.var 6) (.con (.int 1))) .nil)))) .yes)) (.cons (.asg (.nm 5) (.bin .add (.var 5) (.bin .mul (.var 7) (.idx (.var 6) (.con (.int 2)))))) .nil)))) (.cons (.ret (.ite (.cmp .eq (.var 4) (.comp (.bin .mul (.idx (.var 2) (.con (.int 0))) (.var 10)) (.nm 10) [10] (.seq (.var 1)) .yes)) (.call 64 "_law_fraction" (.cons (.var 5) (.cons (.idx (.var 2) (.con (.int 0))) .nil))) (.con .non))) .nil))))))⟩
/-- _law_told _law_call e _law_found _law_caught -/
def F77 : Fn := ⟨1, 4, (.cons (.told [2, 3] (some 2) [(0, "StayError"), (11, "TooMany")] 1 3) (.cons (.ife (.cmp .is (.var 3) (.con .non)) (.cons (.ret (.var 2)) .nil) .nil) (.cons (.ife (.isx (.var 3) 11 "TooMany") (.cons (.ret (.lst (.cons (.con (.str "most")) (.cons (.fld (.var 3) "most") .nil)))) .nil) .nil) (.cons (.ife (.isx (.var 3) 1 "BadBook") (.cons (.ret (.lst (.cons (.con (.str "book")) (.cons (.fld (.var 3) "place") .nil)))) .nil) .nil) (.cons (.ife (.isx (.var 3) 3 "BadSum") (.cons (.ret (.lst (.cons (.con (.str "sum")) (.cons (.fld (.var 3) "value") .nil)))) .nil) .nil) (.cons (.ret (.ite (.isx (.var 3) 4 "BadNumber") (.lst (.cons (.con (.str "number")) (.cons (.fld (.var 3) "value") .nil))) (.lst (.cons (.con (.str "other")) .nil)))) .nil))))))⟩
/-- _law_given _law_draw _law_book_here _law_rows_here _law_row _law_here _law_unit _law_numbers_here _law_number _law_one _law_more _law_k -/
def F78 : Fn := ⟨2, 11, (.cons (.asg (.nm 2) (.call 36 "rows_of" (.cons (.var 1) .nil))) (.cons (.par [(false, 5), (true, 6)] (.cons (.idx (.lst (.cons (.con (.int 1)) (.cons (.con (.int 1)) (.cons (.con (.int 2)) (.cons (.con (.int 3)) .nil))))) (.call 17 "_law_next" (.cons (.var 0) (.cons (.con (.int 4)) .nil)))) (.cons (.lst .nil) .nil))) (.cons (.for_ (.nm 3) (.seq (.var 2)) (.cons (.asg (.nm 7) (.idx (.lst (.cons (.con (.int 0)) (.cons (.con (.int 0)) (.cons (.con (.int 0)) (.cons (.con (.int 1)) (.cons (.con (.int 2)) (.cons (.con (.int 5)) .nil))))))) (.call 17 "_law_next" (.cons (.var 0) (.cons (.con (.int 6)) .nil))))) (.cons (.appm 6 (.ite (.and (.cmp .eq (.idx (.var 3) (.con (.int 0))) (.con (.str "same"))) (.cmp .eq (.call 17 "_law_next" (.cons (.var 0) (.cons (.con (.int 2)) .nil))) (.con (.int 0)))) (.bin .sub (.con (.int 0)) (.var 7)) (.var 7))) .nil))) (.cons (.asg (.nm 4) (.bin .mul (.lst (.cons (.con (.int 0)) .nil)) (.bin .sub (.call 18 "_law_size" (.cons (.idx (.var 1) (.con (.int 0))) .nil)) (.con (.int 1))))) (.frz 6 (.cons (.for_ (.tp (.cons (.nm 3) (.cons (.nm 7) .nil))) (.zip (.var 2) (.var 6)) (.cons (.asg (.nm 4) (.comp (.bin .add (.var 8) (.bin .mul (.var 7) (.var 9))) (.tp (.cons (.nm 8) (.cons (.nm 9) .nil))) [8, 9] (.zip (.var 4) (.call 21 "_law_form" (.cons (.idx (.var 1) (.con (.int 0))) (.cons (.idx (.var 3) (.con (.int 1))) .nil)))) .yes)) .nil)) (.cons (.ife (.cmp .ne (.comp (.var 8) (.nm 8) [8] (.seq (.var 4)) (.one (.or (.cmp .ne (.bin .mod (.b1 .int (.var 8)) (.var 5)) (.con (.int 0))) (.not (.chain .lt .lt (.neg (.con (.int 1001))) (.bin .fdiv (.var 8) (.var 5)) (.con (.int 1001))))))) (.lst .nil)) (.cons (.ret (.tup (.cons (.tup (.cons (.var 5) (.cons (.b1 .tuple (.var 6)) .nil))) (.cons (.tup .nil) .nil)))) .nil) .nil) (.cons (.ret (.tup (.cons (.tup (.cons (.var 5) (.cons (.b1 .tuple (.var 6)) .nil))) (.cons (.b1 .tuple (.comp (.tup (.cons (.bin .add (.var 10) (.con (.int 1))) (.cons (.bin .fdiv (.var 8) (.var 5)) .nil))) (.tp (.cons (.nm 10) (.cons (.nm 8) .nil))) [10, 8] (.enum (.var 4)) (.one (.cmp .ne (.var 8) (.con (.int 0)))))) .nil)))) .nil))))))))⟩
/-- _law_difference _law_one _law_other _law_many _law_here _law_mine _law_yours _law_factor _law_k -/
def F79 : Fn := ⟨3, 8, (.cons (.asg (.nm 3) (.comp (.bin .sub (.var 4) (.bin .mul (.var 2) (.var 5))) (.tp (.cons (.nm 4) (.cons (.nm 5) .nil))) [4, 5] (.zip (.call 21 "_law_form" (.cons (.con (.int 4)) (.cons (.var 0) .nil))) (.call 21 "_law_form" (.cons (.con (.int 4)) (.cons (.var 1) .nil)))) .yes)) (.cons (.ife (.cmp .ne (.comp (.var 6) (.nm 6) [6] (.seq (.var 3)) (.one (.not (.chain .lt .lt (.neg (.con (.int 1001))) (.var 6) (.con (.int 1001)))))) (.lst .nil)) (.cons (.ret (.lst (.cons (.con (.str "most")) (.cons (.con (.int 1000)) .nil)))) .nil) .nil) (.cons (.ret (.b1 .tuple (.comp (.tup (.cons (.bin .add (.var 7) (.con (.int 1))) (.cons (.var 6) .nil))) (.tp (.cons (.nm 7) (.cons (.nm 6) .nil))) [7, 6] (.enum (.var 3)) (.one (.cmp .ne (.var 6) (.con (.int 0))))))) .nil)))⟩
/-- law _law_script _law_draw _law_some _law_turn _law_book_here _law_things _law_thing _law_many _law_odd _law_told_here _law_numbers_here _law_weights _law_terms_here _law_one _law_other _law_lap _law_due _law_kept -/
def F80 : Fn := ⟨1, 18, (.cons (.asg (.nm 1) (.call 16 "_law_begun" (.cons (.var 0) .nil))) (.cons (.asg (.nm 2) (.lst (.cons (.con .non) (.cons (.con (.bl true)) (.cons (.con (.int 0)) (.cons (.con (.int 1)) (.cons (.neg (.con (.int 1))) (.cons (.con (.int 2)) (.cons (.tup .nil) (.cons (.lst .nil) (.cons (.con (.str "a")) (.cons (.bin .pow (.con (.int 10)) (.con (.int 40))) .nil)))))))))))) (.cons (.for_ (.nm 3) (.rng1 (.bin .add (.con (.int 3)) (.bin .fdiv (.b2 .min (.con (.int 60)) (.b1 .len (.var 0))) (.con (.int 6))))) (.cons (.asg (.tp (.cons (.nm 4) (.cons (.nm 10) .nil))) (.call 42 "_law_book" (.cons (.var 1) (.cons (.con (.int 5)) .nil)))) (.cons (.asg (.tp (.cons (.nm 11) (.cons (.nm 12) .nil))) (.call 78 "_law_given" (.cons (.var 1) (.cons (.var 4) .nil)))) (.cons (.asg (.nm 5) (.lst (.cons (.var 11) (.cons (.tup (.cons (.bin .mul (.idx (.var 11) (.con (.int 0))) (.con (.int 2))) (.cons (.b1 .tuple (.comp (.bin .mul (.con (.int 2)) (.var 13)) (.nm 13) [13] (.seq (.idx (.var 11) (.con (.int 1)))) .yes)) .nil))) (.cons (.tup (.cons (.idx (.var 11) (.con (.int 0))) (.cons (.b1 .list (.idx (.var 11) (.con (.int 1)))) .nil))) .nil))))) (.cons (.asg (.nm 5) (.bin .add (.var 5) (.lst (.cons (.tup (.cons (.idx (.var 11) (.con (.int 0))) (.cons (.slc (.idx (.var 11) (.con (.int 1))) (.some (.con (.int 1))) .none) .nil))) (.cons (.tup (.cons (.idx (.var 11) (.con (.int 0))) (.cons (.bin .add (.idx (.var 11) (.con (.int 1))) (.tup (.cons (.con (.int 0)) .nil))) .nil))) (.cons (.tup (.cons (.con (.int 0)) (.cons (.idx (.var 11) (.con (.int 1))) .nil))) (.cons (.con .non) (.cons (.tup .nil) .nil)))))))) (.cons (.asg (.nm 5) (.bin .add (.var 5) (.comp (.call 45 "_law_spoilt" (.cons (.var 1) (.cons (.var 11) (.cons (.var 2) .nil)))) (.nm 15) [15] (.rng1 (.con (.int 5))) .yes))) (.cons (.for_ (.nm 6) (.seq (.var 5)) (.cons (.for_ (.nm 13) (.seq (.tup (.cons (.var 12) (.cons (.tup .nil) (.cons (.tup (.cons (.tup (.cons (.con (.int 1)) (.cons (.con (.int 1)) .nil))) .nil)) .nil))))) (.cons (.par [(false, 16), (false, 17)] (.cons (.call 76 "_law_total" (.cons (.var 4) (.cons (.call 21 "_law_form" (.cons (.idx (.var 4) (.con (.int 0))) (.cons (.var 13) .nil))) (.cons (.var 6) .nil)))) (.cons (.b1 .repr (.lst (.cons (.var 4) (.cons (.var 6) .nil)))) .nil))) (.cons (.ife (.cmp .ne (.b1 .repr (.lst (.cons (.call 73 "total_of" (.cons (.var 4) (.cons (.var 13) (.cons (.var 6) .nil)))) (.cons (.call 73 "total_of" (.cons (.var 4) (.cons (.var 13) (.cons (.var 6) .nil)))) .nil)))) (.b1 .repr (.lst (.cons (.var 16) (.cons (.var 16) .nil))))) (.cons (.ret (.con (.bl false))) .nil) .nil) (.cons (.ife (.cmp .ne (.b1 .repr (.lst (.cons (.var 4) (.cons (.var 6) .nil)))) (.var 17)) (.cons (.ret (.con (.bl false))) .nil) .nil) .nil)))) .nil)) (.cons (.asg (.tp (.cons (.nm 13) (.cons (.nm 14) .nil))) (.tup (.cons (.call 40 "_law_terms" (.cons (.var 1) (.cons (.con (.int 4)) (.cons (.con (.int 6)) .nil)))) (.cons (.call 40 "_law_terms" (.cons (.var 1) (.cons (.con (.int 4)) (.cons (.con (.int 6)) .nil)))) .nil)))) (.cons (.asg (.nm 7) (.idx (.lst (.cons (.con (.int 1)) (.cons (.con (.int 1)) (.cons (.neg (.con (.int 1))) (.cons (.con (.int 2)) (.cons (.con (.int 1000)) (.cons (.neg (.con (.int 1000))) (.cons (.con (.int 0)) .nil)))))))) (.call 17 "_law_next" (.cons (.var 1) (.cons (.con (.int 7)) .nil))))) (.cons (.ife (.cmp .ne (.b1 .repr (.lamc 77 "_law_told" (.callk 75 "subtract" (.cons (.var 13) (.cons (.var 14) .nil)) (.var 7)))) (.b1 .repr (.call 79 "_law_difference" (.cons (.var 13) (.cons (.var 14) (.cons (.var 7) .nil)))))) (.cons (.ret (.con (.bl false))) .nil) .nil) (.cons (.ife (.cmp .ne (.b1 .repr (.lamc 77 "_law_told" (.calld 75 "subtract" (.cons (.var 13) (.cons (.var 14) .nil))))) (.b1 .repr (.call 79 "_law_difference" (.cons (.var 13) (.cons (.var 14) (.cons (.con (.int 1)) .nil)))))) (.cons (.ret (.con (.bl false))) .nil) .nil) (.cons (.asg (.nm 8) (.call 37 "_law_among" (.cons (.var 1) (.cons (.lst (.cons (.con .non) (.cons (.con (.bl true)) (.cons (.con (.int 1001)) (.cons (.neg (.con (.int 1001))) (.cons (.con (.str "1")) (.cons (.tup (.cons (.con (.int 1)) .nil)) (.cons (.lst .nil) .nil)))))))) .nil)))) (.cons (.own 9 (.lst (.cons (.lamc 77 "_law_told" (.callk 75 "subtract" (.cons (.var 8) (.cons (.var 8) .nil)) (.var 8))) (.cons (.lamc 77 "_law_told" (.callk 75 "subtract" (.cons (.tup .nil) (.cons (.var 8) .nil)) (.var 8))) .nil)))) (.frz 9 (.cons (.own 9 (.bin .add (.var 9) (.lst (.cons (.lamc 77 "_law_told" (.callk 75 "subtract" (.cons (.tup .nil) (.cons (.tup .nil) .nil)) (.var 8))) (.cons (.lamc 77 "_law_told" (.call 73 "total_of" (.cons (.var 4) (.cons (.var 8) (.cons (.var 8) .nil))))) .nil))))) (.cons (.appm 9 (.lamc 77 "_law_told" (.call 73 "total_of" (.cons (.tup (.cons (.con (.int 1)) (.cons (.var 8) .nil))) (.cons (.var 8) (.cons (.var 8) .nil)))))) (.frz 9 (.cons (.ife (.cmp .ne (.b1 .repr (.var 9)) (.b1 .repr (.lst (.cons (.lst (.cons (.con (.str "sum")) (.cons (.var 8) .nil))) (.cons (.lst (.cons (.con (.str "sum")) (.cons (.var 8) .nil))) (.cons (.lst (.cons (.con (.str "number")) (.cons (.var 8) .nil))) (.cons (.lst (.cons (.con (.str "sum")) (.cons (.var 8) .nil))) (.cons (.lst (.cons (.con (.str "book")) (.cons (.tup (.cons (.con (.str "many")) .nil)) .nil))) .nil)))))))) (.cons (.ret (.con (.bl false))) .nil) .nil) .nil)))))))))))))))))) (.cons (.ife (.cmp .isnot (.call 73 "total_of" (.cons (.tup (.cons (.con (.int 2)) (.cons (.tup (.cons (.tup (.cons (.con (.str "least")) (.cons (.tup (.cons (.tup (.cons (.con (.int 1)) (.cons (.con (.int 1)) .nil))) .nil)) (.cons (.con (.int 2)) .nil)))) .nil)) .nil))) (.cons (.tup .nil) (.cons (.tup (.cons (.con (.int 1)) (.cons (.tup (.cons (.con (.int 1)) (.cons (.neg (.con (.int 1))) (.cons (.con (.int 0)) (.cons (.con (.int 0)) (.cons (.con (.int 0)) .nil)))))) .nil))) .nil)))) (.con .non)) (.cons (.ret (.con (.bl false))) .nil) .nil) (.cons (.asg (.nm 4) (.tup (.cons (.con (.int 2)) (.cons (.tup (.cons (.tup (.cons (.con (.str "same")) (.cons (.tup (.cons (.tup (.cons (.con (.int 1)) (.cons (.con (.int 1)) .nil))) (.cons (.tup (.cons (.con (.int 2)) (.cons (.neg (.con (.int 1))) .nil))) .nil))) (.cons (.con (.int 3)) .nil)))) .nil)) .nil)))) (.cons (.ret (.cmp .eq (.call 73 "total_of" (.cons (.var 4) (.cons (.tup (.cons (.tup (.cons (.con (.int 1)) (.cons (.neg (.con (.int 1))) .nil))) (.cons (.tup (.cons (.con (.int 2)) (.cons (.con (.int 1)) .nil))) .nil))) (.cons (.tup (.cons (.con (.int 1)) (.cons (.tup (.cons (.neg (.con (.int 1))) (.cons (.con (.int 0)) (.cons (.con (.int 0)) (.cons (.con (.int 0)) (.cons (.con (.int 0)) .nil)))))) .nil))) .nil)))) (.tup (.cons (.neg (.con (.int 3))) (.cons (.con (.int 1)) .nil))))) .nil))))))⟩
/-- begun columns gains goal signs lacks tall grid place sign row at column other -/
def F81 : Fn := ⟨4, 13, (.cons (.par [(false, 5), (true, 6)] (.cons (.b1 .len (.var 2)) (.cons (.lst .nil) .nil))) (.cons (.for_ (.tp (.cons (.nm 7) (.cons (.nm 8) .nil))) (.enum (.var 3)) (.cons (.asg (.nm 9) (.bin .add (.comp (.bin .mul (.var 8) (.idx (.var 11) (.var 7))) (.nm 11) [11] (.seq (.var 0)) .yes) (.comp (.b1 .int (.cmp .eq (.var 7) (.var 12))) (.nm 12) [12] (.rng1 (.var 5)) .yes))) (.cons (.appm 6 (.bin .add (.var 9) (.lst (.cons (.bin .mul (.var 8) (.idx (.var 2) (.var 7))) .nil)))) .nil))) (.cons (.asg (.nm 4) (.comp (.b1 .sum (.comp (.idx (.var 9) (.var 10)) (.nm 9) [9] (.mut 6) .yes)) (.nm 10) [10] (.rng1 (.b1 .len (.var 0))) .yes)) (.cons (.asg (.nm 4) (.bin .add (.bin .add (.var 4) (.bin .mul (.lst (.cons (.con (.int 0)) .nil)) (.var 5))) (.lst (.cons (.b1 .sum (.comp (.idx (.var 9) (.neg (.con (.int 1)))) (.nm 9) [9] (.mut 6) .yes)) .nil)))) (.frz 6 (.cons (.ret (.tup (.cons (.var 6) (.cons (.var 4) (.cons (.bin .add (.b1 .list (.var 1)) (.bin .mul (.lst (.cons (.con (.int 0)) .nil)) (.bin .add (.var 5) (.con (.int 1))))) (.cons (.comp (.bin .add (.b1 .len (.var 0)) (.var 7)) (.nm 7) [7] (.rng1 (.var 5)) .yes) (.cons (.con (.int 1)) .nil))))))) .nil))))))⟩
/-- swept row pivot at unit part other -/
def F82 : Fn := ⟨4, 6, (.cons (.ret (.comp (.bin .fdiv (.bin .sub (.bin .mul (.var 4) (.idx (.var 1) (.var 2))) (.bin .mul (.idx (.var 0) (.var 2)) (.var 5))) (.var 3)) (.tp (.cons (.nm 4) (.cons (.nm 5) .nil))) [4, 5] (.zip (.var 0) (.var 1)) .yes)) .nil)⟩
/-- exchanged work place at pivot rows later grid lacks gains bases unit other row -/
def F83 : Fn := ⟨3, 13, (.cons (.asg (.tp (.cons (.nm 6) (.cons (.nm 7) (.cons (.nm 8) (.cons (.nm 9) (.cons (.nm 10) .nil)))))) (.var 0)) (.cons (.asg (.nm 3) (.idx (.var 6) (.var 1))) (.cons (.asg (.nm 4) (.comp (.ite (.cmp .eq (.var 11) (.var 1)) (.var 12) (.call 82 "swept" (.cons (.var 12) (.cons (.var 3) (.cons (.var 2) (.cons (.var 10) .nil)))))) (.tp (.cons (.nm 11) (.cons (.nm 12) .nil))) [11, 12] (.enum (.var 6)) .yes)) (.cons (.asg (.nm 5) (.bin .add (.bin .add (.slc (.var 9) .none (.some (.var 1))) (.lst (.cons (.var 2) .nil))) (.slc (.var 9) (.some (.bin .add (.var 1) (.con (.int 1)))) .none))) (.cons (.ret (.tup (.cons (.var 4) (.cons (.call 82 "swept" (.cons (.var 7) (.cons (.var 3) (.cons (.var 2) (.cons (.var 10) .nil))))) (.cons (.call 82 "swept" (.cons (.var 8) (.cons (.var 3) (.cons (.var 2) (.cons (.var 10) .nil))))) (.cons (.var 5) (.cons (.idx (.var 3) (.var 2)) .nil))))))) .nil)))))⟩
/-- leaving work at grid bases best place row mine yours -/
def F84 : Fn := ⟨2, 9, (.cons (.par [(false, 2), (false, 3), (false, 4)] (.cons (.idx (.var 0) (.con (.int 0))) (.cons (.idx (.var 0) (.con (.int 3))) (.cons (.con .non) .nil)))) (.cons (.for_ (.tp (.cons (.nm 5) (.cons (.nm 6) .nil))) (.enum (.var 2)) (.cons (.ife (.cmp .gt (.idx (.var 6) (.var 1)) (.con (.int 0))) (.cons (.ife (.cmp .is (.var 4) (.con .non)) (.cons (.asg (.nm 4) (.var 5)) .nil) (.cons (.par [(false, 7), (false, 8)] (.cons (.bin .mul (.idx (.var 6) (.neg (.con (.int 1)))) (.idx (.idx (.var 2) (.var 4)) (.var 1))) (.cons (.bin .mul (.idx (.idx (.var 2) (.var 4)) (.neg (.con (.int 1)))) (.idx (.var 6) (.var 1))) .nil))) (.cons (.ife (.or (.cmp .lt (.var 7) (.var 8)) (.and (.cmp .eq (.var 7) (.var 8)) (.cmp .lt (.idx (.var 3) (.var 5)) (.idx (.var 3) (.var 4))))) (.cons (.asg (.nm 4) (.var 5)) .nil) .nil) .nil))) .nil) .nil) .nil)) (.cons (.ret (.var 4)) .nil)))⟩
/-- settled work wide some at -/
def F85 : Fn := ⟨2, 4, (.cons (.whl (.con (.bl true)) (.cons (.asg (.nm 2) (.comp (.var 3) (.nm 3) [3] (.rng1 (.var 1)) (.one (.cmp .gt (.idx (.idx (.var 0) (.con (.int 1))) (.var 3)) (.con (.int 0)))))) (.cons (.ife (.cmp .eq (.var 2) (.lst .nil)) (.cons (.ret (.var 0)) .nil) .nil) (.cons (.asg (.nm 0) (.call 83 "exchanged" (.cons (.var 0) (.cons (.call 84 "leaving" (.cons (.var 0) (.cons (.idx (.var 2) (.con (.int 0))) .nil))) (.cons (.idx (.var 2) (.con (.int 0))) .nil))))) .nil)))) .nil)⟩
/-- turned_about work place grid part -/
def F86 : Fn := ⟨2, 4, (.cons (.asg (.nm 2) (.bin .add (.bin .add (.slc (.idx (.var 0) (.con (.int 0))) .none (.some (.var 1))) (.lst (.cons (.comp (.bin .sub (.con (.int 0)) (.var 3)) (.nm 3) [3] (.seq (.idx (.idx (.var 0) (.con (.int 0))) (.var 1))) .yes) .nil))) (.slc (.idx (.var 0) (.con (.int 0))) (.some (.bin .add (.var 1) (.con (.int 1)))) .none))) (.cons (.ret (.bin .add (.tup (.cons (.var 2) .nil)) (.slc (.var 0) (.some (.con (.int 1))) .none))) .nil))⟩
/-- without_helpers work wide place some at -/
def F87 : Fn := ⟨2, 5, (.cons (.for_ (.nm 2) (.rng1 (.b1 .len (.idx (.var 0) (.con (.int 0))))) (.cons (.asg (.nm 3) (.ite (.cmp .ge (.idx (.idx (.var 0) (.con (.int 3))) (.var 2)) (.var 1)) (.comp (.var 4) (.nm 4) [4] (.rng1 (.var 1)) (.one (.cmp .ne (.idx (.idx (.idx (.var 0) (.con (.int 0))) (.var 2)) (.var 4)) (.con (.int 0))))) (.lst .nil))) (.cons (.ife (.cmp .ne (.var 3) (.lst .nil)) (.cons (.ife (.cmp .lt (.idx (.idx (.idx (.var 0) (.con (.int 0))) (.var 2)) (.idx (.var 3) (.con (.int 0)))) (.con (.int 0))) (.cons (.asg (.nm 0) (.call 86 "turned_about" (.cons (.var 0) (.cons (.var 2) .nil)))) .nil) .nil) (.cons (.asg (.nm 0) (.call 83 "exchanged" (.cons (.var 0) (.cons (.var 2) (.cons (.idx (.var 3) (.con (.int 0))) .nil))))) .nil)) .nil) .nil))) (.cons (.ret (.var 0)) .nil))⟩
/-- climbed work wide some place at -/
def F88 : Fn := ⟨2, 5, (.cons (.whl (.con (.bl true)) (.cons (.asg (.nm 2) (.comp (.var 4) (.nm 4) [4] (.rng1 (.var 1)) (.one (.cmp .gt (.idx (.idx (.var 0) (.con (.int 2))) (.var 4)) (.con (.int 0)))))) (.cons (.ife (.cmp .eq (.var 2) (.lst .nil)) (.cons (.ret (.tup (.cons (.var 0) (.cons (.con .non) .nil)))) .nil) .nil) (.cons (.asg (.nm 3) (.call 84 "leaving" (.cons (.var 0) (.cons (.idx (.var 2) (.con (.int 0))) .nil)))) (.cons (.ife (.cmp .is (.var 3) (.con .non)) (.cons (.ret (.tup (.cons (.var 0) (.cons (.idx (.var 2) (.con (.int 0))) .nil)))) .nil) .nil) (.cons (.asg (.nm 0) (.call 83 "exchanged" (.cons (.var 0) (.cons (.var 3) (.cons (.idx (.var 2) (.con (.int 0))) .nil))))) .nil)))))) .nil)⟩
/-- numbers_of work wide found row base -/
def F89 : Fn := ⟨2, 5, (.cons (.own 2 (.bin .mul (.lst (.cons (.con (.int 0)) .nil)) (.var 1))) (.cons (.for_ (.tp (.cons (.nm 3) (.cons (.nm 4) .nil))) (.zip (.idx (.var 0) (.con (.int 0))) (.idx (.var 0) (.con (.int 3)))) (.cons (.ife (.cmp .lt (.var 4) (.var 1)) (.cons (.setm 2 (.var 4) (.idx (.var 3) (.neg (.con (.int 1))))) .nil) .nil) .nil)) (.frz 2 (.cons (.ret (.var 2)) .nil))))⟩
/-- ray_of work wide at found row base -/
def F90 : Fn := ⟨3, 6, (.cons (.own 3 (.bin .mul (.lst (.cons (.con (.int 0)) .nil)) (.var 1))) (.cons (.setm 3 (.var 2) (.idx (.var 0) (.con (.int 4)))) (.cons (.for_ (.tp (.cons (.nm 4) (.cons (.nm 5) .nil))) (.zip (.idx (.var 0) (.con (.int 0))) (.idx (.var 0) (.con (.int 3)))) (.cons (.ife (.cmp .lt (.var 5) (.var 1)) (.cons (.setm 3 (.var 5) (.bin .sub (.con (.int 0)) (.idx (.var 4) (.var 2)))) .nil) .nil) .nil)) (.frz 3 (.cons (.ret (.var 3)) .nil)))))⟩
/-- prices_of work wide signs place sign -/
def F91 : Fn := ⟨3, 5, (.cons (.ret (.comp (.bin .sub (.con (.int 0)) (.bin .mul (.var 4) (.idx (.idx (.var 0) (.con (.int 2))) (.bin .add (.var 1) (.var 3))))) (.tp (.cons (.nm 3) (.cons (.nm 4) .nil))) [3, 4] (.enum (.var 2)) .yes)) .nil)⟩
/-- barring work wide signs place sign -/
def F92 : Fn := ⟨3, 5, (.cons (.ret (.comp (.bin .sub (.con (.int 0)) (.bin .mul (.var 4) (.bin .add (.idx (.idx (.var 0) (.con (.int 1))) (.bin .add (.var 1) (.var 3))) (.idx (.var 0) (.con (.int 4)))))) (.tp (.cons (.nm 3) (.cons (.nm 4) .nil))) [3, 4] (.enum (.var 2)) .yes)) .nil)⟩
/-- solved columns gains goal work wide signs at part -/
def F93 : Fn := ⟨3, 8, (.cons (.par [(false, 4), (false, 5)] (.cons (.b1 .len (.var 0)) (.cons (.comp (.ite (.cmp .lt (.var 7) (.con (.int 0))) (.neg (.con (.int 1))) (.con (.int 1))) (.nm 7) [7] (.seq (.var 2)) .yes) .nil))) (.cons (.asg (.nm 3) (.call 85 "settled" (.cons (.call 81 "begun" (.cons (.var 0) (.cons (.var 1) (.cons (.var 2) (.cons (.var 5) .nil))))) (.cons (.var 4) .nil)))) (.cons (.ife (.cmp .ne (.idx (.idx (.var 3) (.con (.int 1))) (.neg (.con (.int 1)))) (.con (.int 0))) (.cons (.ret (.tup (.cons (.glo "NONE" (.str "none")) (.cons (.call 92 "barring" (.cons (.var 3) (.cons (.var 4) (.cons (.var 5) .nil)))) .nil)))) .nil) .nil) (.cons (.asg (.tp (.cons (.nm 3) (.cons (.nm 6) .nil))) (.call 88 "climbed" (.cons (.call 87 "without_helpers" (.cons (.var 3) (.cons (.var 4) .nil))) (.cons (.var 4) .nil)))) (.cons (.ife (.cmp .isnot (.var 6) (.con .non)) (.cons (.ret (.tup (.cons (.glo "ENDLESS" (.str "endless")) (.cons (.call 90 "ray_of" (.cons (.var 3) (.cons (.var 4) (.cons (.var 6) .nil)))) .nil)))) .nil) .nil) (.cons (.ret (.tup (.cons (.glo "BEST" (.str "best")) (.cons (.idx (.var 3) (.con (.int 4))) (.cons (.call 89 "numbers_of" (.cons (.var 3) (.cons (.var 4) .nil))) (.cons (.call 91 "prices_of" (.cons (.var 3) (.cons (.var 4) (.cons (.var 5) .nil)))) .nil)))))) .nil))))))⟩
/-- halves rows forms columns gains places place row form factor -/
def F94 : Fn := ⟨2, 9, (.cons (.par [(true, 2), (true, 3), (true, 4)] (.cons (.lst .nil) (.cons (.lst .nil) (.cons (.lst .nil) .nil)))) (.cons (.for_ (.tp (.cons (.nm 5) (.cons (.tp (.cons (.nm 6) (.cons (.nm 7) .nil))) .nil))) (.enumz (.var 0) (.var 1)) (.cons (.appm 2 (.var 7)) (.cons (.appm 3 (.idx (.var 6) (.neg (.con (.int 1))))) (.cons (.appm 4 (.tup (.cons (.var 5) (.cons (.con (.int 1)) .nil)))) (.cons (.ife (.cmp .eq (.idx (.var 6) (.con (.int 0))) (.glo "SAME" (.str "same"))) (.cons (.appm 2 (.comp (.bin .sub (.con (.int 0)) (.var 8)) (.nm 8) [8] (.seq (.var 7)) .yes)) (.cons (.appm 3 (.bin .sub (.con (.int 0)) (.idx (.var 6) (.neg (.con (.int 1)))))) (.cons (.appm 4 (.tup (.cons (.var 5) (.cons (.neg (.con (.int 1))) .nil)))) .nil))) .nil) .nil))))) (.frz 2 (.frz 3 (.frz 4 (.cons (.ret (.tup (.cons (.var 2) (.cons (.var 3) (.cons (.var 4) .nil))))) .nil))))))⟩
/-- shortened unit numbers part number -/
def F95 : Fn := ⟨2, 4, (.cons (.asg (.nm 2) (.var 0)) (.cons (.for_ (.nm 3) (.seq (.var 1)) (.cons (.asg (.nm 2) (.call 58 "common" (.cons (.var 2) (.cons (.b1 .abs (.var 3)) .nil)))) .nil)) (.cons (.ret (.tup (.cons (.bin .fdiv (.var 0) (.var 2)) (.cons (.b1 .tuple (.comp (.bin .fdiv (.var 3) (.var 2)) (.nm 3) [3] (.seq (.var 1)) .yes)) .nil)))) .nil)))⟩
/-- gathered many places numbers found number place sign -/
def F96 : Fn := ⟨3, 7, (.cons (.own 3 (.bin .mul (.lst (.cons (.con (.int 0)) .nil)) (.var 0))) (.cons (.for_ (.tp (.cons (.tp (.cons (.nm 5) (.cons (.nm 6) .nil))) (.cons (.nm 4) .nil))) (.zip (.var 1) (.var 2)) (.cons (.augm 3 .add (.var 5) (.bin .mul (.var 6) (.var 4))) .nil)) (.frz 3 (.cons (.ret (.var 3)) .nil))))⟩
/-- asked rows forms goal found columns gains places word unit numbers prices -/
def F97 : Fn := ⟨3, 11, (.cons (.asg (.tp (.cons (.nm 4) (.cons (.nm 5) (.cons (.nm 6) .nil)))) (.call 94 "halves" (.cons (.var 0) (.cons (.var 1) .nil)))) (.cons (.asg (.nm 3) (.call 93 "solved" (.cons (.var 4) (.cons (.var 5) (.cons (.var 2) .nil))))) (.cons (.ife (.cmp .eq (.idx (.var 3) (.con (.int 0))) (.glo "BEST" (.str "best"))) (.cons (.asg (.tp (.cons (.nm 7) (.cons (.nm 8) (.cons (.nm 9) (.cons (.nm 10) .nil))))) (.var 3)) (.cons (.ret (.tup (.cons (.glo "BEST" (.str "best")) (.cons (.call 95 "shortened" (.cons (.var 8) (.cons (.call 96 "gathered" (.cons (.b1 .len (.var 0)) (.cons (.var 6) (.cons (.var 9) .nil)))) .nil))) (.cons (.call 95 "shortened" (.cons (.var 8) (.cons (.var 10) .nil))) .nil))))) .nil)) .nil) (.cons (.ife (.cmp .eq (.idx (.var 3) (.con (.int 0))) (.glo "ENDLESS" (.str "endless"))) (.cons (.ret (.tup (.cons (.glo "ENDLESS" (.str "endless")) (.cons (.tup (.cons (.con (.int 1)) (.cons (.idx (.call 95 "shortened" (.cons (.con (.int 0)) (.cons (.call 96 "gathered" (.cons (.b1 .len (.var 0)) (.cons (.var 6) (.cons (.idx (.var 3) (.con (.int 1))) .nil)))) .nil))) (.con (.int 1))) .nil))) .nil)))) .nil) .nil) (.cons (.ret (.tup (.cons (.idx (.var 3) (.con (.int 0))) (.cons (.idx (.call 95 "shortened" (.cons (.con (.int 0)) (.cons (.idx (.var 3) (.con (.int 1))) .nil))) (.con (.int 1))) .nil)))) .nil)))))⟩
/-- asked_in book goal rows row -/
def F98 : Fn := ⟨2, 4, (.cons (.asg (.nm 2) (.call 35 "rows_in" (.cons (.var 0) .nil))) (.cons (.ret (.call 97 "asked" (.cons (.var 2) (.cons (.comp (.call 69 "form_of" (.cons (.idx (.var 0) (.con (.int 0))) (.cons (.idx (.var 3) (.con (.int 1))) .nil))) (.nm 3) [3] (.seq (.var 2)) .yes) (.cons (.var 1) .nil))))) .nil))⟩
/-- table_by prices unit numbers -/
def F99 : Fn := ⟨1, 3, (.cons (.asg (.tp (.cons (.nm 1) (.cons (.nm 2) .nil))) (.var 0)) (.cons (.ret (.tup (.cons (.var 1) (.cons (.tup (.cons (.con (.int 0)) (.star (.var 2) .nil))) .nil)))) .nil))⟩
/-- nothing book -/
def F100 : Fn := ⟨1, 1, (.cons (.ret (.bin .mul (.lst (.cons (.con (.int 0)) .nil)) (.call 4 "all_of" (.cons (.idx (.var 0) (.con (.int 0))) .nil)))) .nil)⟩
/-- quarrel_in book found -/
def F101 : Fn := ⟨1, 2, (.cons (.asg (.nm 1) (.call 98 "asked_in" (.cons (.var 0) (.cons (.call 100 "nothing" (.cons (.var 0) .nil)) .nil)))) (.cons (.ret (.ite (.cmp .eq (.idx (.var 1) (.con (.int 0))) (.glo "ENDLESS" (.str "endless"))) (.idx (.var 1) (.con (.int 1))) (.con .non))) .nil))⟩
/-- quarrel book -/
def F102 : Fn := ⟨1, 1, (.cons (.ret (.call 101 "quarrel_in" (.cons (.call 33 "need_book" (.cons (.var 0) .nil)) .nil))) .nil)⟩
/-- worths_in book found -/
def F103 : Fn := ⟨1, 2, (.cons (.asg (.nm 1) (.call 98 "asked_in" (.cons (.var 0) (.cons (.call 100 "nothing" (.cons (.var 0) .nil)) .nil)))) (.cons (.ret (.ite (.cmp .eq (.idx (.var 1) (.con (.int 0))) (.glo "BEST" (.str "best"))) (.call 99 "table_by" (.cons (.idx (.var 1) (.con (.int 2))) .nil)) (.con .non))) .nil))⟩
/-- some_worths book -/
def F104 : Fn := ⟨1, 1, (.cons (.ret (.call 103 "worths_in" (.cons (.call 33 "need_book" (.cons (.var 0) .nil)) .nil))) .nil)⟩
/-- _law_wild _law_draw _law_many _law_facts _law_turn _law_word -/
def F105 : Fn := ⟨1, 5, (.cons (.asg (.nm 1) (.idx (.lst (.cons (.con (.int 2)) (.cons (.con (.int 3)) (.cons (.con (.int 3)) (.cons (.con (.int 3)) (.cons (.con (.int 4)) .nil)))))) (.call 17 "_law_next" (.cons (.var 0) (.cons (.con (.int 5)) .nil))))) (.cons (.own 2 (.lst .nil)) (.cons (.for_ (.nm 3) (.rng1 (.call 17 "_law_next" (.cons (.var 0) (.cons (.con (.int 6)) .nil)))) (.cons (.asg (.nm 4) (.idx (.lst (.cons (.con (.str "least")) (.cons (.con (.str "least")) (.cons (.con (.str "least")) (.cons (.con (.str "same")) .nil))))) (.call 17 "_law_next" (.cons (.var 0) (.cons (.con (.int 4)) .nil))))) (.cons (.appm 2 (.tup (.cons (.var 4) (.cons (.call 40 "_law_terms" (.cons (.var 0) (.cons (.var 1) (.cons (.con (.int 3)) .nil)))) (.cons (.idx (.lst (.cons (.con (.int 0)) (.cons (.con (.int 0)) (.cons (.con (.int 1)) (.cons (.con (.int 2)) (.cons (.neg (.con (.int 1))) (.cons (.con (.int 3)) (.cons (.neg (.con (.int 5))) (.cons (.con (.int 40)) .nil))))))))) (.call 17 "_law_next" (.cons (.var 0) (.cons (.con (.int 8)) .nil)))) .nil))))) .nil))) (.frz 2 (.cons (.ret (.tup (.cons (.var 1) (.cons (.b1 .tuple (.var 2)) .nil)))) .nil)))))⟩
/-- _law_quarrels _law_book_here _law_told _law_total_here -/
def F106 : Fn := ⟨2, 3, (.cons (.asg (.nm 2) (.call 76 "_law_total" (.cons (.var 0) (.cons (.bin .mul (.lst (.cons (.con (.int 0)) .nil)) (.bin .sub (.call 18 "_law_size" (.cons (.idx (.var 0) (.con (.int 0))) .nil)) (.con (.int 1)))) (.cons (.var 1) .nil))))) (.cons (.ret (.and (.cmp .isnot (.var 2) (.con .non)) (.cmp .gt (.idx (.var 2) (.con (.int 0))) (.con (.int 0))))) .nil))⟩
/-- _law_right _law_book_here _law_kept_here _law_told _law_found -/
def F107 : Fn := ⟨1, 4, (.cons (.par [(false, 1), (false, 2), (false, 3)] (.cons (.b1 .repr (.var 0)) (.cons (.call 102 "quarrel" (.cons (.var 0) .nil)) (.cons (.call 104 "some_worths" (.cons (.var 0) .nil)) .nil)))) (.cons (.ife (.or (.cmp .ne (.b1 .repr (.lst (.cons (.call 102 "quarrel" (.cons (.var 0) .nil)) (.cons (.call 104 "some_worths" (.cons (.var 0) .nil)) .nil)))) (.b1 .repr (.lst (.cons (.var 2) (.cons (.var 3) .nil))))) (.cmp .ne (.b1 .repr (.var 0)) (.var 1))) (.cons (.ret (.lst .nil)) .nil) .nil) (.cons (.ife (.cmp .is (.var 2) (.con .non)) (.cons (.ret (.bin .mul (.lst (.cons (.con (.bl false)) .nil)) (.b1 .int (.call 63 "_law_is_table" (.cons (.var 0) (.cons (.var 3) .nil)))))) .nil) .nil) (.cons (.ret (.bin .mul (.lst (.cons (.con (.bl true)) .nil)) (.b1 .int (.and (.cmp .is (.var 3) (.con .non)) (.call 106 "_law_quarrels" (.cons (.var 0) (.cons (.var 2) .nil))))))) .nil))))⟩
/-- law _law_script _law_draw _law_turn _law_due _law_calm _law_book_here _law_one _law_more _law_numbers_here -/
def F108 : Fn := ⟨1, 9, (.cons (.asg (.nm 1) (.call 16 "_law_begun" (.cons (.var 0) .nil))) (.cons (.for_ (.nm 2) (.rng1 (.bin .add (.con (.int 3)) (.bin .fdiv (.b2 .min (.con (.int 60)) (.b1 .len (.var 0))) (.con (.int 5))))) (.cons (.asg (.nm 5) (.call 105 "_law_wild" (.cons (.var 1) .nil))) (.cons (.asg (.tp (.cons (.nm 4) (.cons (.nm 8) .nil))) (.call 42 "_law_book" (.cons (.var 1) (.cons (.con (.int 5)) .nil)))) (.cons (.asg (.nm 6) (.call 107 "_law_right" (.cons (.var 5) .nil))) (.cons (.ife (.or (.cmp .eq (.var 6) (.lst .nil)) (.cmp .ne (.call 107 "_law_right" (.cons (.var 4) .nil)) (.lst (.cons (.con (.bl false)) .nil)))) (.cons (.ret (.con (.bl false))) .nil) .nil) (.cons (.asg (.nm 7) (.tup (.cons (.idx (.var 5) (.con (.int 0))) (.cons (.bin .add (.idx (.var 5) (.con (.int 1))) (.tup (.cons (.tup (.cons (.con (.str "least")) (.cons (.call 40 "_law_terms" (.cons (.var 1) (.cons (.idx (.var 5) (.con (.int 0))) (.cons (.con (.int 2)) .nil)))) (.cons (.bin .sub (.call 17 "_law_next" (.cons (.var 1) (.cons (.con (.int 9)) .nil))) (.con (.int 4))) .nil)))) .nil))) .nil)))) (.cons (.ife (.and (.cmp .eq (.var 6) (.lst (.cons (.con (.bl true)) .nil))) (.cmp .ne (.call 107 "_law_right" (.cons (.var 7) .nil)) (.lst (.cons (.con (.bl true)) .nil)))) (.cons (.ret (.con (.bl false))) .nil) .nil) .nil))))))) (.cons (.own 3 (.lst (.cons (.tup (.cons (.con (.int 2)) (.cons (.tup (.cons (.tup (.cons (.con (.str "least")) (.cons (.tup .nil) (.cons (.con (.int 1)) .nil)))) .nil)) .nil))) (.cons (.tup (.cons (.con (.int 2)) (.cons (.tup (.cons (.tup (.cons (.con (.str "same")) (.cons (.tup .nil) (.cons (.neg (.con (.int 1))) .nil)))) .nil)) .nil))) (.cons (.tup (.cons (.con (.int 2)) (.cons (.tup (.cons (.tup (.cons (.con (.str "least")) (.cons (.tup (.cons (.tup (.cons (.con (.int 3)) (.cons (.neg (.con (.int 1))) .nil))) .nil)) (.cons (.con (.int 1)) .nil)))) .nil)) .nil))) .nil))))) (.frz 3 (.cons (.own 3 (.bin .add (.var 3) (.lst (.cons (.tup (.cons (.con (.int 3)) (.cons (.tup (.cons (.tup (.cons (.con (.str "same")) (.cons (.tup (.cons (.tup (.cons (.con (.int 1)) (.cons (.con (.int 1)) .nil))) .nil)) (.cons (.con (.int 5)) .nil)))) (.cons (.tup (.cons (.con (.str "least")) (.cons (.tup (.cons (.tup (.cons (.con (.int 3)) (.cons (.neg (.con (.int 1))) .nil))) .nil)) (.cons (.neg (.con (.int 4))) .nil)))) .nil))) .nil))) (.cons (.tup (.cons (.con (.int 2)) (.cons (.tup (.cons (.tup (.cons (.con (.str "least")) (.cons (.tup (.cons (.tup (.cons (.con (.int 1)) (.cons (.con (.int 1)) .nil))) (.cons (.tup (.cons (.con (.int 3)) (.cons (.neg (.con (.int 1))) .nil))) .nil))) (.cons (.con (.int 1)) .nil)))) .nil)) .nil))) .nil))))) (.cons (.appm 3 (.tup (.cons (.con (.int 4)) (.cons (.tup (.cons (.tup (.cons (.con (.str "same")) (.cons (.tup (.cons (.tup (.cons (.con (.int 1)) (.cons (.con (.int 2)) .nil))) (.cons (.tup (.cons (.con (.int 2)) (.cons (.neg (.con (.int 2))) .nil))) .nil))) (.cons (.con (.int 1)) .nil)))) (.cons (.tup (.cons (.con (.str "same")) (.cons (.tup (.cons (.tup (.cons (.con (.int 1)) (.cons (.neg (.con (.int 2))) .nil))) (.cons (.tup (.cons (.con (.int 2)) (.cons (.con (.int 2)) .nil))) .nil))) (.cons (.con (.int 0)) .nil)))) .nil))) .nil)))) (.cons (.ife (.cmp .ne (.comp (.call 107 "_law_right" (.cons (.var 5) .nil)) (.nm 5) [5] (.mut 3) .yes) (.bin .mul (.lst (.cons (.lst (.cons (.con (.bl true)) .nil)) .nil)) (.con (.int 6)))) (.cons (.ret (.con (.bl false))) .nil) .nil) (.cons (.asg (.nm 4) (.lst (.cons (.tup (.cons (.con (.int 2)) (.cons (.tup .nil) .nil))) (.cons (.tup (.cons (.con (.int 4)) (.cons (.tup (.cons (.tup (.cons (.con (.str "same")) (.cons (.tup .nil) (.cons (.con (.int 0)) .nil)))) .nil)) .nil))) (.cons (.tup (.cons (.con (.int 3)) (.cons (.tup (.cons (.tup (.cons (.con (.str "same")) (.cons (.tup (.cons (.tup (.cons (.con (.int 7)) (.cons (.con (.int 1)) .nil))) .nil)) (.cons (.con (.int 0)) .nil)))) .nil)) .nil))) (.cons (.tup (.cons (.con (.int 2)) (.cons (.tup (.cons (.tup (.cons (.con (.str "same")) (.cons (.tup (.cons (.tup (.cons (.con (.int 1)) (.cons (.con (.int 3)) .nil))) .nil)) (.cons (.con (.int 1)) .nil)))) .nil)) .nil))) .nil)))))) (.cons (.ret (.cmp .eq (.comp (.call 107 "_law_right" (.cons (.var 5) .nil)) (.nm 5) [5] (.seq (.var 4)) .yes) (.bin .mul (.lst (.cons (.lst (.cons (.con (.bl false)) .nil)) .nil)) (.con (.int 4))))) .nil)))))))))⟩
/-- need_bound bound -/
def F109 : Fn := ⟨1, 1, (.cons (.ife (.not (.call 0 "is_whole" (.cons (.var 0) (.cons (.bin .sub (.con (.int 0)) (.glo "MOST_ASKED" (.int 1000000))) (.cons (.glo "MOST_ASKED" (.int 1000000)) .nil))))) (.cons (.rais 4 "BadNumber" (.var 0)) .nil) .nil) (.cons (.ret (.var 0)) .nil))⟩
/-- need_calm book weights -/
def F110 : Fn := ⟨1, 2, (.cons (.asg (.nm 1) (.call 101 "quarrel_in" (.cons (.call 33 "need_book" (.cons (.var 0) .nil)) .nil))) (.cons (.ife (.cmp .isnot (.var 1) (.con .non)) (.cons (.rais 9 "Quarrel" (.var 1)) .nil) .nil) (.cons (.ret (.var 0)) .nil)))⟩
/-- walked form table step bound here down turns moved unit numbers number more factor -/
def F112 : Fn := ⟨4, 13, (.cons (.asg (.tp (.cons (.nm 8) (.cons (.nm 9) .nil))) (.var 1)) (.cons (.asg (.nm 4) (.b1 .sum (.comp (.bin .mul (.var 12) (.var 10)) (.tp (.cons (.nm 12) (.cons (.nm 10) .nil))) [12, 10] (.zip (.var 0) (.slc (.var 9) (.some (.con (.int 1))) .none)) .yes))) (.cons (.asg (.nm 5) (.bin .sub (.con (.int 0)) (.b1 .sum (.comp (.bin .mul (.var 12) (.var 10)) (.tp (.cons (.nm 12) (.cons (.nm 10) .nil))) [12, 10] (.zip (.var 0) (.var 2)) .yes)))) (.cons (.asg (.nm 6) (.b2 .max (.con (.int 0)) (.bin .add (.bin .fdiv (.bin .sub (.var 4) (.bin .mul (.var 3) (.var 8))) (.bin .mul (.var 8) (.var 5))) (.con (.int 1))))) (.cons (.asg (.nm 7) (.comp (.bin .add (.var 10) (.bin .mul (.bin .mul (.var 6) (.var 8)) (.var 11))) (.tp (.cons (.nm 10) (.cons (.nm 11) .nil))) [10, 11] (.zip (.slc (.var 9) (.some (.con (.int 1))) .none) (.var 2)) .yes)) (.cons (.ret (.tup (.cons (.var 8) (.cons (.tup (.cons (.con (.int 0)) (.star (.var 7) .nil))) .nil)))) .nil))))))⟩
/-- paper_in book form bound found table value factor number -/
def F113 : Fn := ⟨3, 8, (.cons (.asg (.nm 3) (.call 98 "asked_in" (.cons (.var 0) (.cons (.var 1) .nil)))) (.cons (.ife (.cmp .ne (.idx (.var 3) (.con (.int 0))) (.glo "BEST" (.str "best"))) (.cons (.ret (.tup (.cons (.glo "TABLE" (.str "table")) (.star (.call 112 "walked" (.cons (.var 1) (.cons (.call 103 "worths_in" (.cons (.var 0) .nil)) (.cons (.idx (.var 3) (.con (.int 1))) (.cons (.var 2) .nil))))) .nil)))) .nil) .nil) (.cons (.asg (.nm 4) (.call 99 "table_by" (.cons (.idx (.var 3) (.con (.int 2))) .nil))) (.cons (.asg (.nm 5) (.b1 .sum (.comp (.bin .mul (.var 6) (.var 7)) (.tp (.cons (.nm 6) (.cons (.nm 7) .nil))) [6, 7] (.zip (.var 1) (.slc (.idx (.var 4) (.con (.int 1))) (.some (.con (.int 1))) .none)) .yes))) (.cons (.ret (.ite (.cmp .ge (.var 5) (.bin .mul (.var 2) (.idx (.var 4) (.con (.int 0))))) (.tup (.cons (.glo "WEIGHTS" (.str "weights")) (.star (.idx (.var 3) (.con (.int 1))) .nil))) (.tup (.cons (.glo "TABLE" (.str "table")) (.star (.var 4) .nil))))) .nil)))))⟩
/-- does_hold_form book form bound -/
def F114 : Fn := ⟨3, 3, (.cons (.ret (.cmp .eq (.idx (.call 113 "paper_in" (.cons (.var 0) (.cons (.var 1) (.cons (.var 2) .nil)))) (.con (.int 0))) (.glo "WEIGHTS" (.str "weights")))) .nil)⟩
/-- does_hold book some bound -/
def F115 : Fn := ⟨3, 3, (.cons (.ret (.call 114 "does_hold_form" (.cons (.var 0) (.cons (.call 69 "form_of" (.cons (.idx (.var 0) (.con (.int 0))) (.cons (.var 1) .nil))) (.cons (.var 2) .nil))))) .nil)⟩
/-- need_asked book some bound -/
def F116 : Fn := ⟨3, 3, (.cons (.exp (.call 68 "need_sum" (.cons (.idx (.call 110 "need_calm" (.cons (.var 0) .nil)) (.con (.int 0))) (.cons (.var 1) .nil)))) (.cons (.exp (.call 109 "need_bound" (.cons (.var 2) .nil))) .nil))⟩
/-- paper book some bound -/
def F118 : Fn := ⟨3, 3, (.cons (.exp (.call 116 "need_asked" (.cons (.var 0) (.cons (.var 1) (.cons (.var 2) .nil))))) (.cons (.ret (.call 113 "paper_in" (.cons (.var 0) (.cons (.call 69 "form_of" (.cons (.idx (.var 0) (.con (.int 0))) (.cons (.var 1) .nil))) (.cons (.var 2) .nil))))) .nil))⟩
/-- turned some group factor -/
def F122 : Fn := ⟨1, 3, (.cons (.ret (.b1 .tuple (.comp (.tup (.cons (.var 1) (.cons (.bin .sub (.con (.int 0)) (.var 2)) .nil))) (.tp (.cons (.nm 1) (.cons (.nm 2) .nil))) [1, 2] (.seq (.var 0)) .yes))) .nil)⟩
/-- does_follow_in book fact word some bound -/
def F123 : Fn := ⟨2, 5, (.cons (.asg (.tp (.cons (.nm 2) (.cons (.nm 3) (.cons (.nm 4) .nil)))) (.var 1)) (.cons (.ife (.not (.call 115 "does_hold" (.cons (.var 0) (.cons (.var 3) (.cons (.var 4) .nil))))) (.cons (.ret (.con (.bl false))) .nil) .nil) (.cons (.ret (.or (.cmp .ne (.var 2) (.glo "SAME" (.str "same"))) (.call 115 "does_hold" (.cons (.var 0) (.cons (.call 122 "turned" (.cons (.var 3) .nil)) (.cons (.bin .sub (.con (.int 0)) (.var 4)) .nil)))))) .nil)))⟩
/-- _law_rows _law_book _law_found _law_group _law_partner _law_rest -/
def F288 : Fn := ⟨1, 5, (.cons (.own 1 (.b1 .list (.idx (.var 0) (.con (.int 1))))) (.cons (.for_ (.nm 2) (.rng2 (.con (.int 1)) (.call 18 "_law_size" (.cons (.idx (.var 0) (.con (.int 0))) .nil))) (.cons (.for_ (.nm 3) (.rng1 (.idx (.var 0) (.con (.int 0)))) (.cons (.ife (.call 20 "_law_is_in" (.cons (.var 3) (.cons (.var 2) .nil))) (.cons (.asg (.nm 4) (.bin .sub (.var 2) (.call 19 "_law_bit" (.cons (.var 3) .nil)))) (.cons (.appm 1 (.tup (.cons (.con (.str "least")) (.cons (.bin .add (.bin .mul (.tup (.cons (.tup (.cons (.var 4) (.cons (.neg (.con (.int 1))) .nil))) .nil)) (.b1 .int (.cmp .gt (.var 4) (.con (.int 0))))) (.tup (.cons (.tup (.cons (.var 2) (.cons (.con (.int 1)) .nil))) .nil))) (.cons (.con (.int 0)) .nil))))) .nil)) .nil) .nil)) .nil)) (.frz 1 (.cons (.ret (.var 1)) .nil))))⟩
/-- _law_sure _law_book _law_some _law_bound _law_got _law_total_here -/
def F291 : Fn := ⟨3, 5, (.cons (.asg (.nm 3) (.call 118 "paper" (.cons (.var 0) (.cons (.var 1) (.cons (.var 2) .nil))))) (.cons (.ife (.or (.not (.isi (.var 3) .tuple)) (.cmp .ne (.b1 .len (.var 3)) (.con (.int 3)))) (.cons (.ret (.lst .nil)) .nil) .nil) (.cons (.ife (.cmp .eq (.idx (.var 3) (.con (.int 0))) (.con (.str "weights"))) (.cons (.asg (.nm 4) (.call 362 "_law_total" (.cons (.var 0) (.cons (.call 21 "_law_form" (.cons (.idx (.var 0) (.con (.int 0))) (.cons (.var 1) .nil))) (.cons (.slc (.var 3) (.some (.con (.int 1))) .none) .nil))))) (.cons (.ret (.bin .mul (.lst (.cons (.con (.bl true)) .nil)) (.b1 .int (.and (.cmp .isnot (.var 4) (.con .non)) (.cmp .ge (.idx (.var 4) (.con (.int 0))) (.bin .mul (.var 2) (.idx (.var 4) (.con (.int 1))))))))) .nil)) .nil) (.cons (.ife (.or (.cmp .ne (.idx (.var 3) (.con (.int 0))) (.con (.str "table"))) (.not (.call 370 "_law_is_table" (.cons (.var 0) (.cons (.slc (.var 3) (.some (.con (.int 1))) .none) .nil))))) (.cons (.ret (.lst .nil)) .nil) .nil) (.cons (.ret (.bin .mul (.lst (.cons (.con (.bl false)) .nil)) (.b1 .int (.cmp .lt (.call 39 "_law_reckon" (.cons (.var 1) (.cons (.idx (.var 3) (.con (.int 2))) .nil))) (.bin .mul (.var 2) (.idx (.var 3) (.con (.int 1)))))))) .nil)))))⟩
/-- _law_pair _law_one _law_other _law_part -/
def F292 : Fn := ⟨2, 3, (.cons (.ret (.b1 .tuple (.b1 .sorted (.comp (.var 2) (.nm 2) [2] (.seq (.tup (.cons (.tup (.cons (.var 0) (.cons (.con (.int 1)) .nil))) (.cons (.tup (.cons (.var 1) (.cons (.neg (.con (.int 1))) .nil))) .nil)))) (.one (.cmp .gt (.idx (.var 2) (.con (.int 0))) (.con (.int 0)))))))) .nil)⟩
/-- _law_heard _law_call e _law_ways _law_caught _law_found -/
def F293 : Fn := ⟨1, 5, (.cons (.told [3, 4] (some 4) [(0, "StayError"), (10, "Missing"), (11, "TooMany")] 1 3) (.cons (.ife (.cmp .is (.var 3) (.con .non)) (.cons (.ret (.lst (.cons (.var 4) .nil))) .nil) .nil) (.cons (.own 2 (.lst (.cons (.isx (.var 3) 1 "BadBook") (.cons (.isx (.var 3) 9 "Quarrel") .nil)))) (.frz 2 (.cons (.own 2 (.bin .add (.var 2) (.lst (.cons (.isx (.var 3) 3 "BadSum") (.cons (.isx (.var 3) 4 "BadNumber") .nil))))) (.frz 2 (.cons (.own 2 (.bin .add (.var 2) (.lst (.cons (.isx (.var 3) 6 "BadScript") (.cons (.isx (.var 3) 10 "Missing") .nil))))) (.cons (.appm 2 (.isx (.var 3) 11 "TooMany")) (.frz 2 (.cons (.ife (.or (.cmp .ne (.cnt (.var 2) (.con (.bl true))) (.con (.int 1))) (.cmp .ne (.isx (.var 3) 0 "StayError") (.cmp .inn (.con (.bl true)) (.slc (.var 2) .none (.some (.con (.int 5))))))) (.cons (.ret (.tup (.cons (.con (.str "odd")) .nil))) .nil) .nil) (.cons (.ife (.or (.idx (.var 2) (.con (.int 0))) (.idx (.var 2) (.con (.int 1)))) (.cons (.ret (.ite (.idx (.var 2) (.con (.int 0))) (.tup (.cons (.con (.str "book")) (.cons (.fld (.var 3) "place") .nil))) (.tup (.cons (.con (.str "quarrel")) (.cons (.fld (.var 3) "weights") .nil))))) .nil) .nil) (.cons (.ife (.or (.idx (.var 2) (.con (.int 2))) (.idx (.var 2) (.con (.int 3)))) (.cons (.ret (.tup (.cons (.ite (.idx (.var 2) (.con (.int 2))) (.con (.str "sum")) (.con (.str "number"))) (.cons (.fld (.var 3) "value") .nil)))) .nil) .nil) (.cons (.ife (.or (.idx (.var 2) (.con (.int 4))) (.idx (.var 2) (.con (.int 5)))) (.cons (.ret (.ite (.idx (.var 2) (.con (.int 4))) (.tup (.cons (.con (.str "script")) (.cons (.fld (.var 3) "at") .nil))) (.tup (.cons (.con (.str "missing")) (.cons (.fld (.var 3) "name") .nil))))) .nil) .nil) (.cons (.ret (.tup (.cons (.con (.str "many")) (.cons (.fld (.var 3) "most") .nil)))) .nil))))))))))))))⟩
/-- _law_no_books _law_found -/
def F294 : Fn := ⟨0, 1, (.cons (.asg (.nm 0) (.lst (.cons (.tup (.cons (.con .non) (.cons (.tup .nil) .nil))) (.cons (.tup (.cons (.tup (.cons (.con (.int 2)) (.cons (.tup .nil) (.cons (.tup .nil) .nil)))) (.cons (.tup .nil) .nil))) (.cons (.tup (.cons (.tup (.cons (.con (.int 5)) (.cons (.tup .nil) .nil))) (.cons (.tup (.cons (.con (.str "many")) .nil)) .nil))) .nil))))) (.cons (.asg (.nm 0) (.bin .add (.var 0) (.lst (.cons (.tup (.cons (.tup (.cons (.con (.bl true)) (.cons (.tup .nil) .nil))) (.cons (.tup (.cons (.con (.str "many")) .nil)) .nil))) (.cons (.tup (.cons (.tup (.cons (.con (.int 2)) (.cons (.con .non) .nil))) (.cons (.tup (.cons (.con (.str "facts")) .nil)) .nil))) .nil))))) (.cons (.asg (.nm 0) (.bin .add (.var 0) (.lst (.cons (.tup (.cons (.tup (.cons (.con (.int 2)) (.cons (.lst .nil) .nil))) (.cons (.tup (.cons (.con (.str "facts")) .nil)) .nil))) (.cons (.tup (.cons (.tup (.cons (.con (.int 2)) (.cons (.tup (.cons (.con .non) .nil)) .nil))) (.cons (.tup (.cons (.con (.str "fact")) (.cons (.con (.int 0)) .nil))) .nil))) .nil))))) (.cons (.ret (.bin .add (.var 0) (.lst (.cons (.tup (.cons (.tup (.cons (.con (.int 2)) (.cons (.tup (.cons (.tup (.cons (.con (.str "least")) (.cons (.tup .nil) (.cons (.con (.int 0)) .nil)))) (.cons (.tup (.cons (.con (.str "least")) (.cons (.tup (.cons (.tup (.cons (.con (.int 4)) (.cons (.con (.int 1)) .nil))) .nil)) (.cons (.con (.int 0)) .nil)))) .nil))) .nil))) (.cons (.tup (.cons (.con (.str "fact")) (.cons (.con (.int 1)) .nil))) .nil))) .nil)))) .nil))))⟩
/-- _law_torn _law_draw _law_some -/
def F296 : Fn := ⟨1, 2, (.cons (.own 1 (.lst (.cons (.tup (.cons (.con (.int 2)) (.cons (.tup (.cons (.tup (.cons (.con (.str "least")) (.cons (.tup .nil) (.cons (.con (.int 1)) .nil)))) .nil)) .nil))) (.cons (.tup (.cons (.con (.int 4)) (.cons (.tup (.cons (.tup (.cons (.con (.str "least")) (.cons (.tup (.cons (.tup (.cons (.con (.int 9)) (.cons (.neg (.con (.int 1))) .nil))) .nil)) (.cons (.con (.int 1)) .nil)))) .nil)) .nil))) .nil)))) (.cons (.appm 1 (.tup (.cons (.con (.int 3)) (.cons (.tup (.cons (.tup (.cons (.con (.str "least")) (.cons (.tup (.cons (.tup (.cons (.con (.int 3)) (.cons (.con (.int 1)) .nil))) .nil)) (.cons (.con (.int 5)) .nil)))) (.cons (.tup (.cons (.con (.str "least")) (.cons (.tup (.cons (.tup (.cons (.con (.int 7)) (.cons (.neg (.con (.int 1))) .nil))) .nil)) (.cons (.neg (.con (.int 4))) .nil)))) .nil))) .nil)))) (.cons (.appm 1 (.tup (.cons (.con (.int 2)) (.cons (.tup (.cons (.tup (.cons (.con (.str "same")) (.cons (.tup (.cons (.tup (.cons (.con (.int 1)) (.cons (.con (.int 1)) .nil))) .nil)) (.cons (.con (.int 2)) .nil)))) (.cons (.tup (.cons (.con (.str "same")) (.cons (.tup (.cons (.tup (.cons (.con (.int 1)) (.cons (.con (.int 1)) .nil))) .nil)) (.cons (.con (.int 3)) .nil)))) .nil))) .nil)))) (.cons (.ret (.idxM 1 (.call 17 "_law_next" (.cons (.var 0) (.cons (.con (.int 4)) .nil))))) .nil))))⟩
/-- _law_all_sure _law_book _law_sums _law_some _law_found -/
def F297 : Fn := ⟨2, 4, (.cons (.for_ (.nm 2) (.seq (.var 1)) (.cons (.asg (.nm 3) (.call 291 "_law_sure" (.cons (.var 0) (.cons (.var 2) (.cons (.con (.int 0)) .nil))))) (.cons (.ife (.cmp .ne (.var 3) (.lst (.cons (.con (.bl true)) .nil))) (.cons (.ret (.var 3)) .nil) .nil) .nil))) (.cons (.ret (.lst (.cons (.con (.bl true)) .nil))) .nil))⟩
/-- needless book found many facts number fact -/
def F308 : Fn := ⟨1, 6, (.cons (.asg (.tp (.cons (.nm 2) (.cons (.nm 3) .nil))) (.call 110 "need_calm" (.cons (.var 0) .nil))) (.cons (.own 1 (.lst .nil)) (.cons (.for_ (.tp (.cons (.nm 4) (.cons (.nm 5) .nil))) (.enum (.var 3)) (.cons (.ife (.call 123 "does_follow_in" (.cons (.tup (.cons (.var 2) (.cons (.bin .add (.slc (.var 3) .none (.some (.var 4))) (.slc (.var 3) (.some (.bin .add (.var 4) (.con (.int 1)))) .none)) .nil))) (.cons (.var 5) .nil))) (.cons (.appm 1 (.var 4)) .nil) .nil) .nil)) (.frz 1 (.cons (.ret (.b1 .tuple (.var 1))) .nil)))))⟩
/-- _law_sure _law_book_here _law_some _law_bound _law_got _law_total_here -/
def F309 : Fn := ⟨3, 5, (.cons (.asg (.nm 3) (.call 118 "paper" (.cons (.var 0) (.cons (.var 1) (.cons (.var 2) .nil))))) (.cons (.ife (.or (.not (.isi (.var 3) .tuple)) (.cmp .ne (.b1 .len (.var 3)) (.con (.int 3)))) (.cons (.ret (.lst .nil)) .nil) .nil) (.cons (.ife (.cmp .eq (.idx (.var 3) (.con (.int 0))) (.con (.str "weights"))) (.cons (.asg (.nm 4) (.call 76 "_law_total" (.cons (.var 0) (.cons (.call 21 "_law_form" (.cons (.idx (.var 0) (.con (.int 0))) (.cons (.var 1) .nil))) (.cons (.slc (.var 3) (.some (.con (.int 1))) .none) .nil))))) (.cons (.ret (.bin .mul (.lst (.cons (.con (.bl true)) .nil)) (.b1 .int (.and (.cmp .isnot (.var 4) (.con .non)) (.cmp .ge (.idx (.var 4) (.con (.int 0))) (.bin .mul (.var 2) (.idx (.var 4) (.con (.int 1))))))))) .nil)) .nil) (.cons (.ife (.or (.cmp .ne (.idx (.var 3) (.con (.int 0))) (.con (.str "table"))) (.not (.call 63 "_law_is_table" (.cons (.var 0) (.cons (.slc (.var 3) (.some (.con (.int 1))) .none) .nil))))) (.cons (.ret (.lst .nil)) .nil) .nil) (.cons (.ret (.bin .mul (.lst (.cons (.con (.bl false)) .nil)) (.b1 .int (.cmp .lt (.call 39 "_law_reckon" (.cons (.var 1) (.cons (.idx (.var 3) (.con (.int 2))) .nil))) (.bin .mul (.var 2) (.idx (.var 3) (.con (.int 1)))))))) .nil)))))⟩
/-- _law_quarrels _law_book_here _law_heard_here _law_total_here -/
def F310 : Fn := ⟨2, 3, (.cons (.ife (.or (.cmp .ne (.b1 .len (.var 1)) (.con (.int 2))) (.cmp .ne (.idx (.var 1) (.con (.int 0))) (.con (.str "quarrel")))) (.cons (.ret (.con (.bl false))) .nil) .nil) (.cons (.asg (.nm 2) (.call 76 "_law_total" (.cons (.var 0) (.cons (.bin .mul (.lst (.cons (.con (.int 0)) .nil)) (.bin .sub (.call 18 "_law_size" (.cons (.idx (.var 0) (.con (.int 0))) .nil)) (.con (.int 1)))) (.cons (.idx (.var 1) (.con (.int 1))) .nil))))) (.cons (.ret (.and (.cmp .isnot (.var 2) (.con .non)) (.cmp .gt (.idx (.var 2) (.con (.int 0))) (.con (.int 0))))) .nil)))⟩
/-- _law_turned_about _law_some _law_group _law_factor -/
def F311 : Fn := ⟨1, 3, (.cons (.ret (.b1 .tuple (.comp (.tup (.cons (.var 1) (.cons (.bin .sub (.con (.int 0)) (.var 2)) .nil))) (.tp (.cons (.nm 1) (.cons (.nm 2) .nil))) [1, 2] (.seq (.var 0)) .yes))) .nil)⟩
/-- _law_fact_sure _law_book_here _law_fact_here _law_found _law_word _law_some _law_bound -/
def F312 : Fn := ⟨2, 6, (.cons (.asg (.tp (.cons (.nm 3) (.cons (.nm 4) (.cons (.nm 5) .nil)))) (.var 1)) (.cons (.asg (.nm 2) (.call 309 "_law_sure" (.cons (.var 0) (.cons (.var 4) (.cons (.var 5) .nil))))) (.cons (.ife (.or (.cmp .eq (.var 3) (.con (.str "least"))) (.cmp .ne (.var 2) (.lst (.cons (.con (.bl true)) .nil)))) (.cons (.ret (.var 2)) .nil) .nil) (.cons (.ret (.call 309 "_law_sure" (.cons (.var 0) (.cons (.call 311 "_law_turned_about" (.cons (.var 4) .nil)) (.cons (.bin .sub (.con (.int 0)) (.var 5)) .nil))))) .nil))))⟩
/-- _law_joined _law_many _law_parts _law_form_here _law_some _law_by _law_one _law_more _law_k -/
def F313 : Fn := ⟨2, 8, (.cons (.asg (.nm 2) (.bin .mul (.lst (.cons (.con (.int 0)) .nil)) (.bin .sub (.call 18 "_law_size" (.cons (.var 0) .nil)) (.con (.int 1))))) (.cons (.for_ (.tp (.cons (.nm 3) (.cons (.nm 4) .nil))) (.seq (.var 1)) (.cons (.asg (.nm 2) (.comp (.bin .add (.var 5) (.bin .mul (.var 4) (.var 6))) (.tp (.cons (.nm 5) (.cons (.nm 6) .nil))) [5, 6] (.zip (.var 2) (.call 21 "_law_form" (.cons (.var 0) (.cons (.var 3) .nil)))) .yes)) .nil)) (.cons (.ife (.cmp .ne (.comp (.var 5) (.nm 5) [5] (.seq (.var 2)) (.one (.or (.cmp .gt (.var 5) (.con (.int 1000))) (.cmp .lt (.var 5) (.neg (.con (.int 1000))))))) (.lst .nil)) (.cons (.ret (.lst .nil)) .nil) .nil) (.cons (.ret (.lst (.cons (.b1 .tuple (.comp (.tup (.cons (.bin .add (.var 7) (.con (.int 1))) (.cons (.var 5) .nil))) (.tp (.cons (.nm 7) (.cons (.nm 5) .nil))) [7, 5] (.enum (.var 2)) (.one (.cmp .ne (.var 5) (.con (.int 0)))))) .nil))) .nil))))⟩
/-- _law_further _law_draw _law_many _law_facts _law_way _law_word _law_some _law_bound _law_group _law_one _law_other _law_by _law_found _law_rest _law_k -/
def F314 : Fn := ⟨3, 14, (.cons (.asg (.tp (.cons (.nm 3) (.cons (.nm 4) (.cons (.nm 5) (.cons (.nm 6) .nil))))) (.tup (.cons (.call 17 "_law_next" (.cons (.var 0) (.cons (.con (.int 5)) .nil))) (.cons (.con (.str "least")) (.cons (.tup .nil) (.cons (.con (.int 0)) .nil)))))) (.cons (.ife (.cmp .ne (.var 2) (.tup .nil)) (.cons (.asg (.tp (.cons (.nm 4) (.cons (.nm 5) (.cons (.nm 6) .nil)))) (.call 37 "_law_among" (.cons (.var 0) (.cons (.var 2) .nil)))) .nil) .nil) (.cons (.ife (.cmp .eq (.var 3) (.con (.int 0))) (.cons (.ret (.tup (.cons (.var 4) (.cons (.var 5) (.cons (.var 6) .nil))))) .nil) .nil) (.cons (.ife (.cmp .eq (.var 3) (.con (.int 1))) (.cons (.ret (.tup (.cons (.con (.str "least")) (.cons (.var 5) (.cons (.b2 .max (.neg (.con (.int 1000))) (.bin .sub (.var 6) (.call 17 "_law_next" (.cons (.var 0) (.cons (.con (.int 9)) .nil))))) .nil))))) .nil) .nil) (.cons (.ife (.or (.cmp .eq (.var 3) (.con (.int 2))) (.cmp .eq (.var 2) (.tup .nil))) (.cons (.asg (.nm 7) (.bin .add (.con (.int 1)) (.call 17 "_law_next" (.cons (.var 0) (.cons (.bin .sub (.call 18 "_law_size" (.cons (.var 1) .nil)) (.con (.int 1))) .nil))))) (.cons (.asg (.nm 8) (.call 37 "_law_among" (.cons (.var 0) (.cons (.comp (.var 13) (.nm 13) [13] (.rng1 (.var 1)) (.one (.call 20 "_law_is_in" (.cons (.var 13) (.cons (.var 7) .nil))))) .nil)))) (.cons (.ret (.tup (.cons (.con (.str "least")) (.cons (.call 292 "_law_pair" (.cons (.var 7) (.cons (.bin .sub (.var 7) (.call 19 "_law_bit" (.cons (.var 8) .nil))) .nil))) (.cons (.con (.int 0)) .nil))))) .nil))) .nil) (.cons (.par [(false, 9), (false, 10)] (.cons (.call 37 "_law_among" (.cons (.var 0) (.cons (.var 2) .nil))) (.cons (.bin .add (.con (.int 1)) (.call 17 "_law_next" (.cons (.var 0) (.cons (.con (.int 2)) .nil)))) .nil))) (.cons (.par [(false, 11), (false, 12)] (.cons (.call 313 "_law_joined" (.cons (.var 1) (.cons (.lst (.cons (.tup (.cons (.var 5) (.cons (.con (.int 1)) .nil))) (.cons (.tup (.cons (.idx (.var 9) (.con (.int 1))) (.cons (.var 10) .nil))) .nil))) .nil))) (.cons (.bin .add (.var 6) (.bin .mul (.var 10) (.idx (.var 9) (.con (.int 2))))) .nil))) (.cons (.ife (.or (.cmp .eq (.var 11) (.lst .nil)) (.cmp .lt (.var 12) (.neg (.con (.int 1000))))) (.cons (.ret (.tup (.cons (.var 4) (.cons (.var 5) (.cons (.var 6) .nil))))) .nil) .nil) (.cons (.ret (.tup (.cons (.con (.str "least")) (.cons (.idx (.var 11) (.con (.int 0))) (.cons (.b2 .min (.con (.int 1000)) (.var 12)) .nil))))) .nil)))))))))⟩
/-- _law_full_book _law_draw _law_turn _law_book_here _law_numbers_here _law_many _law_facts _law_at -/
def F315 : Fn := ⟨1, 7, (.cons (.asg (.tp (.cons (.nm 2) (.cons (.nm 3) .nil))) (.call 42 "_law_book" (.cons (.var 0) (.cons (.con (.int 3)) .nil)))) (.cons (.asg (.tp (.cons (.nm 4) (.cons (.nm 5) .nil))) (.var 2)) (.cons (.for_ (.nm 1) (.rng1 (.call 17 "_law_next" (.cons (.var 0) (.cons (.con (.int 3)) .nil)))) (.cons (.asg (.nm 6) (.call 17 "_law_next" (.cons (.var 0) (.cons (.bin .add (.b1 .len (.var 5)) (.con (.int 1))) .nil)))) (.cons (.asg (.nm 5) (.bin .add (.bin .add (.slc (.var 5) .none (.some (.var 6))) (.tup (.cons (.call 314 "_law_further" (.cons (.var 0) (.cons (.var 4) (.cons (.var 5) .nil)))) .nil))) (.slc (.var 5) (.some (.var 6)) .none))) .nil))) (.cons (.ret (.tup (.cons (.var 4) (.cons (.ite (.cmp .eq (.var 4) (.con (.int 4))) (.slc (.var 5) .none (.some (.con (.int 3)))) (.var 5)) .nil)))) .nil))))⟩
/-- _law_right _law_book_here _law_due _law_many _law_facts _law_k _law_fact_here _law_found -/
def F316 : Fn := ⟨1, 7, (.cons (.asg (.tp (.cons (.nm 2) (.cons (.nm 3) .nil))) (.var 0)) (.cons (.asg (.nm 1) (.tup .nil)) (.cons (.for_ (.tp (.cons (.nm 4) (.cons (.nm 5) .nil))) (.enum (.var 3)) (.cons (.asg (.nm 6) (.call 312 "_law_fact_sure" (.cons (.tup (.cons (.var 2) (.cons (.bin .add (.slc (.var 3) .none (.some (.var 4))) (.slc (.var 3) (.some (.bin .add (.var 4) (.con (.int 1)))) .none)) .nil))) (.cons (.var 5) .nil)))) (.cons (.ife (.cmp .eq (.var 6) (.lst .nil)) (.cons (.ret (.con (.bl false))) .nil) .nil) (.cons (.asg (.nm 1) (.bin .add (.var 1) (.bin .mul (.tup (.cons (.var 4) .nil)) (.b1 .int (.idx (.var 6) (.con (.int 0))))))) .nil)))) (.cons (.ret (.cmp .eq (.b1 .repr (.lst (.cons (.call 308 "needless" (.cons (.var 0) .nil)) (.cons (.call 308 "needless" (.cons (.var 0) .nil)) .nil)))) (.b1 .repr (.lst (.cons (.var 1) (.cons (.var 1) .nil)))))) .nil))))⟩
/-- _law_hand _law_found _law_some _law_one _law_both -/
def F317 : Fn := ⟨0, 4, (.cons (.asg (.tp (.cons (.nm 2) (.cons (.nm 3) .nil))) (.tup (.cons (.tup (.cons (.con (.str "least")) (.cons (.tup (.cons (.tup (.cons (.con (.int 1)) (.cons (.con (.int 1)) .nil))) .nil)) (.cons (.con (.int 5)) .nil)))) (.cons (.tup (.cons (.con (.str "least")) (.cons (.tup (.cons (.tup (.cons (.con (.int 3)) (.cons (.con (.int 1)) .nil))) .nil)) (.cons (.con (.int 5)) .nil)))) .nil)))) (.cons (.own 0 (.lst (.cons (.tup (.cons (.tup (.cons (.con (.int 2)) (.cons (.tup .nil) .nil))) (.cons (.tup .nil) .nil))) (.cons (.tup (.cons (.tup (.cons (.con (.int 2)) (.cons (.tup (.cons (.var 2) (.cons (.var 3) .nil))) .nil))) (.cons (.tup (.cons (.con (.int 1)) .nil)) .nil))) (.cons (.tup (.cons (.tup (.cons (.con (.int 2)) (.cons (.tup (.cons (.var 3) (.cons (.var 2) .nil))) .nil))) (.cons (.tup (.cons (.con (.int 0)) .nil)) .nil))) .nil))))) (.cons (.appm 0 (.tup (.cons (.tup (.cons (.con (.int 2)) (.cons (.tup (.cons (.var 2) (.cons (.var 2) .nil))) .nil))) (.cons (.tup (.cons (.con (.int 0)) (.cons (.con (.int 1)) .nil))) .nil)))) (.cons (.appm 0 (.tup (.cons (.tup (.cons (.con (.int 2)) (.cons (.tup (.cons (.var 2) (.cons (.var 3) (.cons (.tup (.cons (.con (.str "least")) (.cons (.tup (.cons (.tup (.cons (.con (.int 1)) (.cons (.con (.int 1)) .nil))) .nil)) (.cons (.con (.int 6)) .nil)))) .nil)))) .nil))) (.cons (.tup (.cons (.con (.int 0)) (.cons (.con (.int 1)) .nil))) .nil)))) (.cons (.appm 0 (.tup (.cons (.tup (.cons (.con (.int 2)) (.cons (.tup (.cons (.tup (.cons (.con (.str "least")) (.cons (.tup (.cons (.tup (.cons (.con (.int 2)) (.cons (.neg (.con (.int 1))) .nil))) (.cons (.tup (.cons (.con (.int 3)) (.cons (.con (.int 1)) .nil))) .nil))) (.cons (.con (.int 0)) .nil)))) (.cons (.tup (.cons (.con (.str "least")) (.cons (.tup .nil) (.cons (.neg (.con (.int 7))) .nil)))) .nil))) .nil))) (.cons (.tup (.cons (.con (.int 0)) (.cons (.con (.int 1)) .nil))) .nil)))) (.cons (.asg (.nm 1) (.tup (.cons (.tup (.cons (.con (.str "same")) (.cons (.tup (.cons (.tup (.cons (.con (.int 1)) (.cons (.con (.int 1)) .nil))) .nil)) (.cons (.con (.int 5)) .nil)))) (.cons (.var 2) (.cons (.tup (.cons (.con (.str "least")) (.cons (.tup (.cons (.tup (.cons (.con (.int 1)) (.cons (.neg (.con (.int 1))) .nil))) .nil)) (.cons (.neg (.con (.int 5))) .nil)))) .nil))))) (.frz 0 (.cons (.own 0 (.bin .add (.var 0) (.lst (.cons (.tup (.cons (.tup (.cons (.con (.int 2)) (.cons (.var 1) .nil))) (.cons (.tup (.cons (.con (.int 0)) (.cons (.con (.int 1)) (.cons (.con (.int 2)) .nil)))) .nil))) (.cons (.tup (.cons (.tup (.cons (.con (.int 2)) (.cons (.slc (.var 1) .none (.some (.con (.int 2)))) .nil))) (.cons (.tup (.cons (.con (.int 1)) .nil)) .nil))) (.cons (.tup (.cons (.tup (.cons (.con (.int 2)) (.cons (.slc (.var 1) (.some (.con (.int 1))) .none) .nil))) (.cons (.tup .nil) .nil))) .nil)))))) (.frz 0 (.cons (.ret (.bin .add (.var 0) (.lst (.cons (.tup (.cons (.tup (.cons (.con (.int 3)) (.cons (.tup (.cons (.tup (.cons (.con (.str "same")) (.cons (.tup (.cons (.tup (.cons (.con (.int 7)) (.cons (.con (.int 1)) .nil))) .nil)) (.cons (.con (.int 4)) .nil)))) (.cons (.tup (.cons (.con (.str "least")) (.cons (.tup (.cons (.tup (.cons (.con (.int 1)) (.cons (.neg (.con (.int 1))) .nil))) .nil)) (.cons (.neg (.con (.int 4))) .nil)))) .nil))) .nil))) (.cons (.tup (.cons (.con (.int 1)) .nil)) .nil))) .nil)))) .nil))))))))))⟩
/-- law _law_script _law_draw _law_turn _law_book_here _law_kept_here _law_torn_here _law_bad _law_place _law_due -/
def F318 : Fn := ⟨1, 9, (.cons (.asg (.nm 1) (.call 16 "_law_begun" (.cons (.var 0) .nil))) (.cons (.for_ (.nm 2) (.rng1 (.bin .add (.con (.int 1)) (.bin .fdiv (.b2 .min (.con (.int 60)) (.b1 .len (.var 0))) (.con (.int 20))))) (.cons (.asg (.nm 3) (.call 315 "_law_full_book" (.cons (.var 1) .nil))) (.cons (.asg (.nm 4) (.b1 .repr (.var 3))) (.cons (.ife (.or (.not (.call 316 "_law_right" (.cons (.var 3) .nil))) (.cmp .ne (.b1 .repr (.var 3)) (.var 4))) (.cons (.ret (.con (.bl false))) .nil) .nil) (.cons (.asg (.tp (.cons (.nm 6) (.cons (.nm 7) .nil))) (.idx (.call0 294 "_law_no_books") (.call 17 "_law_next" (.cons (.var 1) (.cons (.con (.int 8)) .nil))))) (.cons (.ife (.cmp .ne (.lamc 293 "_law_heard" (.call 308 "needless" (.cons (.var 6) .nil))) (.tup (.cons (.con (.str "book")) (.cons (.var 7) .nil)))) (.cons (.ret (.con (.bl false))) .nil) .nil) (.cons (.asg (.nm 5) (.call 296 "_law_torn" (.cons (.var 1) .nil))) (.cons (.ife (.not (.call 310 "_law_quarrels" (.cons (.var 5) (.cons (.lamc 293 "_law_heard" (.call 308 "needless" (.cons (.var 5) .nil))) .nil)))) (.cons (.ret (.con (.bl false))) .nil) .nil) .nil)))))))) (.cons (.ife (.cmp .ne (.call 308 "needless" (.cons (.tup (.cons (.con (.int 2)) (.cons (.bin .mul (.tup (.cons (.tup (.cons (.con (.str "least")) (.cons (.tup .nil) (.cons (.con (.int 0)) .nil)))) .nil)) (.con (.int 8))) .nil))) .nil)) (.tup (.cons (.con (.int 0)) (.cons (.con (.int 1)) (.cons (.con (.int 2)) (.cons (.con (.int 3)) (.cons (.con (.int 4)) (.cons (.con (.int 5)) (.cons (.con (.int 6)) (.cons (.con (.int 7)) .nil)))))))))) (.cons (.ret (.con (.bl false))) .nil) .nil) (.cons (.ret (.cmp .eq (.comp (.var 3) (.tp (.cons (.nm 3) (.cons (.nm 8) .nil))) [3, 8] (.seq (.call0 317 "_law_hand")) (.one (.cmp .ne (.b1 .repr (.call 308 "needless" (.cons (.var 3) .nil))) (.b1 .repr (.var 8))))) (.lst .nil))) .nil))))⟩
/-- never_loses book script partner many -/
def F359 : Fn := ⟨3, 4, (.cons (.asg (.nm 3) (.idx (.call 110 "need_calm" (.cons (.var 0) .nil)) (.con (.int 0)))) (.cons (.exp (.call 12 "need_script" (.cons (.var 3) (.cons (.var 1) .nil)))) (.cons (.ret (.call 115 "does_hold" (.cons (.var 0) (.cons (.call 13 "pay_in" (.cons (.var 3) (.cons (.var 1) (.cons (.call 2 "need_partner" (.cons (.var 3) (.cons (.var 2) .nil))) .nil)))) (.cons (.con (.int 0)) .nil))))) .nil)))⟩
/-- less many one other mine yours -/
def F360 : Fn := ⟨3, 5, (.cons (.ret (.call 7 "sum_of" (.cons (.comp (.bin .sub (.var 3) (.var 4)) (.tp (.cons (.nm 3) (.cons (.nm 4) .nil))) [3, 4] (.zip (.call 69 "form_of" (.cons (.var 0) (.cons (.var 1) .nil))) (.call 69 "form_of" (.cons (.var 0) (.cons (.var 2) .nil)))) .yes) .nil))) .nil)⟩
/-- are_as_good book one other many partner mine yours -/
def F361 : Fn := ⟨3, 7, (.cons (.asg (.nm 3) (.idx (.call 110 "need_calm" (.cons (.var 0) .nil)) (.con (.int 0)))) (.cons (.exp (.call 12 "need_script" (.cons (.var 3) (.cons (.var 1) .nil)))) (.cons (.exp (.call 12 "need_script" (.cons (.var 3) (.cons (.var 2) .nil)))) (.cons (.for_ (.nm 4) (.rng1 (.var 3)) (.cons (.par [(false, 5), (false, 6)] (.cons (.call 13 "pay_in" (.cons (.var 3) (.cons (.var 1) (.cons (.var 4) .nil)))) (.cons (.call 13 "pay_in" (.cons (.var 3) (.cons (.var 2) (.cons (.var 4) .nil)))) .nil))) (.cons (.ife (.or (.not (.call 115 "does_hold" (.cons (.var 0) (.cons (.call 360 "less" (.cons (.var 3) (.cons (.var 5) (.cons (.var 6) .nil)))) (.cons (.con (.int 0)) .nil))))) (.not (.call 115 "does_hold" (.cons (.var 0) (.cons (.call 360 "less" (.cons (.var 3) (.cons (.var 6) (.cons (.var 5) .nil)))) (.cons (.con (.int 0)) .nil)))))) (.cons (.ret (.con (.bl false))) .nil) .nil) .nil))) (.cons (.ret (.con (.bl true))) .nil)))))⟩
/-- _law_total _law_book _law_form_here _law_thing _law_rows_here _law_here _law_total_here _law_row_here _law_number _law_one _law_more _law_factor -/
def F362 : Fn := ⟨3, 11, (.cons (.asg (.nm 3) (.call 288 "_law_rows" (.cons (.var 0) .nil))) (.cons (.ife (.or (.not (.isi (.var 2) .tuple)) (.or (.cmp .ne (.b1 .len (.var 2)) (.con (.int 2))) (.not (.call 61 "_law_whole" (.cons (.idx (.var 2) (.con (.int 0))) (.cons (.con (.int 1)) .nil)))))) (.cons (.ret (.con .non)) .nil) .nil) (.cons (.ife (.or (.not (.isi (.idx (.var 2) (.con (.int 1))) .tuple)) (.cmp .ne (.b1 .len (.idx (.var 2) (.con (.int 1)))) (.b1 .len (.var 3)))) (.cons (.ret (.con .non)) .nil) .nil) (.cons (.par [(false, 4), (false, 5)] (.cons (.bin .mul (.lst (.cons (.con (.int 0)) .nil)) (.b1 .len (.var 1))) (.cons (.con (.int 0)) .nil))) (.cons (.for_ (.tp (.cons (.nm 6) (.cons (.nm 7) .nil))) (.zip (.var 3) (.idx (.var 2) (.con (.int 1)))) (.cons (.ife (.not (.call 61 "_law_whole" (.cons (.var 7) (.cons (.ite (.cmp .eq (.idx (.var 6) (.con (.int 0))) (.con (.str "same"))) (.con .non) (.con (.int 0))) .nil)))) (.cons (.ret (.con .non)) .nil) .nil) (.cons (.asg (.nm 4) (.comp (.bin .add (.var 8) (.bin .mul (.var 7) (.var 9))) (.tp (.cons (.nm 8) (.cons (.nm 9) .nil))) [8, 9] (.zip (.var 4) (.call 21 "_law_form" (.cons (.idx (.var 0) (.con (.int 0))) (.cons (.idx (.var 6) (.con (.int 1))) .nil)))) .yes)) (.cons (.asg (.nm 5) (.bin .add (.var 5) (.bin .mul (.var 7) (.idx (.var 6) (.con (.int 2)))))) .nil)))) (.cons (.ret (.ite (.cmp .eq (.var 4) (.comp (.bin .mul (.idx (.var 2) (.con (.int 0))) (.var 10)) (.nm 10) [10] (.seq (.var 1)) .yes)) (.call 64 "_law_fraction" (.cons (.var 5) (.cons (.idx (.var 2) (.con (.int 0))) .nil))) (.con .non))) .nil))))))⟩
/-- _law_kept _law_fact _law_unit _law_numbers_here _law_value _law_due -/
def F369 : Fn := ⟨3, 5, (.cons (.par [(false, 3), (false, 4)] (.cons (.call 39 "_law_reckon" (.cons (.idx (.var 0) (.con (.int 1))) (.cons (.var 2) .nil))) (.cons (.bin .mul (.idx (.var 0) (.con (.int 2))) (.var 1)) .nil))) (.cons (.ret (.ite (.cmp .eq (.idx (.var 0) (.con (.int 0))) (.con (.str "same"))) (.cmp .eq (.var 3) (.var 4)) (.cmp .ge (.var 3) (.var 4)))) .nil))⟩
/-- _law_is_table _law_book _law_thing _law_one _law_row_here -/
def F370 : Fn := ⟨2, 4, (.cons (.ife (.or (.not (.isi (.var 1) .tuple)) (.or (.cmp .ne (.b1 .len (.var 1)) (.con (.int 2))) (.not (.call 61 "_law_whole" (.cons (.idx (.var 1) (.con (.int 0))) (.cons (.con (.int 1)) .nil)))))) (.cons (.ret (.con (.bl false))) .nil) .nil) (.cons (.ife (.or (.not (.isi (.idx (.var 1) (.con (.int 1))) .tuple)) (.or (.cmp .ne (.b1 .len (.idx (.var 1) (.con (.int 1)))) (.call 18 "_law_size" (.cons (.idx (.var 0) (.con (.int 0))) .nil))) (.cmp .ne (.idx (.idx (.var 1) (.con (.int 1))) (.con (.int 0))) (.con (.int 0))))) (.cons (.ret (.con (.bl false))) .nil) .nil) (.cons (.ife (.cmp .ne (.comp (.var 2) (.nm 2) [2] (.seq (.idx (.var 1) (.con (.int 1)))) (.one (.not (.call 61 "_law_whole" (.cons (.var 2) (.cons (.con .non) .nil)))))) (.lst .nil)) (.cons (.ret (.con (.bl false))) .nil) .nil) (.cons (.ret (.cmp .eq (.comp (.var 3) (.nm 3) [3] (.seq (.call 288 "_law_rows" (.cons (.var 0) .nil))) (.one (.not (.call 369 "_law_kept" (.cons (.var 3) (.cons (.idx (.var 1) (.con (.int 0))) (.cons (.idx (.var 1) (.con (.int 1))) .nil))))))) (.lst .nil))) .nil))))⟩
/-- _law_less _law_many _law_one _law_other _law_mine _law_yours -/
def F371 : Fn := ⟨3, 5, (.cons (.ret (.call 23 "_law_sum_of" (.cons (.comp (.bin .sub (.var 3) (.var 4)) (.tp (.cons (.nm 3) (.cons (.nm 4) .nil))) [3, 4] (.zip (.var 1) (.var 2)) .yes) .nil))) .nil)⟩
/-- _law_twin _law_draw _law_many _law_row_here _law_group _law_way _law_at _law_one _law_some -/
def F372 : Fn := ⟨3, 8, (.cons (.par [(false, 4), (false, 5)] (.cons (.call 17 "_law_next" (.cons (.var 0) (.cons (.con (.int 5)) .nil))) (.cons (.call 17 "_law_next" (.cons (.var 0) (.cons (.bin .add (.b1 .len (.var 2)) (.con (.int 1))) .nil))) .nil))) (.cons (.asg (.nm 3) (.idx (.call 22 "_law_pays" (.cons (.var 1) (.cons (.slc (.var 2) .none (.some (.var 5))) .nil))) (.con (.int 1)))) (.cons (.ife (.cmp .eq (.var 4) (.con (.int 0))) (.cons (.asg (.nm 6) (.call 17 "_law_next" (.cons (.var 0) (.cons (.var 1) .nil)))) (.cons (.asg (.nm 7) (.tup (.cons (.tup (.cons (.con (.str "join")) (.cons (.var 6) .nil))) (.cons (.tup (.cons (.con (.str "leave")) (.cons (.var 6) .nil))) .nil)))) (.cons (.asg (.nm 7) (.ite (.call 20 "_law_is_in" (.cons (.var 6) (.cons (.var 3) .nil))) (.rev (.var 7)) (.var 7))) (.cons (.ret (.bin .add (.bin .add (.slc (.var 2) .none (.some (.var 5))) (.var 7)) (.slc (.var 2) (.some (.var 5)) .none))) .nil)))) .nil) (.cons (.ife (.and (.cmp .eq (.var 4) (.con (.int 1))) (.cmp .ne (.var 2) (.tup .nil))) (.cons (.ret (.slc (.var 2) .none (.some (.bin .sub (.b1 .len (.var 2)) (.con (.int 1)))))) .nil) .nil) (.cons (.ife (.and (.cmp .eq (.var 4) (.con (.int 2))) (.and (.cmp .gt (.var 5) (.con (.int 1))) (.cmp .ne (.idx (.idx (.var 2) (.bin .sub (.var 5) (.con (.int 1)))) (.con (.int 1))) (.idx (.idx (.var 2) (.bin .sub (.var 5) (.con (.int 2)))) (.con (.int 1)))))) (.cons (.ret (.bin .add (.bin .add (.slc (.var 2) .none (.some (.bin .sub (.var 5) (.con (.int 2))))) (.rev (.slc (.var 2) (.some (.bin .sub (.var 5) (.con (.int 2)))) (.some (.var 5))))) (.slc (.var 2) (.some (.var 5)) .none))) .nil) .nil) (.cons (.ife (.cmp .eq (.var 4) (.con (.int 3))) (.cons (.ret (.var 2)) .nil) .nil) (.cons (.ret (.call 24 "_law_row" (.cons (.var 0) (.cons (.var 1) (.cons (.con (.int 6)) .nil))))) .nil)))))))⟩
/-- _law_book_of _law_draw _law_many _law_row_here _law_twin_here _law_partner _law_numbers_here _law_facts _law_mine _law_yours _law_some _law_value -/
def F373 : Fn := ⟨4, 11, (.cons (.par [(false, 5), (false, 6)] (.cons (.call 38 "_law_numbers" (.cons (.var 0) (.cons (.var 1) .nil))) (.cons (.tup .nil) .nil))) (.cons (.par [(false, 7), (false, 8)] (.cons (.idx (.call 22 "_law_pays" (.cons (.var 1) (.cons (.var 2) .nil))) (.con (.int 0))) (.cons (.idx (.call 22 "_law_pays" (.cons (.var 1) (.cons (.var 3) .nil))) (.con (.int 0))) .nil))) (.cons (.for_ (.nm 4) (.rng1 (.var 1)) (.cons (.asg (.nm 9) (.call 371 "_law_less" (.cons (.var 1) (.cons (.idx (.var 7) (.var 4)) (.cons (.idx (.var 8) (.var 4)) .nil))))) (.cons (.asg (.nm 10) (.call 39 "_law_reckon" (.cons (.var 9) (.cons (.var 5) .nil)))) (.cons (.ife (.and (.cmp .gt (.call 17 "_law_next" (.cons (.var 0) (.cons (.con (.int 3)) .nil))) (.con (.int 0))) (.cmp .eq (.var 10) (.con (.int 0)))) (.cons (.asg (.nm 6) (.bin .add (.var 6) (.tup (.cons (.tup (.cons (.con (.str "same")) (.cons (.var 9) (.cons (.con (.int 0)) .nil)))) .nil)))) .nil) .nil) (.cons (.ife (.cmp .eq (.call 17 "_law_next" (.cons (.var 0) (.cons (.con (.int 3)) .nil))) (.con (.int 0))) (.cons (.asg (.nm 9) (.call 23 "_law_sum_of" (.cons (.idx (.var 7) (.var 4)) .nil))) (.cons (.asg (.nm 6) (.bin .add (.var 6) (.tup (.cons (.tup (.cons (.con (.str "least")) (.cons (.var 9) (.cons (.b2 .min (.con (.int 0)) (.call 39 "_law_reckon" (.cons (.var 9) (.cons (.var 5) .nil)))) .nil)))) .nil)))) .nil)) .nil) .nil))))) (.cons (.ret (.tup (.cons (.var 1) (.cons (.var 6) .nil)))) .nil))))⟩
/-- _law_right _law_book _law_row_here _law_twin_here _law_many _law_partner _law_sums _law_found _law_got _law_mine _law_yours _law_one _law_other -/
def F374 : Fn := ⟨3, 12, (.cons (.asg (.nm 3) (.idx (.var 0) (.con (.int 0)))) (.cons (.par [(false, 8), (false, 9)] (.cons (.idx (.call 22 "_law_pays" (.cons (.var 3) (.cons (.var 1) .nil))) (.con (.int 0))) (.cons (.idx (.call 22 "_law_pays" (.cons (.var 3) (.cons (.var 2) .nil))) (.con (.int 0))) .nil))) (.cons (.for_ (.nm 4) (.rng1 (.var 3)) (.cons (.asg (.nm 6) (.call 291 "_law_sure" (.cons (.var 0) (.cons (.call 23 "_law_sum_of" (.cons (.idx (.var 8) (.var 4)) .nil)) (.cons (.con (.int 0)) .nil))))) (.cons (.asg (.nm 7) (.lst (.cons (.call 359 "never_loses" (.cons (.var 0) (.cons (.var 1) (.cons (.var 4) .nil)))) (.cons (.call 359 "never_loses" (.cons (.var 0) (.cons (.var 1) (.cons (.var 4) .nil)))) .nil)))) (.cons (.ife (.or (.cmp .eq (.var 6) (.lst .nil)) (.cmp .ne (.b1 .repr (.var 7)) (.b1 .repr (.bin .mul (.var 6) (.con (.int 2)))))) (.cons (.ret (.con (.bl false))) .nil) .nil) .nil)))) (.cons (.asg (.nm 5) (.comp (.call 371 "_law_less" (.cons (.var 3) (.cons (.var 10) (.cons (.var 11) .nil)))) (.tp (.cons (.nm 10) (.cons (.nm 11) .nil))) [10, 11] (.zip (.var 8) (.var 9)) .yes)) (.cons (.asg (.nm 5) (.bin .add (.var 5) (.comp (.call 371 "_law_less" (.cons (.var 3) (.cons (.var 10) (.cons (.var 11) .nil)))) (.tp (.cons (.nm 10) (.cons (.nm 11) .nil))) [10, 11] (.zip (.var 9) (.var 8)) .yes))) (.cons (.asg (.nm 6) (.call 297 "_law_all_sure" (.cons (.var 0) (.cons (.var 5) .nil)))) (.cons (.asg (.nm 7) (.lst (.cons (.call 361 "are_as_good" (.cons (.var 0) (.cons (.var 1) (.cons (.var 2) .nil)))) (.cons (.call 361 "are_as_good" (.cons (.var 0) (.cons (.var 2) (.cons (.var 1) .nil)))) .nil)))) (.cons (.ife (.or (.cmp .eq (.var 6) (.lst .nil)) (.cmp .ne (.b1 .repr (.var 7)) (.b1 .repr (.bin .mul (.var 6) (.con (.int 2)))))) (.cons (.ret (.con (.bl false))) .nil) .nil) (.cons (.ret (.cmp .is (.call 361 "are_as_good" (.cons (.var 0) (.cons (.var 1) (.cons (.var 1) .nil)))) (.con (.bl true)))) .nil)))))))))⟩
/-- _law_hand _law_even _law_got _law_one _law_other _law_book -/
def F375 : Fn := ⟨0, 5, (.cons (.asg (.tp (.cons (.nm 2) (.cons (.nm 3) .nil))) (.tup (.cons (.tup (.cons (.tup (.cons (.con (.str "join")) (.cons (.con (.int 0)) .nil))) (.cons (.tup (.cons (.con (.str "join")) (.cons (.con (.int 1)) .nil))) .nil))) (.cons (.tup (.cons (.tup (.cons (.con (.str "join")) (.cons (.con (.int 1)) .nil))) (.cons (.tup (.cons (.con (.str "join")) (.cons (.con (.int 0)) .nil))) .nil))) .nil)))) (.cons (.asg (.nm 0) (.tup (.cons (.con (.int 2)) (.cons (.tup (.cons (.tup (.cons (.con (.str "same")) (.cons (.tup (.cons (.tup (.cons (.con (.int 1)) (.cons (.con (.int 1)) .nil))) (.cons (.tup (.cons (.con (.int 2)) (.cons (.con (.int 1)) .nil))) (.cons (.tup (.cons (.con (.int 3)) (.cons (.neg (.con (.int 1))) .nil))) .nil)))) (.cons (.con (.int 0)) .nil)))) .nil)) .nil)))) (.cons (.own 1 (.comp (.call 361 "are_as_good" (.cons (.var 4) (.cons (.var 2) (.cons (.var 3) .nil)))) (.nm 4) [4] (.seq (.tup (.cons (.tup (.cons (.con (.int 2)) (.cons (.tup .nil) .nil))) (.cons (.var 0) .nil)))) .yes)) (.frz 1 (.cons (.own 1 (.bin .add (.var 1) (.comp (.call 359 "never_loses" (.cons (.var 4) (.cons (.bin .add (.var 2) (.tup (.cons (.tup (.cons (.con (.str "leave")) (.cons (.con (.int 0)) .nil))) .nil))) (.cons (.con (.int 0)) .nil)))) (.nm 4) [4] (.seq (.tup (.cons (.tup (.cons (.con (.int 2)) (.cons (.tup .nil) .nil))) (.cons (.var 0) .nil)))) .yes))) (.frz 1 (.cons (.own 1 (.bin .add (.var 1) (.lst (.cons (.call 359 "never_loses" (.cons (.tup (.cons (.con (.int 2)) (.cons (.tup .nil) .nil))) (.cons (.var 2) (.cons (.con (.int 0)) .nil)))) (.cons (.call 359 "never_loses" (.cons (.tup (.cons (.con (.int 2)) (.cons (.tup .nil) .nil))) (.cons (.var 2) (.cons (.con (.int 1)) .nil)))) .nil))))) (.frz 1 (.cons (.own 1 (.bin .add (.var 1) (.lst (.cons (.call 361 "are_as_good" (.cons (.tup (.cons (.con (.int 2)) (.cons (.tup .nil) .nil))) (.cons (.tup .nil) (.cons (.tup (.cons (.tup (.cons (.con (.str "join")) (.cons (.con (.int 1)) .nil))) .nil)) .nil)))) (.cons (.call 361 "are_as_good" (.cons (.tup (.cons (.con (.int 2)) (.cons (.tup .nil) .nil))) (.cons (.tup .nil) (.cons (.tup .nil) .nil)))) .nil))))) (.cons (.appm 1 (.call 361 "are_as_good" (.cons (.tup (.cons (.con (.int 2)) (.cons (.tup (.cons (.tup (.cons (.con (.str "same")) (.cons (.tup (.cons (.tup (.cons (.con (.int 2)) (.cons (.con (.int 1)) .nil))) .nil)) (.cons (.con (.int 0)) .nil)))) .nil)) .nil))) (.cons (.tup .nil) (.cons (.tup (.cons (.tup (.cons (.con (.str "join")) (.cons (.con (.int 1)) .nil))) .nil)) .nil))))) (.cons (.appm 1 (.call 361 "are_as_good" (.cons (.tup (.cons (.con (.int 4)) (.cons (.tup .nil) .nil))) (.cons (.tup .nil) (.cons (.tup (.cons (.tup (.cons (.con (.str "join")) (.cons (.con (.int 3)) .nil))) .nil)) .nil))))) (.frz 1 (.cons (.ret (.cmp .eq (.var 1) (.lst (.cons (.con (.bl false)) (.cons (.con (.bl true)) (.cons (.con (.bl false)) (.cons (.con (.bl true)) (.cons (.con (.bl true)) (.cons (.con (.bl true)) (.cons (.con (.bl false)) (.cons (.con (.bl true)) (.cons (.con (.bl true)) (.cons (.con (.bl false)) .nil))))))))))))) .nil)))))))))))))⟩
/-- law _law_script _law_draw _law_turn _law_many _law_row_here _law_twin_here _law_book _law_kept_here -/
def F376 : Fn := ⟨1, 8, (.cons (.asg (.nm 1) (.call 16 "_law_begun" (.cons (.var 0) .nil))) (.cons (.for_ (.nm 2) (.rng1 (.bin .add (.con (.int 1)) (.bin .fdiv (.b2 .min (.con (.int 60)) (.b1 .len (.var 0))) (.con (.int 15))))) (.cons (.asg (.nm 3) (.bin .add (.con (.int 2)) (.call 17 "_law_next" (.cons (.var 1) (.cons (.con (.int 2)) .nil))))) (.cons (.asg (.nm 4) (.call 24 "_law_row" (.cons (.var 1) (.cons (.var 3) (.cons (.con (.int 8)) .nil))))) (.cons (.asg (.nm 5) (.call 372 "_law_twin" (.cons (.var 1) (.cons (.var 3) (.cons (.var 4) .nil))))) (.cons (.asg (.nm 6) (.call 373 "_law_book_of" (.cons (.var 1) (.cons (.var 3) (.cons (.var 4) (.cons (.var 5) .nil)))))) (.cons (.asg (.nm 7) (.b1 .repr (.lst (.cons (.var 6) (.cons (.var 4) (.cons (.var 5) .nil)))))) (.cons (.ife (.or (.not (.call 374 "_law_right" (.cons (.var 6) (.cons (.var 4) (.cons (.var 5) .nil))))) (.cmp .ne (.b1 .repr (.lst (.cons (.var 6) (.cons (.var 4) (.cons (.var 5) .nil))))) (.var 7))) (.cons (.ret (.con (.bl false))) .nil) .nil) .nil))))))) (.cons (.ret (.call0 375 "_law_hand")) .nil)))⟩
/-- _law_kinds _law_error _law_kinds_here _law_k -/
def F483 : Fn := ⟨1, 3, (.cons (.asg (.nm 1) (.lst (.cons (.isx (.var 0) 1 "BadBook") (.cons (.isx (.var 0) 2 "BadText") (.cons (.isx (.var 0) 3 "BadSum") .nil))))) (.cons (.asg (.nm 1) (.bin .add (.var 1) (.lst (.cons (.isx (.var 0) 4 "BadNumber") (.cons (.isx (.var 0) 5 "BadRule") (.cons (.isx (.var 0) 6 "BadScript") .nil)))))) (.cons (.asg (.nm 1) (.bin .add (.var 1) (.lst (.cons (.isx (.var 0) 7 "BadPaper") (.cons (.isx (.var 0) 8 "BadDeed") (.cons (.isx (.var 0) 9 "Quarrel") .nil)))))) (.cons (.asg (.nm 1) (.bin .add (.var 1) (.lst (.cons (.isx (.var 0) 10 "Missing") (.cons (.isx (.var 0) 11 "TooMany") .nil))))) (.cons (.ret (.comp (.var 2) (.nm 2) [2] (.rng1 (.con (.int 11))) (.one (.idx (.var 1) (.var 2))))) .nil)))))⟩
/-- _law_bases _law_error _law_bases_here -/
def F484 : Fn := ⟨1, 2, (.cons (.asg (.nm 1) (.lst (.cons (.isx (.var 0) 0 "StayError") (.cons (.isb (.var 0) 0) (.cons (.isb (.var 0) 1) .nil))))) (.cons (.ret (.bin .add (.var 1) (.lst (.cons (.isb (.var 0) 2) (.cons (.isb (.var 0) 3) .nil))))) .nil))⟩
/-- law _law_script _law_draw _law_some _law_turn _law_caught e _law_one _law_every _law_told _law_error _law_k -/
def F485 : Fn := ⟨1, 11, (.cons (.asg (.nm 1) (.call 16 "_law_begun" (.cons (.var 0) .nil))) (.cons (.asg (.nm 2) (.lst (.cons (.tup .nil) (.cons (.tup (.cons (.con (.int 0)) .nil)) (.cons (.tup (.cons (.con (.str "fact")) (.cons (.con (.int 3)) .nil))) (.cons (.con (.str "form")) (.cons (.con (.str "")) (.cons (.con .non) (.cons (.con (.int 5)) (.cons (.lst .nil) (.cons .dic (.cons (.con (.bl true)) (.cons (.bin .sub (.bin .pow (.con (.int 10)) (.con (.int 30))) (.con (.int 1))) .nil))))))))))))) (.cons (.for_ (.nm 3) (.rng1 (.bin .add (.con (.int 2)) (.bin .fdiv (.b2 .min (.con (.int 60)) (.b1 .len (.var 0))) (.con (.int 6))))) (.cons (.asg (.nm 6) (.idx (.var 2) (.call 17 "_law_next" (.cons (.var 1) (.cons (.b1 .len (.var 2)) .nil))))) (.cons (.asg (.nm 7) (.lst (.cons (.mke 1 "BadBook" (.var 6)) (.cons (.mke 2 "BadText" (.var 6)) (.cons (.mke 3 "BadSum" (.var 6)) (.cons (.mke 4 "BadNumber" (.var 6)) (.cons (.mke 5 "BadRule" (.var 6)) (.cons (.mke 6 "BadScript" (.var 6)) .nil)))))))) (.cons (.asg (.nm 7) (.bin .add (.var 7) (.lst (.cons (.mke 7 "BadPaper" (.var 6)) (.cons (.mke 8 "BadDeed" (.var 6)) (.cons (.mke 9 "Quarrel" (.var 6)) (.cons (.mke 10 "Missing" (.var 6)) (.cons (.mke 11 "TooMany" (.var 6)) .nil)))))))) (.cons (.asg (.nm 8) (.lst (.cons (.fld (.idx (.var 7) (.con (.int 0))) "place") (.cons (.fld (.idx (.var 7) (.con (.int 1))) "place") (.cons (.fld (.idx (.var 7) (.con (.int 2))) "value") (.cons (.fld (.idx (.var 7) (.con (.int 3))) "value") (.cons (.fld (.idx (.var 7) (.con (.int 4))) "value") (.cons (.fld (.idx (.var 7) (.con (.int 5))) "at") .nil)))))))) (.cons (.asg (.nm 8) (.bin .add (.var 8) (.lst (.cons (.fld (.idx (.var 7) (.con (.int 6))) "word") (.cons (.fld (.idx (.var 7) (.con (.int 7))) "word") (.cons (.fld (.idx (.var 7) (.con (.int 8))) "weights") (.cons (.fld (.idx (.var 7) (.con (.int 9))) "name") (.cons (.fld (.idx (.var 7) (.con (.int 10))) "most") .nil)))))))) (.cons (.ife (.or (.cmp .ne (.b1 .repr (.var 8)) (.b1 .repr (.bin .mul (.lst (.cons (.var 6) .nil)) (.con (.int 11))))) (.cmp .ne (.comp (.call 483 "_law_kinds" (.cons (.var 9) .nil)) (.nm 9) [9] (.seq (.var 7)) .yes) (.comp (.lst (.cons (.var 10) .nil)) (.nm 10) [10] (.rng1 (.con (.int 11))) .yes))) (.cons (.ret (.con (.bl false))) .nil) .nil) (.cons (.ife (.cmp .ne (.comp (.call 484 "_law_bases" (.cons (.var 9) .nil)) (.nm 9) [9] (.seq (.slc (.var 7) .none (.some (.con (.int 9))))) .yes) (.bin .mul (.lst (.cons (.lst (.cons (.con (.bl true)) (.cons (.con (.bl true)) (.cons (.con (.bl false)) (.cons (.con (.bl false)) (.cons (.con (.bl false)) .nil)))))) .nil)) (.con (.int 9)))) (.cons (.ret (.con (.bl false))) .nil) .nil) (.cons (.ife (.cmp .ne (.call 484 "_law_bases" (.cons (.idx (.var 7) (.con (.int 9))) .nil)) (.lst (.cons (.con (.bl false)) (.cons (.con (.bl false)) (.cons (.con (.bl true)) (.cons (.con (.bl true)) (.cons (.con (.bl false)) .nil))))))) (.cons (.ret (.con (.bl false))) .nil) .nil) (.cons (.ife (.cmp .ne (.call 484 "_law_bases" (.cons (.idx (.var 7) (.con (.int 10))) .nil)) (.lst (.cons (.con (.bl false)) (.cons (.con (.bl false)) (.cons (.con (.bl false)) (.cons (.con (.bl false)) (.cons (.con (.bl true)) .nil))))))) (.cons (.ret (.con (.bl false))) .nil) .nil) .nil)))))))))) (.cons (.asg (.nm 4) (.con .non)) (.cons (.tryc none (.call 33 "need_book" (.cons (.con .non) .nil)) [(0, "StayError")] 5 4) (.cons (.ret (.and (.cmp .eq (.call 483 "_law_kinds" (.cons (.var 4) .nil)) (.lst (.cons (.con (.int 0)) .nil))) (.and (.cmp .eq (.fld (.var 4) "place") (.tup .nil)) (.cmp .eq (.call 483 "_law_kinds" (.cons (.mk0 "StayError" (.con (.str "a text"))) .nil)) (.lst .nil))))) .nil))))))⟩
def fnOf : Nat → Option Fn
  | 0 => some F0
  | 1 => some F1
  | 2 => some F2
  | 3 => some F3
  | 4 => some F4
  | 5 => some F5
  | 6 => some F6
  | 7 => some F7
  | 8 => some F8
  | 9 => some F9
  | 10 => some F10
  | 11 => some F11
  | 12 => some F12
  | 13 => some F13
  | 14 => some F14
  | 15 => some F15
  | 16 => some F16
  | 17 => some F17
  | 18 => some F18
  | 19 => some F19
  | 20 => some F20
  | 21 => some F21
  | 22 => some F22
  | 23 => some F23
  | 24 => some F24
  | 25 => some F25
  | 26 => some F26
  | 27 => some F27
  | 28 => some F28
  | 29 => some F29
  | 30 => some F30
  | 31 => some F31
  | 32 => some F32
  | 33 => some F33
  | 34 => some F34
  | 35 => some F35
  | 36 => some F36
  | 37 => some F37
  | 38 => some F38
  | 39 => some F39
  | 40 => some F40
  | 41 => some F41
  | 42 => some F42
  | 43 => some F43
  | 44 => some F44
  | 45 => some F45
  | 46 => some F46
  | 47 => some F47
  | 48 => some F48
  | 49 => some F49
  | 50 => some F50
  | 51 => some F51
  | 52 => some F52
  | 53 => some F53
  | 54 => some F54
  | 55 => some F55
  | 56 => some F56
  | 57 => some F57
  | 58 => some F58
  | 59 => some F59
  | 60 => some F60
  | 61 => some F61
  | 62 => some F62
  | 63 => some F63
  | 64 => some F64
  | 65 => some F65
  | 66 => some F66
  | 67 => some F67
  | 68 => some F68
  | 69 => some F69
  | 70 => some F70
  | 71 => some F71
  | 72 => some F72
  | 73 => some F73
  | 74 => some F74
  | 75 => some F75
  | 76 => some F76
  | 77 => some F77
  | 78 => some F78
  | 79 => some F79
  | 80 => some F80
  | 81 => some F81
  | 82 => some F82
  | 83 => some F83
  | 84 => some F84
  | 85 => some F85
  | 86 => some F86
  | 87 => some F87
  | 88 => some F88
  | 89 => some F89
  | 90 => some F90
  | 91 => some F91
  | 92 => some F92
  | 93 => some F93
  | 94 => some F94
  | 95 => some F95
  | 96 => some F96
  | 97 => some F97
  | 98 => some F98
  | 99 => some F99
  | 100 => some F100
  | 101 => some F101
  | 102 => some F102
  | 103 => some F103
  | 104 => some F104
  | 105 => some F105
  | 106 => some F106
  | 107 => some F107
  | 108 => some F108
  | 109 => some F109
  | 110 => some F110
  | 112 => some F112
  | 113 => some F113
  | 114 => some F114
  | 115 => some F115
  | 116 => some F116
  | 118 => some F118
  | 122 => some F122
  | 123 => some F123
  | 288 => some F288
  | 291 => some F291
  | 292 => some F292
  | 293 => some F293
  | 294 => some F294
  | 296 => some F296
  | 297 => some F297
  | 308 => some F308
  | 309 => some F309
  | 310 => some F310
  | 311 => some F311
  | 312 => some F312
  | 313 => some F313
  | 314 => some F314
  | 315 => some F315
  | 316 => some F316
  | 317 => some F317
  | 318 => some F318
  | 359 => some F359
  | 360 => some F360
  | 361 => some F361
  | 362 => some F362
  | 369 => some F369
  | 370 => some F370
  | 371 => some F371
  | 372 => some F372
  | 373 => some F373
  | 374 => some F374
  | 375 => some F375
  | 376 => some F376
  | 483 => some F483
  | 484 => some F484
  | 485 => some F485
  | _ => none
def TT : Tab := ⟨fnOf, fun _ _ _ _ => .bad⟩
theorem run_of {wf k f : Nat} {ds : List D} {st : Sto} {F : Fn} (h : fnOf f = some F) (hl : ds.length = F.np) : run TT wf (k+1) f ds st = done (exs (run TT wf k) wf F.body (st0 F ds) st) := by
  rw [run]
  simp only [show TT.fn = fnOf from rfl, h, hl, if_true]
end MP

set_option Elab.async false
set_option linter.all false
set_option maxRecDepth 100000
namespace MP
open PySem
/-! ### the draws -/
def Draw (r : Nat) (st : Sto) : Prop := ∃ (q : Nat) (m t : Int) (gs : List Int), st[r]? = some (.dct [("mixed", .int m), ("great", .ref q), ("turn", .int t)]) ∧ st[q]? = some (.lst (gs.map .int)) ∧ q ≠ r ∧ 0 ≤ m ∧ m < 2305843009213693951 ∧ 0 ≤ t
theorem Draw.append {r : Nat} {st : Sto} (h : Draw r st) (ext : Sto) : Draw r (st ++ ext) := by
  obtain ⟨q, m, t, gs, h1, h2, h3⟩ := h
  refine ⟨q, m, t, gs, ?_, ?_, h3⟩
  · rw [List.getElem?_append_left (List.getElem?_eq_some_iff.mp h1).1]; exact h1
  · rw [List.getElem?_append_left (List.getElem?_eq_some_iff.mp h2).1]; exact h2
theorem pow18 : binD .pow (.int 10) (.int 18) = some (.dat (.int 1000000000000000000)) := by simp [binD]
theorem filterMap_int (f : Int → Bool) : ∀ l : List Int, (l.filterMap fun c => if f c then some (D.int c) else none) = (l.filter f).map D.int
  | [] => rfl
  | c :: l => by
    have ih := filterMap_int f l
    cases e : f c <;> simp [e, ih]
theorem begun_ok (wf k : Nat) (ns : List Int) (st : Sto) (h : ns.length ≤ 100) : (run TT wf (k+1) 16 [.scr ns] st).Sat (fun w st' => ∃ r, w = .dat (.ref r) ∧ Draw r st') noX := by
  obtain ⟨Q, hQ⟩ : ∃ Q : W → Sto → Prop, Q = fun w st' => ∃ r, w = .dat (.ref r) ∧ Draw r st' := ⟨_, rfl⟩
  rw [← hQ, run_of (F := F16) rfl rfl]
  simp only [F16, st0]
  simp [mulOk_l (i := 41) (by decide)]
  obtain ⟨P, hP⟩ : ∃ P : List (Int × Nat) → Fr → Sto → Prop, P = fun ys env st' => st' = st ∧ ∃ m a b, 0 ≤ m ∧ m < 2305843009213693951 ∧ env = [.dat (.scr ns), .dat (.int m), a, b] ∧ (b = .un ∨ ∃ d, b = .dat d) := ⟨_, rfl⟩
  refine for_sat ns.zipIdx (enumF_map _ _) P ?_ ?_ ?_
  · rw [hP]; exact ⟨rfl, _, .un, .un, by omega, by omega, rfl, .inl rfl⟩
  · rintro ⟨c, j⟩ ys env st2 hp
    rw [hP] at hp
    obtain ⟨rfl, m, a, b, hm, _, rfl, _⟩ := hp
    simp [forB, mulOk_r (j := 998244353) (by decide), mulOk_l (i := 104723) (by decide)]
    rw [hP]
    exact ⟨rfl, _, _, _, Int.emod_nonneg _ (by decide), Int.emod_lt_of_pos _ (by decide), rfl, .inr ⟨_, rfl⟩⟩
  · rintro env st2 hp
    rw [hP] at hp
    obtain ⟨rfl, m, a, b, hm, hm2, rfl, hb⟩ := hp
    have hl : (ns.filterMap fun c => if decide (1000000000000000000 ≤ c) = true then some (D.int c) else none).length ≤ 100000 := Nat.le_trans (List.length_filterMap_le _ _) (by omega)
    have hc : compL (compB (run TT wf k) (.var 3) (.nm 3) [.dat (.scr ns), .dat (.int m), a, .un] (.one (.cmp .ge (.var 3) (.bin .pow (.con (.int 10)) (.con (.int 18)))))) (ns.map .int) st2 = .ok (ns.filterMap fun c => if decide (1000000000000000000 ≤ c) = true then some (D.int c) else none) st2 := by
      refine compL_map _ _ _ fun y hy => ?_
      by_cases e : 1000000000000000000 ≤ y <;> simp [compB, pow18, e]
    rw [filterMap_int] at hc hl
    rcases hb with rfl | ⟨d, rfl⟩ <;> simp at hl <;> simp [hc, hl] <;> rw [hQ]
    all_goals
      refine ⟨_, rfl, st2.length, m, 0, ns.filter (fun c => decide (1000000000000000000 ≤ c)), ?_, List.getElem?_append_right (Nat.le_refl _) |>.trans (by simp), by omega, hm, hm2, by omega⟩
      rw [List.getElem?_append_right (by omega), show st2.length + 1 - st2.length = 1 by omega]
      rfl
structure DS (r q : Nat) (m t : Int) (gs : List Int) (st : Sto) : Prop where
  h1 : st[r]? = some (.dct [("mixed", .int m), ("great", .ref q), ("turn", .int t)])
  h2 : st[q]? = some (.lst (gs.map .int))
  h3 : q ≠ r
section
variable {r q : Nat} {m t : Int} {gs : List Int} {st : Sto}
theorem DS.turn (h : DS r q m t gs st) : getF "turn" (.ref r) st = some (.int t) := by simp [getF, h.h1, valD]
theorem DS.mixed (h : DS r q m t gs st) : getF "mixed" (.ref r) st = some (.int m) := by simp [getF, h.h1, valD]
theorem DS.great (h : DS r q m t gs st) : getF "great" (.ref r) st = some (.ref q) := by simp [getF, h.h1, valD]
theorem DS.lst (h : DS r q m t gs st) : lstF (.ref q) st = some (gs.map .int) := by simp [lstF, h.h2]
theorem DS.putT (h : DS r q m t gs st) (v : Int) : ∃ st', putF "turn" (.ref r) (.int v) st = some st' ∧ DS r q m v gs st' := by
  have hr : r < st.length := (List.getElem?_eq_some_iff.mp h.h1).1
  refine ⟨st.set r (.dct [("mixed", .int m), ("great", .ref q), ("turn", .int v)]), ?_, ?_, ?_, h.h3⟩
  · unfold putF
    simp only [h.h1]
    simp [keysOk, putD]
  · rw [List.getElem?_set_self hr]
  · rw [List.getElem?_set_ne (fun e => h.h3 e.symm)]; exact h.h2
theorem DS.putM (h : DS r q m t gs st) (v : Int) : ∃ st', putF "mixed" (.ref r) (.int v) st = some st' ∧ DS r q v t gs st' := by
  have hr : r < st.length := (List.getElem?_eq_some_iff.mp h.h1).1
  refine ⟨st.set r (.dct [("mixed", .int v), ("great", .ref q), ("turn", .int t)]), ?_, ?_, ?_, h.h3⟩
  · unfold putF
    simp only [h.h1]
    simp [keysOk, putD]
  · rw [List.getElem?_set_self hr]
  · rw [List.getElem?_set_ne (fun e => h.h3 e.symm)]; exact h.h2
theorem DS.setG (h : DS r q m t gs st) {j : Nat} (hj : j < gs.length) (v : Int) : ∃ st', setF (.ref q) (j : Int) (.int v) st = some st' ∧ DS r q m t (gs.set j v) st' := by
  have hq : q < st.length := (List.getElem?_eq_some_iff.mp h.h2).1
  refine ⟨st.set q (.lst ((gs.map .int).set j (.int v))), ?_, ?_, ?_, h.h3⟩
  · unfold setF
    simp only [h.h2]
    simp [ixD_nat hj]
  · rw [List.getElem?_set_ne h.h3]; exact h.h1
  · rw [List.getElem?_set_self hq, List.map_set]
end
theorem okD_ints (n : Nat) (l : List Int) : okD (n + 1) (.lst (l.map .int)) = true := by
  simp only [okD, List.all_map, List.all_eq_true]
  intro x _
  cases n <;> rfl
theorem next_ok (wf k r : Nat) (b : Int) (st : Sto) (hb : 0 < b) (hb2 : b < 2 ^ 60) (h : Draw r st) : (run TT wf (k+1) 17 [.ref r, .int b] st).Sat (fun w st' => ∃ i : Int, w = .dat (.int i) ∧ 0 ≤ i ∧ i < b ∧ Draw r st') noX := by
  obtain ⟨Q, hQ⟩ : ∃ Q : W → Sto → Prop, Q = fun w st' => ∃ i : Int, w = .dat (.int i) ∧ 0 ≤ i ∧ i < b ∧ Draw r st' := ⟨_, rfl⟩
  obtain ⟨q, m, t, gs, h1, h2, h3, h4, h5, h6⟩ := h
  have S : DS r q m t gs st := ⟨h1, h2, h3⟩
  rw [← hQ, run_of (F := F17) rfl rfl]
  obtain ⟨s1, p1, S1⟩ := S.putT (t + 1)
  have hdb : divOk b = true := divOk_of hb (Int.lt_trans hb2 (by decide))
  have hd2 : divOk 32749 = true := divOk_of (by decide) (by decide)
  have fin : ∀ m' s', 0 ≤ m' → m' < 2305843009213693951 → DS r q m' (t + 1) gs s' → Draw r s' := fun m' s' a b S' => ⟨q, m', t + 1, gs, S'.h1, S'.h2, S'.h3, a, b, by omega⟩
  have hM : ∀ x : Int, 0 ≤ x % 2305843009213693951 ∧ x % 2305843009213693951 < 2305843009213693951 := fun x => ⟨Int.emod_nonneg _ (by decide), Int.emod_lt_of_pos _ (by decide)⟩
  simp only [F17, st0]
  simp [S.turn, S.great, p1, S1.turn, S1.lst]
  by_cases e0 : gs = []
  · subst e0
    obtain ⟨s2, p2, S2⟩ := S1.putM ((m * 6364136223846793 + 1442695040888963 * (t + 1) + 11) % 2305843009213693951)
    have hS := S1.lst
    simp at hS
    simp [hS, okD, S1.mixed, S1.turn, mulOk_r (j := 6364136223846793) (by decide), mulOk_l (i := 1442695040888963) (by decide), p2, S2.mixed, hd2, hb]
    rw [hQ]
    exact ⟨_, rfl, Int.emod_nonneg _ (by omega), Int.emod_lt_of_pos _ hb, fin _ _ (hM _).1 (hM _).2 S2⟩
  · have hl : 0 < gs.length := List.length_pos_iff.mpr e0
    have hmx : (if (1 : Int) < gs.length then (gs.length : Int) else 1) = gs.length := by split <;> omega
    have hp : (0 : Int) < gs.length := by omega
    have hne : (gs.map D.int).isEmpty = false := by cases gs <;> simp_all
    obtain ⟨j, hj⟩ : ∃ j : Nat, (t + 1) % (gs.length : Int) = j := ⟨((t + 1) % (gs.length : Int)).toNat, by have := Int.emod_nonneg (t + 1) (show (gs.length : Int) ≠ 0 by omega); omega⟩
    have hj2 : j < gs.length := by have := Int.emod_lt_of_pos (t + 1) hp; omega
    have hat : atD (gs.map .int) (j : Int) = some (.int (gAt gs j)) := by
      unfold atD
      rw [List.length_map, ixD_nat hj2]
      simp [gAt_ok hj2]
    simp [hmx, hp, hl, hj, okD_ints, hne, e0, S1.lst, hat]
    by_cases e1 : 0 < gAt gs j
    · obtain ⟨s2, p2, S2⟩ := S1.setG hj2 (gAt gs j / b)
      simp [e1, S1.lst, hat, hb, hdb, p2]
      rw [hQ]
      exact ⟨_, rfl, Int.emod_nonneg _ (by omega), Int.emod_lt_of_pos _ hb, q, m, t + 1, _, S2.h1, S2.h2, S2.h3, h4, h5, by omega⟩
    · obtain ⟨s2, p2, S2⟩ := S1.putM ((m * 6364136223846793 + 1442695040888963 * (t + 1) + 11) % 2305843009213693951)
      simp [e1, S1.mixed, S1.turn, mulOk_r (j := 6364136223846793) (by decide), mulOk_l (i := 1442695040888963) (by decide), p2, S2.mixed, hd2, hb]
      rw [hQ]
      exact ⟨_, rfl, Int.emod_nonneg _ (by omega), Int.emod_lt_of_pos _ hb, fin _ _ (hM _).1 (hM _).2 S2⟩
end MP

set_option Elab.async false
set_option linter.all false
set_option maxRecDepth 100000
set_option maxHeartbeats 8000000
namespace MP
open PySem
/-! ### k51: everything but the draws is reckoned out -/
def some51 : List D := [.tup [], .tup [.int 0], .tup [.str "fact", .int 3], .str "form", .str "", .non, .int 5, .lst [], .emp, .bl true, .int 999999999999999999999999999999]
def list51 : S := match F485.body with
  | .cons _ (.cons s _) => s
  | _ => .dead
def tail51 : Ss := match F485.body with
  | .cons _ (.cons _ (.cons (.for_ _ _ (.cons _ r)) _)) => r
  | _ => .nil
def fin51 : Ss := match F485.body with
  | .cons _ (.cons _ (.cons _ r)) => r
  | _ => .nil
theorem body51 : F485.body = .cons (.asg (.nm 1) (.call 16 "_law_begun" (.cons (.var 0) .nil))) (.cons list51 (.cons (.for_ (.nm 3) (.rng1 (.bin .add (.con (.int 2)) (.bin .fdiv (.b2 .min (.con (.int 60)) (.b1 .len (.var 0))) (.con (.int 6)))))
    (.cons (.asg (.nm 6) (.idx (.var 2) (.call 17 "_law_next" (.cons (.var 1) (.cons (.b1 .len (.var 2)) .nil))))) tail51)) fin51)) := by kernel_rfl
def env51 (ns : List Int) (r : Nat) (t3 t6 t7 t8 : Slot) : Fr := [.dat (.scr ns), .dat (.ref r), .dat (.lst some51), t3, .un, .un, t6, t7, t8, .un, .un]
theorem list51_ok (cf : Nat → List D → Sto → R W) (wf : Nat) (ns : List Int) (r : Nat) (st : Sto) : ex cf wf list51 [.dat (.scr ns), .dat (.ref r), .un, .un, .un, .un, .un, .un, .un, .un, .un] st = .nx (env51 ns r .un .un .un .un) st := by kernel_rfl
def errs51 (d : D) : D := .lst [.err 1 d, .err 2 d, .err 3 d, .err 4 d, .err 5 d, .err 6 d, .err 7 d, .err 8 d, .err 9 d, .err 10 d, .err 11 d]
def Turn51 (d : D) : Prop := ∀ (wf k : Nat) (ns : List Int) (r : Nat) (t3 t7 t8 : Slot) (st : Sto), exs (run TT wf (k+1)) wf tail51 (env51 ns r t3 (.dat d) t7 t8) st = .nx (env51 ns r t3 (.dat d) (.dat (errs51 d)) (.dat (.lst (List.replicate 11 d)))) st
theorem turn51_1 : Turn51 (.tup []) := by intro wf k ns r t3 t7 t8 st; kernel_rfl
theorem turn51_2 : Turn51 (.tup [.int 0]) := by intro wf k ns r t3 t7 t8 st; kernel_rfl
theorem turn51_3 : Turn51 (.tup [.str "fact", .int 3]) := by intro wf k ns r t3 t7 t8 st; kernel_rfl
theorem turn51_4 : Turn51 (.str "form") := by intro wf k ns r t3 t7 t8 st; kernel_rfl
theorem turn51_5 : Turn51 (.str "") := by intro wf k ns r t3 t7 t8 st; kernel_rfl
theorem turn51_6 : Turn51 .non := by intro wf k ns r t3 t7 t8 st; kernel_rfl
theorem turn51_7 : Turn51 (.int 5) := by intro wf k ns r t3 t7 t8 st; kernel_rfl
theorem turn51_8 : Turn51 (.lst []) := by intro wf k ns r t3 t7 t8 st; kernel_rfl
theorem turn51_9 : Turn51 .emp := by intro wf k ns r t3 t7 t8 st; kernel_rfl
theorem turn51_10 : Turn51 (.bl true) := by intro wf k ns r t3 t7 t8 st; kernel_rfl
theorem turn51_11 : Turn51 (.int 999999999999999999999999999999) := by intro wf k ns r t3 t7 t8 st; kernel_rfl
theorem turn51 : ∀ d ∈ some51, Turn51 d := by
  intro d hd
  simp only [some51, List.mem_cons, List.not_mem_nil, or_false] at hd
  rcases hd with rfl | rfl | rfl | rfl | rfl | rfl | rfl | rfl | rfl | rfl | rfl
  · exact turn51_1
  · exact turn51_2
  · exact turn51_3
  · exact turn51_4
  · exact turn51_5
  · exact turn51_6
  · exact turn51_7
  · exact turn51_8
  · exact turn51_9
  · exact turn51_10
  · exact turn51_11
theorem fin51_ok (wf k : Nat) (ns : List Int) (r : Nat) (t3 t6 t7 t8 : Slot) (st : Sto) : exs (run TT wf (k+8)) wf fin51 (env51 ns r t3 t6 t7 t8) st = .rt (.dat (.bl true)) st := by kernel_rfl
theorem law_ok51 (wf k : Nat) (ns : List Int) (st : Sto) (h : ns.length ≤ 63) (hwf : 2 ^ 1400 ≤ wf) : (run TT wf (k + 9 + 1) 485 [.scr ns] st).Sat (fun w st' => w = .dat (.bl true)) noX := by
  refine sat_abs fun Q hQ => ?_
  rw [run_of (F := F485) rfl rfl, body51]
  rw [show st0 F485 [.scr ns] = [.dat (.scr ns), .un, .un, .un, .un, .un, .un, .un, .un, .un, .un] from by kernel_rfl]
  simp
  refine (begun_ok wf (k+8) ns st (by omega)).use ?_
  rintro w s1 ⟨r, rfl, d1⟩
  obtain ⟨m, hm, hm2⟩ : ∃ m : Nat, 2 + ((if (ns.length : Int) < 60 then (ns.length : Int) else 60) / 6) = (m : Int) ∧ m ≤ 100 := by
    refine ⟨(2 + ((if (ns.length : Int) < 60 then (ns.length : Int) else 60) / 6)).toNat, ?_, ?_⟩ <;> split <;> omega
  have d6 : divOk 6 = true := by decide
  simp [list51_ok]
  have g0 : ∀ a b c e, getD (env51 ns r a b c e) 0 = some (.scr ns) := fun _ _ _ _ => rfl
  have g1 : ∀ a b c e, getD (env51 ns r a b c e) 1 = some (.ref r) := fun _ _ _ _ => rfl
  have g2 : ∀ a b c e, getD (env51 ns r a b c e) 2 = some (.lst some51) := fun _ _ _ _ => rfl
  simp [g0, d6, hm, rngOk_nat (show m ≤ 100000 by omega), rng_zero]
  refine for_inv (List.range m) rfl (fun ys env st' => Draw r st' ∧ ∃ t3 t6 t7 t8, env = env51 ns r t3 t6 t7 t8) ⟨d1, .un, .un, .un, .un, rfl⟩ ?_ ?_
  · rintro P hP y ys env s2 ⟨d2, t3, t6, t7, t8, rfl⟩
    have e3 : (env51 ns r t3 t6 t7 t8).set 3 (.dat (.int y)) = env51 ns r (.dat (.int y)) t6 t7 t8 := rfl
    have l3 : 3 < (env51 ns r t3 t6 t7 t8).length := by simp [env51]
    simp [forB, e3, l3, g1, g2]
    refine (next_ok wf (k+8) r 11 s2 (by decide) (by decide) d2).use ?_
    rintro w s3 ⟨i, rfl, h0, h1, d3⟩
    obtain ⟨j, rfl⟩ : ∃ j : Nat, i = (j : Int) := ⟨i.toNat, by omega⟩
    have hj : j < some51.length := by simp [some51]; omega
    have ea : atD some51 (j : Int) = some some51[j] := by unfold atD; rw [ixD_nat hj]; simp [hj]
    have e6 : (env51 ns r (.dat (.int y)) t6 t7 t8).set 6 (.dat some51[j]) = env51 ns r (.dat (.int y)) (.dat some51[j]) t7 t8 := rfl
    have l6 : 6 < (env51 ns r (.dat (.int y)) t6 t7 t8).length := by simp [env51]
    simp only [W_dat, items_lst]
    simp [ea, e6, l6]
    rw [turn51 _ (List.getElem_mem hj) wf (k+8)]
    simp
    exact hP _ _ _ ⟨d3, _, _, _, _, rfl⟩
  · rintro env s2 ⟨d2, t3, t6, t7, t8, rfl⟩
    rw [fin51_ok wf (k+1)]
    simp
    exact hQ _ _ rfl
end MP

set_option Elab.async false
set_option linter.all false
set_option maxRecDepth 100000
set_option maxHeartbeats 0
namespace MP
open PySem PySem.Spec PyProof.Rows L2
def topS (i : Nat) : Stmt := PySem.Challenge.pw_allstay_k51_errors_and_constants.main.body.getD i (.Pass ⟨0, 0, 0, 0⟩)
def topC (i : Nat) : Stmt := match topS i with
  | .ClassDef _ _ _ (b :: _) _ _ _ _ _ _ _ => b
  | s => s
def cl0 : Cl := ⟨"StayError", 0, topC 1, 0⟩
def cl1 : Cl := ⟨"BadBook", 1, topC 2, 0⟩
theorem ini_cl1 : IniOk cl1 := ⟨_, _, _, _, _, _, _, _, _, _, _, _, _, _, rfl, rfl, rfl, rfl, fun _ _ _ _ _ _ _ _ _ _ _ => rfl⟩
def cl2 : Cl := ⟨"BadText", 2, topC 3, 0⟩
theorem ini_cl2 : IniOk cl2 := ⟨_, _, _, _, _, _, _, _, _, _, _, _, _, _, rfl, rfl, rfl, rfl, fun _ _ _ _ _ _ _ _ _ _ _ => rfl⟩
def cl3 : Cl := ⟨"BadSum", 3, topC 4, 0⟩
theorem ini_cl3 : IniOk cl3 := ⟨_, _, _, _, _, _, _, _, _, _, _, _, _, _, rfl, rfl, rfl, rfl, fun _ _ _ _ _ _ _ _ _ _ _ => rfl⟩
def cl4 : Cl := ⟨"BadNumber", 4, topC 5, 0⟩
theorem ini_cl4 : IniOk cl4 := ⟨_, _, _, _, _, _, _, _, _, _, _, _, _, _, rfl, rfl, rfl, rfl, fun _ _ _ _ _ _ _ _ _ _ _ => rfl⟩
def cl5 : Cl := ⟨"BadRule", 5, topC 6, 0⟩
theorem ini_cl5 : IniOk cl5 := ⟨_, _, _, _, _, _, _, _, _, _, _, _, _, _, rfl, rfl, rfl, rfl, fun _ _ _ _ _ _ _ _ _ _ _ => rfl⟩
def cl6 : Cl := ⟨"BadScript", 6, topC 7, 0⟩
theorem ini_cl6 : IniOk cl6 := ⟨_, _, _, _, _, _, _, _, _, _, _, _, _, _, rfl, rfl, rfl, rfl, fun _ _ _ _ _ _ _ _ _ _ _ => rfl⟩
def cl7 : Cl := ⟨"BadPaper", 7, topC 8, 0⟩
theorem ini_cl7 : IniOk cl7 := ⟨_, _, _, _, _, _, _, _, _, _, _, _, _, _, rfl, rfl, rfl, rfl, fun _ _ _ _ _ _ _ _ _ _ _ => rfl⟩
def cl8 : Cl := ⟨"BadDeed", 8, topC 9, 0⟩
theorem ini_cl8 : IniOk cl8 := ⟨_, _, _, _, _, _, _, _, _, _, _, _, _, _, rfl, rfl, rfl, rfl, fun _ _ _ _ _ _ _ _ _ _ _ => rfl⟩
def cl9 : Cl := ⟨"Quarrel", 9, topC 10, 0⟩
theorem ini_cl9 : IniOk cl9 := ⟨_, _, _, _, _, _, _, _, _, _, _, _, _, _, rfl, rfl, rfl, rfl, fun _ _ _ _ _ _ _ _ _ _ _ => rfl⟩
def cl10 : Cl := ⟨"Missing", 10, topC 11, 2⟩
theorem ini_cl10 : IniOk cl10 := ⟨_, _, _, _, _, _, _, _, _, _, _, _, _, _, rfl, rfl, rfl, rfl, fun _ _ _ _ _ _ _ _ _ _ _ => rfl⟩
def cl11 : Cl := ⟨"TooMany", 11, topC 12, 1⟩
theorem ini_cl11 : IniOk cl11 := ⟨_, _, _, _, _, _, _, _, _, _, _, _, _, _, rfl, rfl, rfl, rfl, fun _ _ _ _ _ _ _ _ _ _ _ => rfl⟩
def clL : List Cl := [cl0, cl1, cl2, cl3, cl4, cl5, cl6, cl7, cl8, cl9, cl10, cl11]
def row0 : Row := ⟨"is_whole", 0, topS 21, ["thing", "least", "most"], ["thing", "least", "most"], F0, false, false⟩
theorem bind_row0 : BindOk row0 := fun _ _ _ _ _ _ us hl => match us, hl with | [_, _, _], _ => rfl
def row3 : Row := ⟨"groups_of", 3, topS 22, ["many"], ["many"], F3, false, false⟩
theorem bind_row3 : BindOk row3 := fun _ _ _ _ _ _ us hl => match us, hl with | [_], _ => rfl
def row4 : Row := ⟨"all_of", 4, topS 23, ["many"], ["many"], F4, false, false⟩
theorem bind_row4 : BindOk row4 := fun _ _ _ _ _ _ us hl => match us, hl with | [_], _ => rfl
def row28 : Row := ⟨"is_term", 28, topS 24, ["many", "thing"], ["many", "thing"], F28, false, false⟩
theorem bind_row28 : BindOk row28 := fun _ _ _ _ _ _ us hl => match us, hl with | [_, _], _ => rfl
def row29 : Row := ⟨"is_sum_of", 29, topS 25, ["many", "thing", "one", "other", "term"], ["many", "thing"], F29, false, false⟩
theorem bind_row29 : BindOk row29 := fun _ _ _ _ _ _ us hl => match us, hl with | [_, _], _ => rfl
def row31 : Row := ⟨"is_fact", 31, topS 26, ["many", "thing"], ["many", "thing"], F31, false, false⟩
theorem bind_row31 : BindOk row31 := fun _ _ _ _ _ _ us hl => match us, hl with | [_, _], _ => rfl
def row32 : Row := ⟨"book_fault", 32, topS 27, ["thing", "wrong", "number", "fact"], ["thing"], F32, false, false⟩
theorem bind_row32 : BindOk row32 := fun _ _ _ _ _ _ us hl => match us, hl with | [_], _ => rfl
def row33 : Row := ⟨"need_book", 33, topS 28, ["thing", "place"], ["thing"], F33, false, false⟩
theorem bind_row33 : BindOk row33 := fun _ _ _ _ _ _ us hl => match us, hl with | [_], _ => rfl
def row16 : Row := ⟨"_law_begun", 16, topS 30, ["_law_script", "_law_mixed", "_law_k", "_law_cell"], ["_law_script"], F16, false, false⟩
theorem bind_row16 : BindOk row16 := fun _ _ _ _ _ _ us hl => match us, hl with | [_], _ => rfl
def row17 : Row := ⟨"_law_next", 17, topS 31, ["_law_draw", "_law_below", "_law_at", "_law_mixed", "_law_great", "_law_found"], ["_law_draw", "_law_below"], F17, false, false⟩
theorem bind_row17 : BindOk row17 := fun _ _ _ _ _ _ us hl => match us, hl with | [_, _], _ => rfl
def row483 : Row := ⟨"_law_kinds", 483, topS 32, ["_law_error", "_law_kinds_here", "_law_k"], ["_law_error"], F483, false, false⟩
theorem bind_row483 : BindOk row483 := fun _ _ _ _ _ _ us hl => match us, hl with | [_], _ => rfl
def row484 : Row := ⟨"_law_bases", 484, topS 33, ["_law_error", "_law_bases_here"], ["_law_error"], F484, false, false⟩
theorem bind_row484 : BindOk row484 := fun _ _ _ _ _ _ us hl => match us, hl with | [_], _ => rfl
def row485 : Row := ⟨"law", 485, topS 34, ["_law_script", "_law_draw", "_law_some", "_law_turn", "_law_caught", "e", "_law_one", "_law_every", "_law_told", "_law_error", "_law_k"], ["_law_script"], F485, false, false⟩
theorem bind_row485 : BindOk row485 := fun _ _ _ _ _ _ us hl => match us, hl with | [_], _ => rfl
def rowsL : List Row := [row0, row3, row4, row28, row29, row31, row32, row33, row16, row17, row483, row484, row485]
def cstL : List Cst := [.int "FEWEST" 2, .int "MOST" 4, .int "MOST_FACTOR" 1000, .int "MOST_BOUND" 1000, .int "MOST_FACTS" 8, .str "LEAST" "least", .str "SAME" "same"]
theorem hidL : (rowsL.all fun r => decide (nmOf rowsL r.id = r.name)) = true := by decide +kernel
theorem ok_row0 : rowB (fxOf rowsL) (csOf cstL) (xcOf clL) (txOf rowsL) row0 = true := by decide +kernel
theorem ok_row3 : rowB (fxOf rowsL) (csOf cstL) (xcOf clL) (txOf rowsL) row3 = true := by decide +kernel
theorem ok_row4 : rowB (fxOf rowsL) (csOf cstL) (xcOf clL) (txOf rowsL) row4 = true := by decide +kernel
theorem ok_row28 : rowB (fxOf rowsL) (csOf cstL) (xcOf clL) (txOf rowsL) row28 = true := by decide +kernel
theorem ok_row29 : rowB (fxOf rowsL) (csOf cstL) (xcOf clL) (txOf rowsL) row29 = true := by decide +kernel
theorem ok_row31 : rowB (fxOf rowsL) (csOf cstL) (xcOf clL) (txOf rowsL) row31 = true := by decide +kernel
theorem ok_row32 : rowB (fxOf rowsL) (csOf cstL) (xcOf clL) (txOf rowsL) row32 = true := by decide +kernel
theorem ok_row33 : rowB (fxOf rowsL) (csOf cstL) (xcOf clL) (txOf rowsL) row33 = true := by decide +kernel
theorem ok_row16 : rowB (fxOf rowsL) (csOf cstL) (xcOf clL) (txOf rowsL) row16 = true := by decide +kernel
theorem ok_row17 : rowB (fxOf rowsL) (csOf cstL) (xcOf clL) (txOf rowsL) row17 = true := by decide +kernel
theorem ok_row483 : rowB (fxOf rowsL) (csOf cstL) (xcOf clL) (txOf rowsL) row483 = true := by decide +kernel
theorem ok_row484 : rowB (fxOf rowsL) (csOf cstL) (xcOf clL) (txOf rowsL) row484 = true := by decide +kernel
theorem ok_row485 : rowB (fxOf rowsL) (csOf cstL) (xcOf clL) (txOf rowsL) row485 = true := by decide +kernel
theorem hrL : (rowsL.all (rowB (fxOf rowsL) (csOf cstL) (xcOf clL) (txOf rowsL))) = true := List.all_eq_true.mpr fun r hr => by
  simp only [rowsL, List.mem_cons, List.not_mem_nil, or_false] at hr
  rcases hr with rfl | rfl | rfl | rfl | rfl | rfl | rfl | rfl | rfl | rfl | rfl | rfl | rfl
  · exact ok_row0
  · exact ok_row3
  · exact ok_row4
  · exact ok_row28
  · exact ok_row29
  · exact ok_row31
  · exact ok_row32
  · exact ok_row33
  · exact ok_row16
  · exact ok_row17
  · exact ok_row483
  · exact ok_row484
  · exact ok_row485
theorem hFL : ∀ r ∈ rowsL, TT.fn r.id = some r.F := fun r hr => by
  simp only [rowsL, List.mem_cons, List.not_mem_nil, or_false] at hr
  rcases hr with rfl | rfl | rfl | rfl | rfl | rfl | rfl | rfl | rfl | rfl | rfl | rfl | rfl <;> rfl
theorem hbL : ∀ r ∈ rowsL, BindOk r := fun r hr => by
  simp only [rowsL, List.mem_cons, List.not_mem_nil, or_false] at hr
  rcases hr with rfl | rfl | rfl | rfl | rfl | rfl | rfl | rfl | rfl | rfl | rfl | rfl | rfl
  · exact bind_row0
  · exact bind_row3
  · exact bind_row4
  · exact bind_row28
  · exact bind_row29
  · exact bind_row31
  · exact bind_row32
  · exact bind_row33
  · exact bind_row16
  · exact bind_row17
  · exact bind_row483
  · exact bind_row484
  · exact bind_row485
theorem hcL : (clL.all fun c => decide (cnOf clL c.q = c.name)) = true := by decide +kernel
theorem hiL : ∀ c ∈ clL, c.full = true → IniOk c := fun c hc hf => by
  simp only [clL, List.mem_cons, List.not_mem_nil, or_false] at hc
  rcases hc with rfl | rfl | rfl | rfl | rfl | rfl | rfl | rfl | rfl | rfl | rfl | rfl
  · exact absurd hf (by decide)
  · exact ini_cl1
  · exact ini_cl2
  · exact ini_cl3
  · exact ini_cl4
  · exact ini_cl5
  · exact ini_cl6
  · exact ini_cl7
  · exact ini_cl8
  · exact ini_cl9
  · exact ini_cl10
  · exact ini_cl11
theorem okL : RowsOk rowsL cstL clL TT PySem.Challenge.pw_allstay_k51_errors_and_constants := ⟨hidL, hrL, hFL, hbL, hcL, hiL, by decide +kernel⟩
abbrev RL : PySem.W.OpenRow := PySem.W.OpenLaw.row PySem.Challenge.rw_allstay_k51_errors_and_constants
abbrev hkL : PySem.W.Hook := hookC 6 (faOf rowsL cstL) (fnsOf rowsL) (tfOf rowsL) (PySem.Challenge.pw_allstay_k51_errors_and_constants.main.file) clL
def obL (s : PySem.W.SharedT) : AlC := obsC 6 (faOf rowsL cstL) (fnsOf rowsL) (tfOf rowsL) (PySem.Challenge.pw_allstay_k51_errors_and_constants.main.file) clL (HandSHeadRun.getT s)
theorem ob_eqL (s : PySem.W.SharedT) : obL s = hkL.obs s.abs := obsC_eq (HandSHeadRun.getT_eq s)
def loose0 : List PySem.Str := ["StayError", "BadBook", "BadText", "BadSum", "BadNumber", "BadRule", "BadScript", "BadPaper", "BadDeed", "Quarrel", "Missing", "TooMany", "FEWEST", "MOST", "MOST_FACTOR", "MOST_BOUND", "MOST_FACTS", "LEAST", "SAME", "is_whole", "groups_of", "all_of", "is_term", "is_sum_of", "is_fact", "book_fault", "need_book", "_law_begun", "_law_next", "_law_kinds"]
def loose1 : List PySem.Str := ["_law_bases"]
def looseL : List PySem.Str := loose0 ++ loose1
theorem runL (w : World) : HandSHeadRun.RunEq RL (PySem.W.view RL.prog [34]) hkL obL 8000 looseL w := by
  intro os
  kernel_rfl
theorem wf_ok : 2 ^ 1400 ≤ 2 ^ 3000 := Nat.pow_le_pow_right (by decide) (by decide)
theorem law_run (wf : Nat) (hwf : 2 ^ 1400 ≤ wf) (ns : List Int) (h : ns.length ≤ 63) : ∃ st', run TT wf 10 row485.id [.scr ns] [] = .ok (.dat (.bl true)) st' := by
  have q := law_ok51 wf 0 ns [] h hwf
  generalize e : run TT wf _ _ _ _ = r at q
  cases r with
  | ok a st => rw [sat_ok] at q; subst q; exact ⟨st, e⟩
  | exc c p st => rw [sat_exc] at q; exact q.elim
  | bad => rw [sat_bad] at q; exact q.elim
end MP
open PySem PySem.W PySem.Calls PyProof.Rows
theorem PySem.Challenge.cw_allstay_k51_errors_and_constants_holds : PySem.Challenge.rw_allstay_k51_errors_and_constants.Holds := by
  w_on; o_law
  refine HandSHeadRun.head_any (r := OpenLaw.row PySem.Challenge.rw_allstay_k51_errors_and_constants) (q := view (OpenLaw.row PySem.Challenge.rw_allstay_k51_errors_and_constants).prog [34]) (H := MP.hkL) (ob := MP.obL) (M := 8000) (loose := MP.looseL) (d := HandSHeadRun.topDef (OpenLaw.row PySem.Challenge.rw_allstay_k51_errors_and_constants).prog 34) (kwd := []) MP.ob_eqL
    (by kernel_rfl) (fun s => by kernel_rfl) MP.runL (by kernel_rfl) (by kernel_rfl) (by kernel_rfl) (by rfl) (by first | assumption | decide +kernel) (by decide +kernel) ⟨rfl, rfl, rfl, rfl, rfl, by decide +kernel⟩ ?hw ?hc
  case hw => w_witness2
  case hc =>
    refine MP.walkG (l := PySem.Challenge.rw_allstay_k51_errors_and_constants) (n := 63) (k := 3 * 10) (x := "_law_script") rfl (by decide) (by kernel_rfl) ⟨rfl, by decide, by decide⟩ ?F
    intro w mg fa h Y G hmg0
    have hmg : mg MP.row485.name = some (.ref fa) := by
      have e : (HandSHeadRun.topDef (OpenLaw.row PySem.Challenge.rw_allstay_k51_errors_and_constants).prog 34).name = MP.row485.name := by kernel_rfl
      rw [← e]
      exact hmg0
    exact MP.lawFn (T := MP.TT) (wf := 2 ^ 3000) (k := 9) (P := (PySem.Challenge.rw_allstay_k51_errors_and_constants).prog) (L := MP.row485) Y G MP.okL (by simp [MP.rowsL]) rfl rfl rfl hmg (MP.law_run _ MP.wf_ok)
