import PyProof.Rows.All
import Wide.All
import OpenK.AllK
import Wide.FinOn
import KE.KExcSuper
import KE.KExcIs
import HandS.ForMost
import HandS.ForExc
import HandS.TryMany
import HandS.IsInst
import HandS.ExcIs
import HandS.TupAny
import HandS.Zip
import HandS.Walk
import HandS.Style
import HandS.NoneIn
import PySem.Challenge.RW_outsoonest_k05_whole_edits_of_houses
import HandS.Codes
import HandS.Strs
import HandS.SetFor
import HandS.Conv
import HandS.Lambda
import HandS.EndTab
import HandS.RaiseMore
import HandS.HeadWalk
set_option Elab.async false
set_option linter.all false
set_option maxRecDepth 100000
set_option maxHeartbeats 2000000
namespace PySem
namespace K5X
open PySem.W PySem.Calls PyProof.Rows PySem.HandSPX

/-! own errors: __init__ calls super().__init__(msg), then self.f = f -/
def iA (f : Str) (p1 p2 : Pos) : Arguments :=
  { posonlyargs := [], args := [⟨"self", none, p1⟩, ⟨f, none, p2⟩], vararg := none, kwonlyargs := [], kw_defaults := [], kwarg := none, defaults := [] }
def iB (f msg : Str) (a b c d e s x y z v : Pos) : List Stmt :=
  [.Expr (.Call (.Attribute (.Call (.Name "super" a) [] [] b) "__init__" c) [.Constant (.str msg) 0 d] [] e) s,
   .Assign [.Attribute (.Name "self" x) f y] (.Name f z) v]
def iS (f : Str) : Scope :=
  { kind := .function, names := [(Str.ofString "self", .local), (f, .local), (Str.ofString "__class__", .free), (Str.ofString "super", .globalImplicit)],
    isGenerator := false, isCoroutine := false, more := [] }

/-- what a chain of classes behind an own error must say -/
structure Chain (B : String) (bm : List Value) : Prop where
  hasB : bm.contains (.type B) = true
  noA : bm.contains (.type "AttributeError") = false
  noN : bm.contains (.type "NameError") = false
  hasO : bm.contains (.type "object") = true
  pass : ∀ self : Value, refuseLoop self "__setattr__" bm = pure ()

/-- the built-in __init__ that super() finds -/
structure InitF (B i : String) : Prop where
  kxs : KxsFacts B i
  kind : builtinKind i = some .slot
  sig : Manifest.signature? i = some ⟨.positional, "*", B, .self, [⟨"args", .varPos, false⟩]⟩
  star : (B != "*") = true
  plain : plainId i = true
  entry : entryFor table i = some Builtin.«BaseException.__init__»

theorem pass_refs {bm : List Value} (h : ∀ self : Value, refuseLoop self "__setattr__" bm = pure ()) (c : Addr) : ∀ self : Value, refuseLoop self "__setattr__" (.ref c :: bm) = pure () := fun self => by
  rw [refuseLoop_ref]; exact h self

theorem initF_KeyError : InitF "KeyError" "KeyError.__init__" where
  kxs := ⟨by show builtinType _ = _; rw [builtinType_eq_fast]; kernel_rfl, by first | kernel_rfl | rfl⟩
  kind := excClass_KeyError.initKind
  sig := excClass_KeyError.initSig
  star := excClass_KeyError.notStar
  plain := excClass_KeyError.init.plain
  entry := excClass_KeyError.initEntry
theorem initF_ValueError : InitF "ValueError" "ValueError.__init__" where
  kxs := kxs_ValueError
  kind := F.excBase_ValueError.initKind
  sig := F.excBase_ValueError.initRow
  star := F.excBase_ValueError.noStar
  plain := F.excBase_ValueError.init.plain
  entry := F.excBase_ValueError.initEntry
abbrev keTail : List Value := [.type "KeyError", .type "LookupError", .type "Exception", .type "BaseException", .type "object"]
theorem chain_KE : Chain "LookupError" keTail where
  hasB := by decide +kernel
  noA := by decide +kernel
  noN := by decide +kernel
  hasO := by decide +kernel
  pass := fun self => by kernel_rfl
theorem chain_VE (c : Addr) : Chain "ValueError" (.ref c :: veTail) where
  hasB := by rw [List.contains_cons]; rfl
  noA := by rw [List.contains_cons]; rfl
  noN := by rw [List.contains_cons]; rfl
  hasO := by rw [List.contains_cons]; rfl
  pass := pass_refs F.store_ValueError.passes c
end K5X
end PySem

namespace PySem
namespace K5X
open PySem.W PySem.Calls PyProof.Rows PySem.HandSPX
section
variable {prog : Program} {w : World} {A : Around} {E : Value → Shared → Prop} {R : Result → Shared → Prop} {h : Heap} {g : Array GenState} {d : Drawn} {t : Nat} {os : OsState}
variable {nm q : Str} {C N : Addr} {bs bm bmB : List Value} {hdct : Bool} {sn : List Str} {sub : List Value} {ab : Bool} {col : Option Bool} {dd : Option Addr} {k0 k1 k2 k3 k5 : Option Value} {B newId initId : String}

theorem new_asked (FB : ExcBaseFacts B newId initId bmB) (hT : Chain B bm) {rest : List Value} {Q : Unit → Shared → Prop}
    (hC : h.get? C = some (excClassObj nm q C N bs bm hdct sn sub ab col dd k0 k1 k2 k3 k5 newId)) (hq : Q () ⟨h, g, d, t, os⟩) :
    wpAny (model prog w) A (checkBuiltinCall newId ⟨.ref C :: rest, []⟩) Q E ⟨h, g, d, t, os⟩ := by
  have hcont : (Value.ref C :: bm).contains (.type B) = true := by rw [List.contains_cons, hT.hasB, Bool.or_true]
  have hstar := FB.noStar
  simp only [checkBuiltinCall, FB.newKind, FB.newSplit, FB.newRow]
  repeat (first
    | refine wpAny_loadPart_at hC ?_
    | (refine wpAny_isSubtype_exc hC ?_; rw [hcont])
    | refine wpAny_staticBase_exc hC ?_
    | refine wpAny_madeBy_exc hC ?_
    | simp only [bne_self_eq_false, Bool.false_eq_true, if_false]
    | wp_step)
  exact hq

theorem new_runs (FB : ExcBaseFacts B newId initId bmB) (hT : Chain B bm) {rest : List Value}
    (hC : h.get? C = some (excClassObj nm q C N bs bm hdct sn sub ab col dd k0 k1 k2 k3 k5 newId))
    (hq : R (.ok (.ret (.ref (h.objs.size + 1)))) ⟨(h.push (kdv_tup rest)).push (excO C h.objs.size), g, d, t, os⟩) (hrest : rest.length ≤ sizeLine) :
    codeAny (model prog w) A (.builtin newId ⟨.ref C :: rest, []⟩) R ⟨h, g, d, t, os⟩ := by
  have hends := FB.ends
  have hcB : (Value.ref C :: bm).contains (.type B) = true := by rw [List.contains_cons, hT.hasB, Bool.or_true]
  have hcA : (Value.ref C :: bm).contains (.type "AttributeError") = false := by rw [List.contains_cons, hT.noA]; rfl
  have hcN : (Value.ref C :: bm).contains (.type "NameError") = false := by rw [List.contains_cons, hT.noN]; rfl
  refine codeAny_builtinAt FB.entry ?_
  unfold Builtin.«BaseException.__new__»
  refine wpAt_bind ?_
  show wpAt _ _ _ (stack >>= _) _ _ _
  refine wpAt_bind (wpAt_stack fun p below => wpAt_of_wpAny ?_)
  wp_walk
  refine wpAt_of_wpAny ?_
  rw [FB.owner]
  repeat (first
    | with_reducible refine wpAny_madeHere_exc FB.canon hC ?_
    | with_reducible refine wpAny_loadPart_at hC ?_
    | (with_reducible refine wpAny_isSubtype_exc hC ?_; first | rw [hcB] | rw [hcA] | rw [hcN])
    | wp_step)
  show R _ _
  rw [Heap.size_push]
  exact hq

theorem type_called (FB : ExcBaseFacts B newId initId bmB) (hT : Chain B bm) {rest : List Value} {fI : Addr} {Q : Fin → Shared → Prop}
    (hC : h.get? C = some (excClassObj nm q C N bs bm hdct sn sub ab col dd k0 k1 k2 k3 k5 newId))
    (hi : Looks (model prog w) h (typeLookup (.ref C) "__init__") (some (.ref fI))) (hb : ∀ self, Looks (model prog w) h (bindSpecial (.ref fI) self) (.ref fI, [self])) (hrest : rest.length ≤ sizeLine)
    (hq : codeAny (model prog w) A (.call (.ref fI) ⟨.ref (h.objs.size + 1) :: rest, []⟩)
      (fun r s' => match r with | .ok (.ret v) => v = .none ∧ Q (.done (.ret (.ref (h.objs.size + 1)))) s' | .ok _ => False | .error e => E e s')
      ⟨(h.push (kdv_tup rest)).push (excO C h.objs.size), g, d, t, os⟩) :
    wpAny (model prog w) A (Builtin.«type.__call__» ⟨.ref C :: rest, []⟩) Q E ⟨h, g, d, t, os⟩ := by
  repeat (first
    | with_reducible refine wpAny_loadPart_at hC ?_
    | with_reducible refine wpAny_madeBy_exc hC ?_
    | wp_step)
  refine codeAny_call_builtin_code (Code.quiet_builtin _ FB.quiet) (new_asked FB hT hC ?_)
  refine new_runs FB hT hC ?_ hrest
  show wpAny _ _ _ _ _ _
  have k : ∀ b o, h.get? b = some o → ((h.push (kdv_tup rest)).push (excO C h.objs.size)).get? b = some o := fun b o e => Heap.get?_push_of_some _ (Heap.get?_push_of_some _ e)
  have hC₁ := k _ _ hC
  have hget : ((h.push (kdv_tup rest)).push (excO C h.objs.size)).get? (h.objs.size + 1) = some (excO C h.objs.size) := by heap_get
  have hcC : (Value.ref C :: bm).contains (.ref C) = true := by simp
  have i1 := hi.keeps k
  have b1 := (hb (.ref (h.objs.size + 1))).keeps k
  unfold isInstance
  repeat (first
    | with_reducible refine wpAny_loadPart_at hget ?_
    | (with_reducible refine wpAny_isSubtype_exc hC₁ ?_; rw [hcC])
    | wp_step)
  show wpAny _ _ (typeLookup (.ref C) _) _ _ _
  refine i1.at (wpAny_holding (wpAny_bind (b1.at ?_)))
  refine wpAny_bind (wpAny_call (codeAny_mono hq fun r s' z => ?_))
  rcases r with e | (v | _ | _ | _) <;> first | exact z | exact z.elim | skip
  obtain ⟨rfl, z⟩ := z
  first
    | exact wpAny_pure (wpAny_pure z)
    | (wp_walk; exact z)

theorem class_called (FB : ExcBaseFacts B newId initId bmB) (hT : Chain B bm) {rest : List Value} {fI : Addr}
    (hC : h.get? C = some (excClassObj nm q C N bs bm hdct sn sub ab col dd k0 k1 k2 k3 k5 newId))
    (hi : Looks (model prog w) h (typeLookup (.ref C) "__init__") (some (.ref fI))) (hb : ∀ self, Looks (model prog w) h (bindSpecial (.ref fI) self) (.ref fI, [self])) (hrest : rest.length ≤ sizeLine)
    (hq : codeAny (model prog w) (A.under (.builtin "type.__call__" ⟨.ref C :: rest, []⟩)) (.call (.ref fI) ⟨.ref (h.objs.size + 1) :: rest, []⟩) (InitBack (h.objs.size + 1) R)
      ⟨(h.push (kdv_tup rest)).push (excO C h.objs.size), g, d, t, os⟩) :
    codeAny (model prog w) A (.call (.ref C) ⟨rest, []⟩) R ⟨h, g, d, t, os⟩ := by
  have f1 := tc_lookup
  have f2 := tc_bind (.ref C)
  have hTy : (⟨h, g, d, t, os⟩ : Shared).TypeIs (.ref C) "type" := ⟨_, hC, rfl⟩
  refine codeAny_of_tree ?_
  show wpAny _ _ (callAny (.ref C) _) _ _ _
  repeat (any_goals (first
    | assumption
    | with_reducible refine wpAny_loadPart_at hC ?_
    | wp_step))
  refine ⟨rfl, ?_⟩
  refine codeAny_call_builtin_at (Code.quiet_builtin _ (by decide +kernel)) entry_typeCall (wpAny_check_type_call_sub hC (type_called FB hT hC hi hb hrest ?_))
  refine codeAny_mono hq fun r s' z => ?_
  rcases r with e | (v | _ | _ | _) <;> exact z

/-- super().__init__(msg) once the method-wrapper is there -/
theorem mw_called (IF : InitF B initId) {u e t0 : Addr} {rest : List Value} {Q : Value → Shared → Prop}
    (hC : h.get? C = some (excClassObj nm q C N bs bm hdct sn sub ab col dd k0 k1 k2 k3 k5 newId)) (hu : h.get? u = some (kxs_mw initId e)) (he : h.get? e = some (excO C t0)) (hrest : rest.length ≤ sizeLine)
    (hq : ∀ h' t1, (∀ b o, b ≠ e → h.get? b = some o → h'.get? b = some o) → h'.get? e = some (excO C t1) → Q .none ⟨h', g, d, t, os⟩) :
    wpAny (model prog w) A (call (.ref u) rest) Q E ⟨h, g, d, t, os⟩ := by
  refine wpAny_call (codeAny_of_tree ?_)
  show wpAny _ A.in1 (callAny (.ref u) ⟨rest, []⟩) _ _ _
  simp only [callAny]
  refine wpAny_bind (wpAny_load hu ?_)
  simp only [kxs_mw, show (Value.type "method-wrapper" == Value.type "method" || Value.type "method-wrapper" == Value.type "builtin_function_or_method" || Value.type "method-wrapper" == Value.type "method-wrapper") = true by decide, if_true]
  refine KFB.if_so (by decide) ?_
  have hshort := IF.star
  refine wpAny_bind ?_
  simp only [checkBoundCall, IF.kind, IF.sig]
  repeat (first
    | (with_reducible refine wpAny_loadPart_at he ?_)
    | with_reducible refine wpAny_loadPart_at hC ?_
    | wp_step)
  refine wpAny_onRaise ?_
  rw [show ∀ (a b : String) (n : Nat), Bind.check ⟨.positional, "*", B, .self, [⟨"args", .varPos, false⟩]⟩ a b n (List.map (fun x => x.fst) ({ pos := Value.ref e :: rest } : Args).kw) = pure () from
    fun a b n => check_star_args _ _ _ _ _ _]
  refine wpAny_pure (wpAny_bind (wpAny_pure (wpAny_pure ?_)))
  refine ⟨plainId_quiet IF.plain _, codeAny_builtin IF.entry ?_⟩
  exact exc_init_tree (cls := .ref C) (t0 := t0) (dv := none) (c2 := .none) (c3 := .none) (b4 := .bool false) he hrest fun h' k e' _ => hq h' _ k e'
end
end K5X
end PySem
set_option Elab.async false
set_option linter.all false
set_option maxRecDepth 100000
set_option maxHeartbeats 2000000
namespace PySem
namespace K5X
open PySem.W PySem.Calls PyProof.Rows PySem.HandSPX

/-- the call of a method, its places written -/
def Mc (o : Expr) (name : Str) (ap : Pos) (args : List Expr) (pos : Pos) : Prop := ∀ env : Env, ∃ pl : Sem Bool, eval (.Call (.Attribute o name ap) args [] pos) env = (do
      let ov ← attributeBase o name env (eval o env)
      standAt ap.atName
      let (fn, first) ← holding [ov] (getMethod ov name pl)
      callWith pos fn first (backTo pos (starEach args env)) [])
/-- what is written of an own error at C and of its __init__ at fI -/
structure ETxt (P : Program) (K : Frag) (mg : Str → Option Value) (x f msg : Str) (C fI : Addr) : Prop where
  gC : mg x = some (.ref C)
  noS : mg "super" = none
  cls : ∃ B newId initB bmB nm q N bs bm sn sub ab col dd k0 k1 k2 k3 k5, ExcBaseFacts B newId initB bmB ∧ Chain B bm ∧ K.lookup C = some (excClassObj nm q C N bs bm true sn sub ab col dd k0 k1 k2 k3 k5 newId)
  ini : ∃ T i, InitF T i ∧ ks_superIn K C C "__init__" = some (some (.builtin i)) ∧ subIn K (.ref C) (.type T) = some true
  noT : nsIn K cStatics "thirdparty.any" = some none
  self : mroIn K C (.ref C) = some true
  sa : findIn K (.ref C) "__setattr__" = some (some (.builtin "object.__setattr__"))
  ga : findIn K (.ref C) "__getattribute__" = some (some (.builtin "BaseException.__getattribute__"))
  gg : findIn K (.ref C) "__getattr__" = some none
  noF : findIn K (.ref C) f = some none
  iC : findIn K (.ref C) "__init__" = some (some (.ref fI))
  tC : typeIn K (.ref fI) = some (.type "function")
  kC : keepIn K (.ref C) = true
  exC : subIn K (.ref C) (.type "BaseException") = some true
  tyC : typeIn K (.ref C) = some (.type "type")
  hdC : hasDictIn K C = true
  fn : ∃ (oc : Value) (od : Option Addr) (qual : Str) (doc pm : Value) (an : Option Addr) (cda cc : Addr) (ct : Value) (osl : Array (Option Value)) (p1 p2 a b c d e s x y z v : Pos),
    K.lookup fI = some ⟨oc, od, .func (ksFn "__init__" qual (iA f p1 p2) (iB f msg a b c d e s x y z v) (iS f) .none .none doc pm an (.ref cda) ct cc), osl⟩ ∧ codeIn K (.ref cda) qual = true ∧ Mc (.Call (.Name "super" a) [] [] b) "__init__" c [.Constant (.str msg) 0 d] e ∧
    (∃ ccl cdd vs ccs file tf, K.lookup cda = some ⟨ccl, cdd, .fields vs, ccs⟩ ∧ vs[2]? = some (.str file tf) ∧ ((P.main.file : Str) == file) = true) ∧
    ∃ cl cld csl, K.lookup cc = some ⟨cl, cld, .cell (some (.ref C)), csl⟩
  top : (P.main.scope.names.lookup ("super" : Str)).isSome = false
  loc : (iS f).names.lookup f = some .local
  hks : (iS f).names.lookup ("super" : Str) = some .globalImplicit
  hkc : (iS f).names.lookup ("__class__" : Str) = some .free
  fne : ((Str.ofString "self" : Str) == f) = false
  fdb : (f == ("__debug__" : Str)) = false
  bnd : ∀ (s : Shared) (u v : Value) (fd : FuncData) (p1 p2 : Pos), fd.params = iA f p1 p2 → fd.defaults = .none → fd.kwdefaults = .none → BindsTo s fd ⟨[u, v], []⟩ [(Str.ofString "self", u), (f, v)]

/-- what __init__ leaves of a fresh error at x -/
structure InitEnd (h h' : Heap) (f : Str) (x C dx t1 : Addr) (v : Value) : Prop where
  keep : ∀ b o, b ≠ x → h.get? b = some o → h'.get? b = some o
  obj : h'.get? x = some { cls := .ref C, dict := some dx, data := .fields #[.ref t1, .none, .none, .none, .bool false, .none] }
  dbig : h.objs.size ≤ dx
  dne : dx ≠ x
  ns : h'.Ns1 dx (fun y => if y = f then some v else none)
structure OwnMade (h h' : Heap) (f : Str) (e C d : Addr) (v : Value) : Prop where
  keep : ∀ b o, h.get? b = some o → h'.get? b = some o
  new : h.objs.size ≤ e
  obj : ∃ oe vs, h'.get? e = some oe ∧ oe.cls = .ref C ∧ oe.dict = some d ∧ oe.data = .fields vs ∧ vs[1]? = some .none
  dbig : h.objs.size ≤ d
  dne : d ≠ e
  ns : h'.Ns1 d (fun y => if y = f then some v else none)

theorem own_osa {prog : Program} {w : World} {A : Around} {R : Result → Shared → Prop} {hp : Heap} {g : Array GenState} {d : Drawn} {t : Nat} {os : OsState}
    {K : Frag} {name : Str} {tk : Tok} {v : Value} {x C : Addr} {fv : Array Value} {cd : ClassData} {B : String} {bm : List Value}
    (X : K.In hp) (hx : hp.get? x = some { cls := .ref C, data := .fields fv }) (hcd : clsIn K C = some cd) (hmr : cd.mro = .ref C :: bm) (hm : Chain B bm) (hh : cd.hasDict = true) (ha : findIn K (.ref C) name = some none)
    (hq : ∀ h' tk' dx, (∀ b o, b ≠ x → hp.get? b = some o → h'.get? b = some o) → hp.objs.size ≤ dx → dx ≠ x → h'.get? x = some { cls := .ref C, dict := some dx, data := .fields fv } →
      h'.Ns1 dx (fun y => if y = name then some v else none) → R (.ok (.ret .none)) ⟨h', g, d, tk', os⟩) :
    codeAny (model prog w) A (.call (.builtin "object.__setattr__") ⟨[.ref x, .str name tk, v], []⟩) R ⟨hp, g, d, t, os⟩ := by
  have I : InstAt hp x { cls := .ref C, data := .fields fv } C none := ⟨hx, rfl, rfl, trivial⟩
  have SF := F.store_object
  have ne : cd.mro.isEmpty = false := by rw [hmr]; rfl
  have hob : cd.mro.contains (.type "object") = true := by rw [hmr, List.contains_cons, hm.hasO, Bool.or_true]
  have hxs : x ≠ hp.objs.size := Nat.ne_of_lt (Heap.lt_size hx)
  have sub : Looks (model prog w) hp (isInstance (.ref x) (.type "object")) true := I.type.andThen (looks_mroIn X (by unfold mroIn; rw [hcd, Option.bind_some, if_neg (by rw [ne]; decide), hob]))
  refine codeAny_call_builtin SF.slot.plain SF.entry (@check_slot (model prog w) _ _ ⟨hp, g, d, t, os⟩ "object.__setattr__" "object" "__setattr__" (.ref x) [.str name tk, v] [] _ SF.kind SF.split sub (SF.args (.ref x) (.str name tk) v) ?_)
  have hmr2 : Looks (model prog w) hp (mroOf (.ref C)) cd.mro := (looks_clsIn X hcd).andThen .now
  have L3 : Looks (model prog w) hp (Builtin.ObjectAttr.storeTaker? none) none := .now
  have hcls : Looks (model prog w) hp (classData C) cd := looks_clsIn X hcd
  rw [osa_eq, refuse_eq]
  refine wpAny_bind (wpAny_bind (I.type.at (wpAny_bind (hmr2.at ?_))))
  rw [show ∀ self, refuseLoop self "__setattr__" cd.mro = pure () from fun self => by rw [hmr]; exact pass_refs hm.pass C self]
  refine wpAny_pure (wpAny_bind (I.type.at (wpAny_bind ((looks_findIn X ha).at (wpAny_bind (L3.at ?_))))))
  show wpAny _ _ (Builtin.ObjectAttr.storeInOwnDict (.ref x) (.ref C) (.str name tk) name v false) _ _ _
  obtain ⟨nm, bs, mro, ns, qn, hd, sn, sb, ab, col, del⟩ := cd
  dsimp only at hh
  subst hh
  unfold Builtin.ObjectAttr.storeInOwnDict Builtin.ObjectAttr.ownDictForStores
  repeat (first
    | with_reducible refine store_in_new ?_ ?_
    | with_reducible refine wpAny_loadPart_at hx ?_
    | with_reducible refine hcls.at ?_
    | wp_step)
  · exact ⟨_, #[], _, (Heap.get?_update_ne _ _ _ _ hxs.symm).trans (Heap.get?_push_at rfl rfl), rfl, fun e he => absurd he (by simp), fun _ => rfl⟩
  · intro h' tk' hn' hs
    have hx₁ : (hp.push { cls := .type "dict", data := .dict #[] }).get? x = some { cls := .ref C, data := .fields fv } := Heap.get?_push_of_some _ hx
    refine hq h' tk' hp.objs.size (fun b o hb ho => ?_) (Nat.le_refl _) hxs.symm ?_ hn'
    · exact (hs.2 b (Nat.ne_of_lt (Heap.lt_size ho))).trans ((Heap.get?_update_ne _ _ _ _ hb).trans (Heap.get?_push_of_some _ ho))
    · exact (hs.2 x hxs).trans (Heap.get?_update_self _ hx₁ rfl)

section
variable {prog : Program} {w : World} {A : Around} {E : Value → Shared → Prop} {R : Result → Shared → Prop} {s : Shared} {K : Frag} {mg : Str → Option Value} {f xn msg : Str} {C fI : Addr}

theorem own_init (T : ETxt prog K mg xn f msg C fI) {x t0 : Addr} {v : Value} (X : K.In s.heap) (hlim : s.heap.NoLimit) (hg : s.heap.Ns mainGlobals mg) (hb : ∃ mb, s.heap.Ns builtinsNs mb ∧ ∀ y : Str, y ≠ "__name__" → mb y = bootBuiltins y)
    (hx : s.heap.get? x = some (excO C t0)) (hnx : K.lookup x = none) (hroom : A.depth < recursionLimit)
    (hq : ∀ h' tk dx t1, InitEnd s.heap h' f x C dx t1 v → R (.ok (.ret .none)) { s with heap := h', toks := tk }) :
    codeAny (model prog w) A (.call (.ref fI) ⟨[.ref x, v], []⟩) R s := by
  obtain ⟨oc, od, qual, doc, pm, an, cda, cc, ct, osl, p1, p2, q1, q2, q3, q4, q5, q6, q7, q8, q9, q10, ho, hcd, hmc, ⟨ccl, cdd, vs, ccs, file, tf, hco, hvs, hfile⟩, cl, cld, csl, hcc⟩ := T.fn
  obtain ⟨B, newId, initB, bmB, nm, q, N, bs, bm, sn, sub, ab, col, dd, k0, k1, k2, k3, k5, FB, hT, hC⟩ := T.cls
  obtain ⟨TB, i, IF, hsup, hsubT⟩ := T.ini
  have hcl : clsIn K C = some { name := nm, bases := bs, mro := .ref C :: bm, ns := N, qualname := q, hasDict := true, slotNames := sn, subclasses := sub, abstract := ab, collection := col, hasDel := false } := by unfold clsIn; rw [hC] <;> rfl
  have hal : alongIn K "__init__" bm = some (some (.builtin i)) := by
    unfold ks_superIn at hsup
    rw [hcl, Option.bind_some] at hsup
    have e : ((Value.ref C :: bm).dropWhile (· != .ref C)).drop 1 = bm := by simp [List.dropWhile]
    dsimp only at hsup
    rw [e] at hsup
    exact hsup
  have hloc : ∀ y ∈ [((Str.ofString "self" : Str), (.ref x : Value)), (f, v)], (iS f).names.lookup y.1 = some .local := fun y hy => by
    rcases List.mem_cons.mp hy with rfl | hy
    · rfl
    · rcases List.mem_cons.mp hy with rfl | hy
      · exact T.loc
      · cases hy
  refine ks_codeAny_call_defAt (fd := ksFn "__init__" qual (iA f p1 p2) (iB f msg q1 q2 q3 q4 q5 q6 q7 q8 q9 q10) (iS f) .none .none doc pm an (.ref cda) ct cc) (body := iB f msg q1 q2 q3 q4 q5 q6 q7 q8 q9 q10)
    (binds := [(Str.ofString "self", .ref x), (f, v)]) hroom (X _ _ ho) rfl hlim (codeRec_of X hcd) rfl (T.bnd _ _ _ _ _ _ rfl rfl rfl) ?_ hloc (fun h₁ hn k => ?_) rfl rfl rfl
  · intro y hy
    rcases List.mem_cons.mp hy with rfl | hy
    · intro z; cases z
    rcases List.mem_cons.mp hy with rfl | hy
    · intro z; cases z
    rcases List.mem_cons.mp hy with rfl | hy
    · intro z; cases z
    rcases List.mem_cons.mp hy with rfl | hy
    · intro z; cases z
    cases hy
  obtain ⟨hp, g, dr, tk, os⟩ := s
  have X₁ : K.In h₁ := X.keeps k
  have hx₁ := k _ _ hx
  have hself : (fun y => [((Str.ofString "self" : Str), (.ref x : Value)), (f, v)].reverse.lookup y) (Str.ofString "self") = some (.ref x) := by
    show List.lookup _ [(f, v), (Str.ofString "self", .ref x)] = _
    rw [List.lookup_cons, T.fne]
    rfl
  have hfv : (fun y => [((Str.ofString "self" : Str), (.ref x : Value)), (f, v)].reverse.lookup y) f = some v := by
    show List.lookup _ [(f, v), (Str.ofString "self", .ref x)] = _
    rw [List.lookup_cons, beq_self_eq_true]
  show PySem.wpAt _ (A.deeper (ksEnv qual (iS f) hp.objs.size fI (.ref cda) cc)) (.func _ (ksEnv qual (iS f) hp.objs.size fI (.ref cda) cc)) (execs _ (ksEnv qual (iS f) hp.objs.size fI (.ref cda) cc)) _ _ _
  obtain ⟨mb, hb1, hb2⟩ := hb
  have glob : ∀ (env : Env), env.globals = mainGlobals → env.builtins = builtinsNs → ∀ {Q : Value → Shared → Prop} {E : Value → Shared → Prop} {A : Around} {tk : Nat}, Q (.type "super") ⟨h₁, g, dr, tk, os⟩ → wpAny (model prog w) A (loadGlobal env "super") Q E ⟨h₁, g, dr, tk, os⟩ := fun env e1 e2 {Q E A tk} hQ =>
    loadGlobal_builtin (by rw [e1]; exact hg.keeps k) T.noS (by rw [e2]; exact hb1.keeps k) ((hb2 _ (by decide)).trans (by decide +kernel)) hQ
  obtain ⟨pl, hev⟩ := hmc (ksEnv qual (iS f) hp.objs.size fI (.ref cda) cc)
  refine ks_wpAt_execs_cons (ks_wpAt_Expr_any (ks_wpAt_MethodCall ?_ hev))
  refine ks_wpAt_super_base (env := ksEnv qual (iS f) hp.objs.size fI (.ref cda) cc) T.hks T.hkc (by decide) rfl (X₁ _ _ ho) rfl rfl rfl (X₁ _ _ hco) rfl hvs hfile T.top ?_
  refine ks_loadName_global rfl T.hks (glob _ rfl rfl ⟨rfl, ?_⟩)
  refine wpAny_loadName_free rfl T.hkc (by rfl) ⟨_, X₁ _ _ hcc, rfl⟩ ?_
  refine wpAny_loadName_local rfl (by rfl) hn hself ?_
  refine ks_wpAny_isType_cls (X₁ _ _ hC) rfl ⟨rfl, ?_⟩
  refine ks_wpAny_call_super (X₁ _ _ hC) rfl hx₁ rfl (fun c e => by cases e) (looks_mroIn X₁ T.self) (fun h₂ e2 k2 => ?_)
  have X₂ : K.In h₂ := X₁.keeps k2
  have hx₂ := k2 _ _ hx₁
  have I₂ : InstAt h₂ x (excO C t0) C none := ⟨hx₂, rfl, rfl, trivial⟩
  have hI : Looks (model prog w) h₂ (isInstance (.ref x) (.type TB)) true := I₂.type.andThen (looks_subIn X₂ hsubT)
  have hxC : x ≠ C := fun z => by
    have e := X₂ _ _ hC
    rw [← z, hx₂] at e
    cases e
  refine kxs_getMethod IF.kxs e2 (looks_opaque X₂ T.noT) (l₀ := .ref C :: bm) ((looks_clsIn X₂ hcl).andThen .now) (l := bm) (by simp [List.dropWhile]) X₂ hal hI hxC rfl ?_
  refine kxs_callWith (i := i) (x := x) rfl ?_
  refine evalArgs_plain (spliced_cons (Constant_str (k := 0) (pos := q4) (spliced_nil ⟨Heap.get?_push_at rfl rfl, ?_⟩)))
  have k3 : ∀ b o, h₂.get? b = some o → (h₂.push (kxs_mw i x)).get? b = some o := fun b o e => Heap.get?_push_of_some _ e
  refine mw_called IF (k3 _ _ (X₂ _ _ hC)) (Heap.get?_push_at rfl rfl) (k3 _ _ hx₂) (by show 1 ≤ _; rw [sizeLine_eq]; decide) fun h₄ t1 k4 hx₄ => ?_
  -- self.f = f
  have kk : ∀ b o, b ≠ x → h₁.get? b = some o → h₄.get? b = some o := fun b o hb e => k4 b o hb (k3 _ _ (k2 _ _ e))
  have hxL : hp.objs.size ≠ x := Nat.ne_of_gt (Heap.lt_size hx)
  have X₄ : K.In h₄ := fun b o e => kk b o (fun z => by rw [z, hnx] at e; cases e) (X₁ _ _ e)
  have hn₄ : h₄.Ns hp.objs.size (fun y => [((Str.ofString "self" : Str), (.ref x : Value)), (f, v)].reverse.lookup y) := hn.at fun o e => kk _ o hxL e
  refine wpAt_of_wpAny (wpAny_execs_cons (plainObj_wpAny_Assign_Attribute ?_))
  refine wpAny_Name (wpAny_loadName_local rfl T.loc hn₄ hfv ?_) T.fdb
  refine wpAny_Name (wpAny_loadName_local rfl (by rfl) hn₄ hself ?_) (by decide)
  refine set_plain X₄ (ox := excO C t1) (od := none) ⟨hx₄, rfl, rfl, trivial⟩ T.sa ?_
  refine own_osa X₄ hx₄ hcl rfl hT rfl T.noF (fun h₅ tk₅ dx k₅ dn dne hx₅ hn₅ => ?_)
  have z : hp.objs.size < h₄.objs.size := hn₄.lt
  refine wpAny_execs_nil (hq h₅ tk₅ dx t1 ⟨fun b o hb e => k₅ b o hb (kk b o hb (k b o e)), hx₅, Nat.le_of_lt (Nat.lt_of_lt_of_le z dn), dne, hn₅⟩)

theorem own_made (T : ETxt prog K mg xn f msg C fI) {v : Value} (X : K.In s.heap) (hlim : s.heap.NoLimit) (hg : s.heap.Ns mainGlobals mg) (hb : ∃ mb, s.heap.Ns builtinsNs mb ∧ ∀ y : Str, y ≠ "__name__" → mb y = bootBuiltins y) (hroom : A.depth + 1 < recursionLimit)
    (hq : ∀ h' tk e d, OwnMade s.heap h' f e C d v → R (.ok (.ret (.ref e))) { s with heap := h', toks := tk }) :
    codeAny (model prog w) A (.call (.ref C) ⟨[v], []⟩) R s := by
  obtain ⟨B, newId, initB, bmB, nm, q, N, bs, bm, sn, sub, ab, col, dd, k0, k1, k2, k3, k5, FB, hT, hC⟩ := T.cls
  obtain ⟨hp, g, dr, tk, os⟩ := s
  have k : ∀ b o, hp.get? b = some o → ((hp.push (kdv_tup [v])).push (excO C hp.objs.size)).get? b = some o := fun b o e => Heap.get?_push_of_some _ (Heap.get?_push_of_some _ e)
  have hget : ((hp.push (kdv_tup [v])).push (excO C hp.objs.size)).get? (hp.objs.size + 1) = some (excO C hp.objs.size) := by heap_get
  have hnx : K.lookup (hp.objs.size + 1) = none := by
    cases e : K.lookup (hp.objs.size + 1) with
    | none => rfl
    | some o =>
      have z : hp.get? (hp.objs.size + 1) = some o := X _ _ e
      exact absurd (Nat.lt_of_succ_lt (Heap.lt_size z)) (Nat.lt_irrefl _)
  obtain ⟨mb, hb1, hb2⟩ := hb
  refine class_called FB hT (X _ _ hC) (looks_findIn X T.iC) (fun self => bind_fn X self T.tC) (by rw [sizeLine_eq]; exact (by decide : 1 ≤ 16777216)) ?_
  refine own_init (s := ⟨(hp.push (kdv_tup [v])).push (excO C hp.objs.size), g, dr, tk, os⟩) T (X.keeps k) (hlim.keeps k) (hg.keeps k) ⟨mb, hb1.keeps k, hb2⟩ hget hnx ?_ fun h' tk' dx t1 ⟨k', hx, dn, dne, hns⟩ => ?_
  · show A.depth + 1 < recursionLimit
    exact hroom
  · have old : ∀ b o, hp.get? b = some o → h'.get? b = some o := fun b o e => k' b o (Nat.ne_of_lt (Nat.lt_succ_of_lt (Heap.lt_size e))) (k b o e)
    have z : hp.objs.size + 1 + 1 ≤ dx := by
      have q := dn
      rw [Heap.size_push, Heap.size_push] at q
      exact q
    exact ⟨rfl, hq h' tk' (hp.objs.size + 1) dx ⟨old, Nat.le_succ _, ⟨_, _, hx, rfl, rfl, rfl, rfl⟩, Nat.le_trans (Nat.le_trans (Nat.le_succ _) (Nat.le_succ _)) z, dne, hns⟩⟩
end
end K5X
end PySem
namespace L2
open PySem PySem.Spec PyProof.Rows PySem.K5X
theorem relO_one {f : Str} {v : V} {v' : Value} (r : RelV v v') (y : Str) : RelO (List.lookup y [(f, v)]) (if y = f then some v' else none) := by
  by_cases hw : y = f
  · subst hw
    rw [if_pos rfl, List.lookup_cons, beq_self_eq_true]
    exact r
  · rw [if_neg hw, List.lookup_cons, show (y == f) = false by simpa using hw]
    trivial
section
variable {X : Cx} {C fI : Addr} {x f msg : Str}
/-- X(e), an own error that keeps its argument in the field f -/
def tMkE (C : Addr) (f : Str) (ta : TA) : St → Hp → XK → Prop := fun σ H Q => ta σ H fun vs H1 => ∃ v, vs = [v] ∧ ∀ d, H1 d = none → Q (.ref C) (some d) (upd H1 d (.xd [(f, v)]))
theorem pmk_E {a : Expr} {ta : TA} {p pos : Pos} {k : Nat} (T : ETxt X.prog X.K X.mg x f msg C fI) (hr : Room k X.A) (ha : PA X [a] ta) (hg : Gl X x) (hdb : (x == ("__debug__" : Str)) = false)
    (he : starEach (a :: []) X.env = (false, eval a X.env) :: starEach [] X.env := by rfl) (hpl : (backTo pos (starEach [] X.env)).any (·.1) = false := by rfl) :
    PMk X (.Call (.Name x p) [a] [] pos) (tMkE C f ta) := by
  intro pins s σ H Q I h
  refine wpAny_Call_Name_kw (ld_glob I hg T.gC ?_ hdb)
  refine PySem.W.callWith_K (h₀ := X.base) I.ok.mod.kin T.kC (thn (ha.run pos pins s σ H _ I h) fun us s1 hh => ?_) he hpl
  obtain ⟨vs, H1, I1, r1, v, ev, q1⟩ := hh
  subst ev
  refine ⟨I1.kIn, ?_⟩
  cases r1 with
  | cons rv rn =>
    rename_i v' us'
    cases rn
    show wpAny _ _ (call (.ref C) [v']) _ _ _
    have hlim := I1.nolimit
    have hgl := I1.mod.glob.keeps I1.bk
    obtain ⟨mb, hb1, hb2⟩ := I1.mod.blt
    have hbl := hb1.keeps I1.bk
    obtain ⟨hp, g, dr, tk, os⟩ := s1
    refine wpAny_call (own_made T I1.kIn hlim hgl ⟨mb, hbl, hb2⟩ (by have := hr.dp; omega) fun h' tk' e d M => ?_)
    show MkP X pins σ Q (.ref e) ⟨h', g, dr, tk', os⟩
    obtain ⟨oe, fv, hoe, hc, hd, hdat, h1⟩ := M.obj
    have hns := M.ns
    obtain ⟨G', g1, g2⟩ := restrict h' fun b => decide (b ≠ e)
    have gk : ∀ b, b ≠ e → G'.get? b = h'.get? b := fun b hb => g1 b (decide_eq_true hb)
    have ge : G'.get? e = none := g2 e (by simp)
    have old : ∀ b o, hp.get? b = some o → G'.get? b = some o := fun b o q => (gk b (Nat.ne_of_lt (Nat.lt_of_lt_of_le (Heap.lt_size q) M.new))).trans (M.keep b o q)
    have ob : ObjOk X.prog X.w (upd H1 d (.xd [(f, v)])) G' d (.xd [(f, v)]) :=
      ⟨_, hns.at (fun o q => (gk d M.dne).trans q), fun y => relO_one rv y⟩
    have J : Inv X pins σ (upd H1 d (.xd [(f, v)])) ⟨G', g, dr, tk', os⟩ := I1.laid (t' := tk') old M.dbig ob
    refine ⟨e, oe, fv, ⟨G', g, dr, tk', os⟩, _, .ref C, some d, rfl, J, fun b o q => ?_, ge, hoe, ⟨hc, hd⟩, hdat, h1, ?_, rfl, I1.bare, raises_own T.exC T.tyC, q1 d (I1.hok.fresh M.dbig)⟩
    · by_cases hb : b = e
      · have q' : G'.get? b = some o := q
        rw [hb, ge] at q'; cases q'
      · exact (gk b hb).symm.trans q
    · rw [upd_ne (Ne.symm M.dne)]
      exact I1.hok.fresh M.new
/-- raise X(e) -/
def tRaiseE (C : Addr) (f : Str) (W : WX) (ta : TA) : TS := fun _ σ H => tMkE C f ta σ H fun cls d H' => W cls d σ H'
theorem ps_raiseE {a : Expr} {ta : TA} {W : WX} {p pos pos2 : Pos} {k : Nat} (hc : X.calm = true) (T : ETxt X.prog X.K X.mg x f msg C fI) (hr : Room k X.A) (tk : Takes X W) (ha : PA X [a] ta) (hg : Gl X x := by rfl) (hdb : (x == ("__debug__" : Str)) = false := by decide)
    (he : starEach (a :: []) X.env = (false, eval a X.env) :: starEach [] X.env := by rfl) (hpl : (backTo pos (starEach [] X.env)).any (·.1) = false := by rfl) :
    PS X (.Raise (some (.Call (.Name x p) [a] [] pos)) none pos2) (tRaiseE C f W ta) := ps_raise hc tk (pmk_E T hr ha hg hdb he hpl)
/-- n.f, n the own error that the suite holds (at a; its class cls, its dict d) -/
def tFldE (C : Addr) (f : Str) (a : Addr) (cls : Value) (d : Option Addr) (te : TE) : TE := fun σ H Q => te σ H fun y H1 => y = .ref a ∧ cls = .ref C ∧ ∃ (dd : Addr) (v : V), d = some dd ∧ H1 dd = some (.xd [(f, v)]) ∧ Q v H1
theorem pe_fldE {a : Addr} {oe : Obj} {cls : Value} {d : Option Addr} {pn : List (Addr × Obj)} {e : Expr} {te : TE} {pos : Pos} (T : ETxt X.prog X.K X.mg x f msg C fI) (hz : Zc cls d oe) (hf : ∃ vs, oe.data = .fields vs) (he : PE (X.suite a ((a, oe) :: pn)) e te)
    (hb : attributeBase e f X.env (eval e X.env) = eval e X.env := by rfl) :
    PE (X.suite a ((a, oe) :: pn)) (.Attribute e f pos) (tFldE C f a cls d te) := by
  refine ⟨fun pins s σ H Q I h => ?_⟩
  refine attr_of hb (thn (he.run pins s σ H _ I h) fun u s1 hh => ?_)
  obtain ⟨y, H1, I1, rx, ex, ec, dd, v, ed, ea, q⟩ := hh
  subst ex
  obtain rfl : u = Value.ref a := rx
  subst ec
  subst ed
  obtain ⟨ha, _⟩ := I1.pin (a, oe) (List.mem_append_left _ List.mem_cons_self)
  obtain ⟨vs, hd⟩ := hf
  have hx : ObjOk X.prog X.w H1 s1.heap dd (.xd [(f, v)]) := I1.hok dd _ ea
  obtain ⟨mA, hns, hr⟩ := hx
  obtain ⟨od, ho, hl⟩ := lookIn_ns hns
  have l : List.lookup f [(f, v)] = some v := by rw [List.lookup_cons, beq_self_eq_true]
  obtain ⟨u, hu, ru⟩ := RelO.some_of (v := v) (o := mA f) (by rw [← l]; exact hr f)
  have J : PySem.W.InstAt s1.heap a oe C (some od) := ⟨ha, hz.1, by unfold PySem.W.notCls; rw [hd] <;> rfl, by rw [hz.2]; exact ho⟩
  exact HandSPX.exc_get I1.kIn J T.ga T.gg T.exC (PySem.W.findObj_own T.hdC T.noF rfl (by rw [hl, hu])) (handed_of ru) ⟨v, H1, I1.tok _, ru, q⟩
end
end L2
set_option Elab.async false
set_option linter.all false
set_option maxRecDepth 100000
set_option maxHeartbeats 2000000
namespace L2
open PySem PySem.Spec PyProof.Rows PySem.K5X
/-- what the class C of an error with a dict must say, for isinstance -/
structure ExcD (K : PySem.W.Frag) (C : Addr) : Prop where
  hc : (PySem.W.clsIn K C).isSome = true
  hg : PySem.W.findIn K (.ref C) "__getattribute__" = some (some (.builtin "BaseException.__getattribute__"))
  hk : PySem.W.findIn K (.ref C) "__getattr__" = some none
  hs : PySem.W.subIn K (.ref C) (.type "BaseException") = some true
  ha : PySem.W.findIn K (.ref C) "__class__" = some (some (.builtin "object.__class__"))
  hn : PySem.W.specialIn K (.builtin "object.__class__") "__get__" = some (some (.builtin "getset_descriptor.__get__"))
  ht : PySem.W.takesIn K (.builtin "object.__class__") = some true
  hm : PySem.W.mroIn K C (.type "object") = some true
/-- isinstance(e, c), e the error that the suite holds, its dict at d -/
def rIsD (K : PySem.W.Frag) (C a : Addr) (d : Option Addr) : List V → Hp → VK → Prop := fun xs H Q => ∃ (c : V) (cv : Value) (b : Bool) (dd : Addr) (fs : List (Str × V)), xs = [.ref a, c] ∧ ClsV c cv ∧ d = some dd ∧ H dd = some (.xd fs) ∧ PySem.W.kitOne K (.ref C) cv = some b ∧ Q (.bl b) H
theorem call_isD {X : Cx} {a C : Addr} {d : Option Addr} {oe : Obj} {pn : List (Addr × Obj)} (T : ExcD X.K C) (hz : Zc (.ref C) d oe) (hf : ∃ vs, oe.data = .fields vs) : CallR (X.suite a ((a, oe) :: pn)) (.builtin "isinstance") (rIsD X.K C a d) := by
  intro pins s σ H xs us Q I r h
  obtain ⟨c, cv, b, dd, fs, rfl, hcv, rfl, hdd, e, q⟩ := h
  obtain ⟨u1, u2, rfl, r1, r2⟩ := vals2 r
  cases (show u1 = Value.ref a from r1)
  have ec := hcv.eq r2
  subst ec
  obtain ⟨hget, _⟩ := I.pin (a, oe) (List.mem_append.mpr (.inl List.mem_cons_self))
  obtain ⟨vs, hv⟩ := hf
  obtain ⟨mA, hns, _⟩ := (show ObjOk X.prog X.w H s.heap dd (.xd fs) from I.hok dd _ hdd)
  obtain ⟨od, ho, _⟩ := lookIn_ns hns
  have J : PySem.W.InstAt s.heap a oe C (some od) := ⟨hget, hz.1, by unfold PySem.W.notCls; rw [hv] <;> rfl, by rw [hz.2]; exact ho⟩
  exact PySem.W.kia_one (PySem.W.kitx_exc T.hc T.hg T.hk T.hs T.ha T.hn T.ht T.hm) I.kIn J e (fun z => nomatch z) fun tk => ⟨.bl b, H, I.kept (t' := tk) fun _ _ z => z, rfl, q⟩

/-- what clauses «except c as n» wish of an error of the body, one after the other; slot i is n's -/
def wManyAs (K : PySem.W.Frag) (i : Nat) (Wout : WX) (D : Ends) : List (Value × (Addr → Value → Option Addr → TS)) → WX
  | [] => Wout
  | (c, ts) :: r => fun cls d σ H => ∃ b, PySem.W.exmOne K cls c = some b ∧
    (b = true → ∀ a, H a = none → ts a cls d { nx := fun σ' H' => D.nx (σ'.set i none) H', rt := D.rt, bk := fun σ' H' => D.bk (σ'.set i none) H', ct := fun σ' H' => D.ct (σ'.set i none) H' } (σ.set i (some (.ref a))) H) ∧
    (b = false → wManyAs K i Wout D r cls d σ H)
inductive HdsAs (X : Cx) (n : Str) : List ExceptHandler → List (Value × (Addr → Value → Option Addr → TS)) → Prop
  | nil : HdsAs X n [] []
  | cons {x : Str} {c : Value} {ts : Addr → Value → Option Addr → TS} {b₀ : Stmt} {suite : List Stmt} {np pos' : Pos} {hds : List ExceptHandler} {l : List (Value × (Addr → Value → Option Addr → TS))} (hc : Names X x c)
      (hsu : ∀ (a : Addr) (oe : Obj) (cls : Value) (d : Option Addr) (pn : List (Addr × Obj)), Zc cls d oe → (∃ vs, oe.data = .fields vs) → PSs (X.suite a ((a, oe) :: pn)) (b₀ :: suite) (ts a cls d)) (r : HdsAs X n hds l) :
      HdsAs X n (.ExceptHandler (some (.Name x np)) (some n) (b₀ :: suite) pos' :: hds) ((c, ts) :: l)
section
variable {X : Cx} {n : Str} {i : Nat} {body : List Stmt} {h₀ : ExceptHandler} {hds : List ExceptHandler} {l : List (Value × (Addr → Value → Option Addr → TS))} {pos : Pos} {tb : WX → TS} {Wout : WX}
theorem ps_try_manyAs (hs : X.stack = X.env :: X.outer) (hf : X.env.frame = some X.env.locals) (hN : X.N.Nodup) (hi : X.N[i]? = some n) (hln : X.env.kindOf n = some .local) (tk : Takes X Wout)
    (hb : ∀ (W : WX) (pn : List (Addr × Obj)) (xe : Value → Shared → Prop), Takes (X.tr pn xe) W → PassesOwn (model X.prog X.w) X.A X.env xe → PSs (X.tr pn xe) body (tb W))
    (hh : HdsAs X n (h₀ :: hds) l) : PS X (.Try body (h₀ :: hds) [] [] pos) (fun D σ H => tb (wManyAs X.K i Wout D l) D σ H) := by
  refine ⟨fun pins s σ H D I h => ?_⟩
  have ok := I.ok
  have hfr : X.A.frames = some (X.env :: X.outer) := by rw [ok.frames, hs]
  have hloc : Loc X.env.scope n := .inl hln
  refine wpAny_Try_except ?_
  refine wpAny_mono ((hb (wManyAs X.K i Wout D l) (X.pn ++ pins) (fun e s₁ => wpAny (model X.prog X.w) X.A (noteFrame e X.env) (fun _ s₂ => wpAny (model X.prog X.w) X.A (setFlight e none) (fun _ s₃ =>
    wpAny (model X.prog X.w) X.A (handleBy e X.env (h₀ :: hds)) (SP X pins D) X.xe s₃) X.xe s₂) X.xe s₁) (fun u s' xx => ?_) PassesOwn.looking).run [] s σ H D (I.toTry _) h) (fun f s1 hsp => ?_) (fun e s1 he => he)
  · obtain ⟨a, B, sI, pins', σ', H', cls, d, rfl, J', nb, up, sky, na, os, ag, w⟩ := xx
    have J : Inv X pins σ' H' sI := J'.ofTry ok
    have sky' : Sky B (X.env :: X.outer) a (Zc cls d) X.env.locals s'.heap := by rw [← hs]; exact sky
    show wpAny (model X.prog X.w) X.A (noteFrame (.ref a) X.env) _ _ _
    refine Sky.land Zc.steady hfr hf sky' fun h3 fl3 up3 => ?_
    have J3 : Inv X pins σ' H' { s' with heap := h3 } := J.landed nb fl3.1 (up.trans up3) os ag
    obtain ⟨oe3, vs3, he3, hz3, hd3⟩ := fl3.there
    have notFr : ∀ {h : Heap} {o : Obj} {vs : Array Value}, h.FunFrames B (X.env :: X.outer) → h.get? a = some o → o.data = .fields vs → a ∉ frs (X.env :: X.outer) := fun {h o vs} ff e dd hm => by
      obtain ⟨_, o', e', hnf⟩ := ff.mem hm
      rw [e] at e'; cases e'
      exact hnf _ dd
    have nfr := notFr fl3.2.2.1 he3 hd3
    have nL : a ≠ X.env.locals := fun z => nfr (List.mem_filterMap.mpr ⟨X.env, List.mem_cons_self, by rw [hf, z]⟩)
    have nF : a ∉ X.fs := fun hm => by
      obtain ⟨e, he, q⟩ := List.mem_filterMap.mp hm
      exact nfr (List.mem_filterMap.mpr ⟨e, List.mem_cons_of_mem _ he, q⟩)
    have S3 := J3.suite he3 hd3 na nL nF
    have go : ∀ {hds' : List ExceptHandler} {l' : List (Value × (Addr → Value → Option Addr → TS))}, HdsAs X n hds' l' → wManyAs X.K i Wout D l' cls d σ' H' →
        wpAny (model X.prog X.w) X.A (handleBy (.ref a) X.env hds') (SP X pins D) X.xe { s' with heap := h3 } := by
      intro hds' l' hk
      induction hk with
      | nil =>
        intro w
        refine wpAny_handleBy_nil ?_
        obtain ⟨k1, k2, k3, oe, vs, T, oT, ts', he, hz, hd, h1, hr⟩ := id fl3
        unfold PySem.passOn
        refine wpAny_bind (wpAny_field he hd h1 ?_)
        rw [if_neg (show ¬ ((Value.ref T == Value.none) = true) from by simp)]
        have fin : wpAny (model X.prog X.w) X.A (setFlight (.ref a) X.env.frame) (fun _ s4 => wpAny (model X.prog X.w) X.A (throw (.ref a) : Sem Flow) (SP X pins D) X.xe s4) X.xe { s' with heap := h3 } := by
          rw [hf]
          refine HandSPX.setFlight_upZ fl3 fun h4 hh4 up4 => wpAny_throw (tk _ _ ?_)
          exact ⟨a, B, sI, pins, σ', H', cls, d, rfl, J, nb, (up.trans up3).trans up4, .inr (.inr (by rw [hs]; exact hh4)), na, os, ag, w⟩
        first
          | exact wpAny_bind (wpAny_pure (wpAny_bind fin))
          | exact wpAny_bind fin
      | @cons x c ts b₀ suite np pos' hds2 l2 hc hsu r ih =>
        intro w
        obtain ⟨b, hb1, hyes, hno⟩ := w
        refine wpAny_handleBy_cons (codeAny_handlers_test ?_) (by intro q; cases q)
        have LT : PySem.W.Looks (model X.prog X.w) h3 (typeOf (.ref a)) cls := fun A Q E s k q => wpAny_typeOf_ref (k _ _ he3) (by rw [hz3.1]; exact q)
        have LM := PySem.W.exm_one (M := model X.prog X.w) (J3.kIn) LT hb1
        have test : ∀ {Q : Value → Shared → Prop} {E : Value → Shared → Prop}, Q c { s' with heap := h3 } → wpAny (model X.prog X.w) (X.A.mark (some (.ref a))) (eval (.Name x np) X.env) Q E { s' with heap := h3 } := fun {Q E} q => by
          obtain ⟨hg, hdbg, hm | ⟨hm, hv, hnn⟩⟩ := hc
          · exact ld_glob (X := X.suite a ((a, oe3) :: (X.pn ++ pins))) S3 hg hm q hdbg
          · exact ld_blt (X := X.suite a ((a, oe3) :: (X.pn ++ pins))) S3 hg hm hv q hnn hdbg
        refine test (LM.here ?_)
        cases b with
        | true =>
          refine codeAny_handlers_suite_as ?_
          refine HandSPX.lands_againZ fl3 fun h4 fl4 up4 => ?_
          have J4 : Inv X pins σ' H' { s' with heap := h4 } := J.landed nb fl4.1 ((up.trans up3).trans up4) os ag
          obtain ⟨oe4, vs4, he4, hz4, hd4⟩ := fl4.there
          have S4 := J4.suite he4 hd4 na nL nF
          refine store_ok (X := X.suite a ((a, oe4) :: (X.pn ++ pins))) (v := .ref a) S4 hN hi hloc rfl (fun s5 S5 => ?_) (.inr hln)
          refine wpAny_mono ((hsu a oe4 cls d (X.pn ++ pins) hz4 ⟨_, hd4⟩).run [] s5 _ H' _ S5 (hyes rfl a na)) (fun f s6 hsp => ?_) (fun _ _ z => False.elim z)
          have end_ : ∀ {σ6 : St} {H6 : Hp} {Q : Shared → Prop}, Inv (X.suite a ((a, oe4) :: (X.pn ++ pins))) [] σ6 H6 s6 → (∀ s7, Inv X pins (σ6.set i none) H6 s7 → Q s7) →
              wpAny (model X.prog X.w) X.A (do bindName X.env n .none; unbindBehindTheSuite X.env n pos') (fun _ s7 => Q s7) X.xe s6 := fun {σ6 H6 Q} S6 hq => gone_ok (S6.unsuite ok) hN hi hln hq
          cases f with
          | next =>
            obtain ⟨σ6, H6, S6, q6⟩ := hsp
            exact end_ S6 fun s7 J7 => ⟨_, _, J7, q6⟩
          | brk =>
            obtain ⟨σ6, H6, S6, q6⟩ := hsp
            exact end_ S6 fun s7 J7 => ⟨_, _, J7, q6⟩
          | cont =>
            obtain ⟨σ6, H6, S6, q6⟩ := hsp
            exact end_ S6 fun s7 J7 => ⟨_, _, J7, q6⟩
          | ret u =>
            obtain ⟨v6, σ6, H6, S6, r6, q6⟩ := hsp
            exact end_ S6 fun s7 J7 => ⟨_, _, _, J7, r6, q6⟩
        | false =>
          show wpAny _ X.A (handleBy (.ref a) X.env hds2) _ _ _
          exact ih (hno rfl)
    exact go hh w
  · cases f with
    | next =>
      obtain ⟨σ', H', J', q⟩ := hsp
      exact wpAny_execs_nil ⟨σ', H', J'.ofTry ok, q⟩
    | brk =>
      obtain ⟨σ', H', J', q⟩ := hsp
      exact ⟨σ', H', J'.ofTry ok, q⟩
    | cont =>
      obtain ⟨σ', H', J', q⟩ := hsp
      exact ⟨σ', H', J'.ofTry ok, q⟩
    | ret u =>
      obtain ⟨v, σ', H', J', r, q⟩ := hsp
      exact ⟨v, σ', H', J'.ofTry ok, r, q⟩
end
end L2
set_option Elab.async false
set_option linter.all false
set_option maxRecDepth 100000
set_option maxHeartbeats 2000000
namespace K5
open PySem PySem.Spec PyProof.Rows L2
/-! a list or a tuple (k tells which), by one word -/
def sq (k : Bool) (xs : List V) : HO := if k = true then .tup xs else .lst xs
theorem sq_T (xs : List V) : sq true xs = .tup xs := rfl
theorem sq_F (xs : List V) : sq false xs = .lst xs := rfl
def SqK (K : PySem.W.Frag) (k : Bool) (H : Hp) (a : Addr) (xs : List V) : Prop := if k = true then SqT K H a xs else SqL K H a xs
theorem sqK {K : PySem.W.Frag} {k : Bool} {H : Hp} {a : Addr} {xs : List V} (h : H a = some (sq k xs)) : SqL K H a xs ∨ SqT K H a xs := by
  cases k
  · exact .inl (.inl (.inl h))
  · exact .inr (.inl (.inl h))
theorem sqT {K : PySem.W.Frag} {H : Hp} {a : Addr} {xs : List V} (h : H a = some (.tup xs)) : SqT K H a xs := .inl (.inl h)
theorem sqL {K : PySem.W.Frag} {H : Hp} {a : Addr} {xs : List V} (h : H a = some (.lst xs)) : SqL K H a xs := .inl (.inl h)
theorem sq_inj {k : Bool} {xs ys : List V} (h : sq k xs = sq k ys) : xs = ys := by
  cases k
  · exact HO.lst.inj h
  · exact HO.tup.inj h
theorem sq_len {X : Cx} {pins : List (Addr × Obj)} {σ : L2.St} {H : Hp} {s : Shared} {k : Bool} {a : Addr} {xs : List V} (I : Inv X pins σ H s) (h : H a = some (sq k xs)) : xs.length ≤ sizeLine := by
  cases k
  · obtain ⟨_, _, _, _, z⟩ := I.lst h
    exact z
  · have x : ObjOk X.prog X.w H s.heap a (.tup xs) := I.hok a _ h
    exact x.1
/-! heaps -/
/-- all but what lies at B stands as it was -/
def SB (B : Addr → Prop) (H H' : Hp) : Prop := ∀ a x, ¬ B a → H a = some x → H' a = some x
theorem SB.refl (B : Addr → Prop) (H : Hp) : SB B H H := fun _ _ _ e => e
theorem SB.trans {B : Addr → Prop} {H H1 H2 : Hp} (a : SB B H H1) (b : SB B H1 H2) : SB B H H2 := fun c x n e => b c x n (a c x n e)
theorem SB.of {B : Addr → Prop} {H H' : Hp} (h : Same H H') : SB B H H' := fun a x _ e => h a x e
theorem _root_.L2.Same.new {H : Hp} {p : Addr} {o : HO} (h : H p = none) : Same H (upd H p o) := fun b x e => by
  rw [upd_ne (ne_of_none e h)]
  exact e
def rm (H : Hp) (a : Addr) : Hp := fun b => if b = a then none else H b
theorem rm_same {H : Hp} {a : Addr} : rm H a a = none := if_pos rfl
theorem rm_ne {H : Hp} {a b : Addr} (h : b ≠ a) : rm H a b = H b := if_neg h
theorem rm_upd {H : Hp} {a : Addr} {o : HO} : rm (upd H a o) a = rm H a := by
  funext b
  by_cases e : b = a
  · rw [e, rm_same, rm_same]
  · rw [rm_ne e, rm_ne e, upd_ne e]
theorem rm_get {H : Hp} {a b : Addr} {o u : HO} (h : H b = some o) (ha : H a = some u) (d : o ≠ u) : rm H a b = some o := by
  rw [rm_ne (ne_of h ha d)]
  exact h
theorem rm_le {H : Hp} {a : Addr} : Same (rm H a) H := fun b o e => by
  by_cases z : b = a
  · rw [z, rm_same] at e
    cases e
  · rw [rm_ne z] at e
    exact e
theorem SB.rm {B : Addr → Prop} {H H' : Hp} {D : Addr} (h : SB B H H') : SB B (rm H D) (rm H' D) := fun a x n e => by
  by_cases z : a = D
  · rw [z, rm_same] at e
    cases e
  · rw [rm_ne z] at e ⊢
    exact h a x n e
theorem SB.get {B : Addr → Prop} {H H' : Hp} {a : Addr} {x : HO} (h : SB B H H') (n : ¬ B a) (e : H a = some x) : H' a = some x := h a x n e
theorem _root_.L2.Same.get {H H' : Hp} {a : Addr} {x : HO} (h : Same H H') (e : H a = some x) : H' a = some x := h a x e

/-! walks -/
def ItK (k : Bool) (K : PySem.W.Frag) (a : Addr) : It := if k = true then Itt K a else Itl K a
theorem walk_sq {K : PySem.W.Frag} {k : Bool} {a : Addr} {xs : List V} : Walk (ItK k K a) xs.length (fun H => H a = some (sq k xs)) (YAt xs) := by
  cases k
  · exact walk_list.mono (fun H h => sqL h) fun i H x H' _ _ y => y
  · exact walk_tup.mono (fun H h => sqT h) fun i H x H' _ _ y => y
def iSq (K : PySem.W.Frag) (te : TE) : TI := fun σ H R => te σ H fun x H1 => ∃ a k xs, x = .ref a ∧ H1 a = some (sq k xs) ∧ R (ItK k K a) H1
theorem pi_sq {X : Cx} {tg e : Expr} {te : TE} (he : PE X e te) : PI X tg e (iSq X.K te) := by
  refine ⟨fun pins s σ H R I h => ?_⟩
  refine thn (he.run pins s σ H _ I h) fun v s1 ⟨x, H1, I1, r1, a, k, xs, e, hq, q⟩ => ?_
  subst e
  cases r1
  cases k
  · obtain ⟨its, rv, p, hz⟩ := I1.list (K5.sqL hq)
    refine wpAny_pyIter_list p.isList ?_
    refine ⟨s1.heap.objs.size, [s1.heap.objs.size], _, _, H1, rfl, I1.kept (t' := s1.toks) fun b o e => Heap.get?_push_of_some _ e, turn_list a _, ⟨_, Heap.get?_push_size _ rfl, rfl, rfl⟩, fun b hb => ?_, q⟩
    have e : b = s1.heap.objs.size := by simpa using hb
    subst e
    exact I1.fpOk (Nat.le_refl _) (I1.hok.fresh (Nat.le_refl _))
  · obtain ⟨its, rv, p, hz⟩ := I1.tuple (K5.sqT hq)
    refine wpAny_pyIter_tuple (show s1.heap.IsTuple a its.toArray from p) ?_
    refine ⟨s1.heap.objs.size, [s1.heap.objs.size], _, _, H1, rfl, I1.kept (t' := s1.toks) fun b o e => Heap.get?_push_of_some _ e, turn_tuple a _, ⟨_, Heap.get?_push_size _ rfl, rfl, rfl⟩, fun b hb => ?_, q⟩
    have e : b = s1.heap.objs.size := by simpa using hb
    subst e
    exact I1.fpOk (Nat.le_refl _) (I1.hok.fresh (Nat.le_refl _))
def ItZ (k : Bool) (K : PySem.W.Frag) (a b : Addr) : It := if k = true then RZ.ItzT K a b else Itz K a b
theorem walk_sqz {K : PySem.W.Frag} {k : Bool} {a b : Addr} {xs ys : List V} {n : Nat} (hn : n = min xs.length ys.length) : Walk (ItZ k K a b) n (fun H => H a = some (sq k xs) ∧ H b = some (sq k ys)) (YPair (fun i => xs[i]?) (fun i => ys[i]?)) := by
  cases k
  · exact (walk_zip hn).mono (fun H h => ⟨sqL h.1, sqL h.2⟩) fun i H x H' _ _ y => y
  · subst hn
    refine ⟨fun i H hi q => ?_, fun H q => ⟨xs, ys, sqT q.1, sqT q.2, by omega⟩, fun i H v H' _ q y => ?_⟩
    · have h1 : i < xs.length := by omega
      have h2 : i < ys.length := by omega
      exact ⟨xs, ys, xs[i], ys[i], sqT q.1, sqT q.2, by simp [h1], by simp [h2]⟩
    · obtain ⟨T, x, z, h1, h2, h3, h4, h5⟩ := y
      exact ⟨T, x, z, h1, h2, h3, h4 xs (sqT q.1), h5 ys (sqT q.2)⟩
def iZq (K : PySem.W.Frag) (ta : TA) : TI := fun σ H R => ta σ H fun vs H1 => ∃ a b k xs ys, vs = [.ref a, .ref b] ∧ H1 a = some (sq k xs) ∧ H1 b = some (sq k ys) ∧ R (ItZ k K a b) H1
theorem pi_zq {X : Cx} {e e2 : Expr} {ta : TA} {p pos tpos : Pos} {elts : List Expr} {kk : Nat} (hg : Gl X "zip") (hm : X.mg "zip" = none) (ha : PA X [e, e2] ta)
    (hs : starEach [e, e2] X.env = (false, eval e X.env) :: starEach [e2] X.env := by rfl) (hpl : (backTo pos (starEach [e2] X.env)).any (·.1) = false := by rfl) :
    PI X (.Tuple elts kk tpos) (.Call (.Name "zip" p) [e, e2] [] pos) (iZq X.K ta) := by
  have ha' : PA X [e, e2] (fun σ H Q => ta σ H fun vs H1 => (∃ a b k xs ys, vs = [.ref a, .ref b] ∧ H1 a = some (sq k xs) ∧ H1 b = some (sq k ys)) ∧ Q vs H1) :=
    ⟨fun pos pins s σ H Q I h => thn (ha.run pos pins s σ H _ I h) fun us s1 ⟨vs, H1, I1, r, _, q⟩ => ⟨vs, H1, I1, r, q⟩⟩
  refine ⟨fun pins s σ H R I h => ?_⟩
  have ha2 : PA X [e, e2] (fun σ' H' Q => σ' = σ ∧ H' = H ∧ ∃ Z, ta σ H Z ∧ ∀ vs H1, Z vs H1 → Q vs H1) := ⟨fun pos pins s' σ' H' Q I' ⟨e1, e2, Z, h1, h2⟩ => by
    subst e1 e2
    exact thn (ha.run pos pins s' _ _ _ I' h1) fun us s1 ⟨vs, H1, I1, r, q⟩ => ⟨vs, H1, I1, r, h2 _ _ q⟩⟩
  refine (RZ.pi_zipA hg hm ha2 hs hpl).run pins s σ H R I ⟨rfl, rfl, _, h, fun vs H1 z => ?_⟩
  obtain ⟨a, b, k, xs, ys, ev, h1, h2, q⟩ := z
  cases k
  · exact ⟨a, b, xs, ys, ev, .inl ⟨sqL h1, sqL h2, q⟩⟩
  · exact ⟨a, b, xs, ys, ev, .inr ⟨sqT h1, sqT h2, q⟩⟩

/-! a list comprehension; B: what may change, R: what stays true of the heap, Acc: the list so far (told without itself) -/
theorem lc_acc {J : It} {n : Nat} {G : Hp → Prop} {Y : Nat → Hp → V → Hp → Prop} (w : Walk J n G Y) {g : TG} {tt : TT} {te : TE} {vs : List Nat} {σ : L2.St} {H1 : Hp} {D : Addr} {Qd : Hp → Prop}
    (B : Addr → Prop) (R : Hp → Prop) (Acc : Nat → List V → Hp → Prop) (hz : n ≤ 1000) (hD : H1 D = none) (nB : ¬ B D) (hR0 : R H1) (hRD : ∀ H x, R H → SB B H1 H → R (upd H D x)) (h0 : Acc 0 [] (rm H1 D))
    (hG : ∀ H, SB B H1 H → R H → G H)
    (hs : ∀ i x H H' acc (Nk : V → Hp → Prop) (Ns : Hp → Prop), i < n → SB B H1 H → R H → H D = some (.lst acc) → acc.length ≤ i → Acc i acc (rm H D) → Y i H x H' →
      (∀ y H4, SB B H H4 → R H4 → Acc (i + 1) (acc ++ [y]) (rm H4 D) → Nk y H4) → (∀ H4, SB B H H4 → R H4 → Acc (i + 1) acc (rm H4 D) → Ns H4) →
      g x (wipe σ vs) H' fun σ2 H2 => wipe σ2 vs = wipe σ vs ∧ tt σ2 H2 fun b H3 => if b = true then te σ2 H3 Nk else Ns H3)
    (hd : ∀ H acc, SB B H1 H → R H → H D = some (.lst acc) → acc.length ≤ n → Acc n acc (rm H D) → Qd H) :
    ∃ W : Nat → Nat → Hp → Prop, (∃ m, W 0 m (upd H1 D (.lst []))) ∧ ∀ i m H, W i m H →
      (J.stop i H ∧ Qd H) ∨ (J.go i H ∧ ∃ Nx : Hp → Prop, (∀ H', Nx H' → ∃ m', m' < m ∧ W (i + 1) m' H') ∧ ∀ x H', J.yld i H x H' → g x (wipe σ vs) H' fun σ2 H2 => wipe σ2 vs = wipe σ vs ∧ tt σ2 H2 fun b H3 =>
        if b = true then te σ2 H3 fun y H4 => ∃ acc, H4 D = some (.lst acc) ∧ acc.length < sizeLine ∧ Nx (upd H4 D (.lst (acc ++ [y]))) else Nx H3) := by
  refine lc_it w (fun i H => SB B H1 H ∧ R H ∧ ∃ acc, H D = some (.lst acc) ∧ acc.length ≤ i ∧ Acc i acc (rm H D)) ⟨SB.of (Same.new hD), hRD _ _ hR0 (SB.refl B H1), [], upd_same, Nat.le_refl _, by rw [rm_upd]; exact h0⟩ (fun i H _ p => hG H p.1 p.2.1) ?_ ?_
  · rintro i x H H' hi ⟨s, r, acc, e, l, a⟩ y
    refine hs i x H H' acc _ _ hi s r e l a y (fun y2 H4 s4 r4 a4 => ?_) (fun H4 s4 r4 a4 => ?_)
    · have eD : H4 D = some (.lst acc) := s4 D _ nB e
      refine ⟨acc, eD, small1000 (by omega), fun b z nb e4 => ?_, hRD _ _ r4 (s.trans s4), acc ++ [y2], upd_same, by rw [List.length_append]; exact Nat.succ_le_succ l, by rw [rm_upd]; exact a4⟩
      rw [upd_ne (ne_of_none e4 hD)]
      exact s4 b z nb (s b z nb e4)
    · exact ⟨s.trans s4, r4, acc, s4 D _ nB e, Nat.le_succ_of_le l, a4⟩
  · rintro H ⟨s, r, acc, e, l, a⟩
    exact hd H acc s r e l a

/-! unpacking, slices, tuple(x) of a list or a tuple -/
def gSq (n : Nat) (t : TGs) : TG := fun v σ H Q => ∃ a k xs, v = .ref a ∧ H a = some (sq k xs) ∧ xs.length = n ∧ t xs σ H Q
theorem pg_sq {X : Cx} {pos : Pos} {es : List Expr} {k : Nat} {t : TGs} {n : Nat} (hc : X.calm = true) (h : PGs X es t)
    (hn : (assignEach es X.env).length = n := by rfl) (hst : (assignEach es X.env).findIdx? (·.1) = none := by rfl) : PG X (.Tuple es k pos) (gSq n t) := by
  refine ⟨fun pins s σ H v u Q I r hw => ?_⟩
  obtain ⟨a, k, xs, e1, hq, hl, hw⟩ := hw
  cases k
  · exact (pg_unl hc h hn hst).run pins s σ H v u Q I r ⟨a, xs, e1, sqL hq, hl, hw⟩
  · exact (pg_tup hc h hn hst).run pins s σ H v u Q I r ⟨a, xs, e1, sqT hq, hl, hw⟩
/-- x[lo:hi]: the kind stays -/
def rSlK : V → Option Int → Option Int → Hp → VK → Prop := fun x lo hi H Q => ∃ a k xs, x = .ref a ∧ H a = some (sq k xs) ∧ ∀ p H', Same H H' → H' p = some (sq k (cutV xs lo hi)) → Q (.ref p) H'
theorem sl_sq {X : Cx} : SlR X rSlK := by
  intro pins s σ H x v vl vu lo hi sl Q I rx hs pl pu h
  obtain ⟨a, k, xs, rfl, hx, q⟩ := h
  cases k
  · exact sl_list pins s σ H _ v vl vu lo hi sl Q I rx hs pl pu ⟨a, xs, rfl, sqL hx, fun p hp => q p _ (Same.new hp) upd_same⟩
  · refine sl_tupA pins s σ H _ v vl vu lo hi sl Q I rx hs pl pu ⟨a, xs, rfl, sqT hx, fun hw => q a H (Same.refl H) ?_, fun _ p hp => q p _ (Same.new hp) upd_same⟩
    have e : cutV xs lo hi = xs := by
      unfold cutV
      rw [hw.1, hw.2, List.drop_zero, Nat.sub_zero, List.take_length]
    rw [e]
    exact hx
def rTupOf : List V → Hp → VK → Prop := fun xs H Q => ∃ a k ys, xs = [.ref a] ∧ H a = some (sq k ys) ∧ ∀ p H', Same H H' → H' p = some (.tup ys) → Q (.ref p) H'
theorem call_tupOf {X : Cx} : CallR X (.type "tuple") rTupOf := by
  intro pins s σ H xs us Q I r h
  obtain ⟨a, k, ys, rfl, hx, q⟩ := h
  cases k
  · exact call_tuple_of pins s σ H _ us Q I r ⟨a, ys, rfl, .inl ⟨sqL hx, fun l hl => q l _ (Same.new hl) upd_same⟩⟩
  · exact call_tuple_of pins s σ H _ us Q I r ⟨a, ys, rfl, .inr ⟨sqT hx, q a H (Same.refl H) hx⟩⟩
def rListOf : List V → Hp → VK → Prop := fun xs H Q => ∃ a k ys, xs = [.ref a] ∧ H a = some (sq k ys) ∧ ∀ p, H p = none → Q (.ref p) (upd H p (.lst ys))
theorem call_listOf {X : Cx} : CallR X (.type "list") rListOf := by
  intro pins s σ H xs us Q I r h
  obtain ⟨a, k, ys, rfl, hx, q⟩ := h
  exact call_list_of pins s σ H _ us Q I r ⟨a, ys, rfl, sqK hx, q⟩
def rLenOf : List V → Hp → VK → Prop := fun xs H Q => ∃ a k ys, xs = [.ref a] ∧ H a = some (sq k ys) ∧ Q (.int ys.length) H
theorem call_lenOf {X : Cx} : CallR X (.builtin "len") rLenOf := by
  intro pins s σ H xs us Q I r h
  obtain ⟨a, k, ys, rfl, hx, q⟩ := h
  exact call_len_seq pins s σ H _ us Q I r ⟨a, ys, rfl, sqK hx, q⟩
/-- x[i] -/
def rIxK : R2 := fun x y H Q => ∃ a k xs i v, x = .ref a ∧ y = .int i ∧ H a = some (sq k xs) ∧ atI xs i = some v ∧ Q v H
theorem ix_sq {X : Cx} : IxR X rIxK := by
  intro value slice pins s σ H x y v u Q I rx ry h hs
  obtain ⟨a, k, xs, i, z, rfl, rfl, hx, e, q⟩ := h
  cases k
  · exact ix_list value slice pins s σ H _ _ v u Q I rx ry ⟨a, xs, i, z, rfl, rfl, sqL hx, e, q⟩ hs
  · exact ix_tup value slice pins s σ H _ _ v u Q I rx ry ⟨a, xs, i, z, rfl, rfl, sqT hx, e, q⟩ hs
/-- t + u, tuples -/
def rCatK : R2 := fun x y H Q => ∃ a b xs ys, x = .ref a ∧ y = .ref b ∧ H a = some (.tup xs) ∧ H b = some (.tup ys) ∧ xs.length + ys.length ≤ sizeLine ∧ ∀ p H', Same H H' → H' p = some (.tup (xs ++ ys)) → Q (.ref p) H'
theorem op_catK {X : Cx} : OpR X (binaryOp .Add) rCatK := by
  intro pins s σ H x y v u Q I rx ry h
  obtain ⟨a, b, xs, ys, rfl, rfl, ha, hb, hz, q⟩ := h
  refine op_catA pins s σ H _ _ v u Q I rx ry ⟨a, b, xs, ys, rfl, rfl, sqT ha, sqT hb, hz, fun e => ?_, fun _ e => ?_, fun _ _ p hp => q p _ (Same.new hp) upd_same⟩
  · subst e
    exact q b H (Same.refl H) hb
  · subst e
    exact q a H (Same.refl H) (by rw [List.append_nil]; exact ha)
/-- all(list of bools) -/
def rAllK : List V → Hp → VK → Prop := fun vs H Q => ∃ (a : Addr) (bs : List Bool), vs = [V.ref a] ∧ H a = some (.lst (bs.map V.bl)) ∧ Q (.bl (bs.all id)) H
theorem call_allK {X : Cx} (hc : X.calm = true) : CallR X (.builtin "all") rAllK := by
  intro pins s σ H vs us Q I r h
  obtain ⟨a, bs, ev, hx, q⟩ := h
  exact cr_all hc pins s σ H vs us Q I r ⟨a, bs, ev, sqL hx, q⟩
end K5
namespace K5
open PySem PySem.Spec PyProof.Rows L2
abbrev B0 : Addr → Prop := fun _ => False
theorem SB.same {H H' : Hp} (h : SB B0 H H') : Same H H' := fun a x e => h a x (fun z => z) e
theorem yes_eq {te : TE} {Nk : V → Hp → Prop} {Ns : Hp → Prop} {w0 : L2.St} {vs : List Nat} : (fun (σ2 : L2.St) H2 => wipe σ2 vs = w0 ∧ tYes σ2 H2 fun b H3 => if b = true then te σ2 H3 Nk else Ns H3) = fun σ2 H2 => wipe σ2 vs = w0 ∧ te σ2 H2 Nk := by
  funext σ2 H2
  show (_ ∧ (if true = true then te σ2 H2 Nk else Ns H2)) = _
  rw [if_pos rfl]
/-- a comprehension without a test, over what stands still -/
theorem lc_map {J : It} {n : Nat} {G : Hp → Prop} {Y : Nat → Hp → V → Hp → Prop} (w : Walk J n G Y) {g : TG} {te : TE} {vs : List Nat} {σ : L2.St} {H1 : Hp} {D : Addr} {Qd : Hp → Prop}
    (P : Nat → V → Hp → Prop) (hP : ∀ i v H H', Same H H' → P i v H → P i v H') (hz : n ≤ 1000) (hD : H1 D = none) (hG : ∀ H, Same H1 H → G H)
    (hs : ∀ i x H H' (N : V → Hp → Prop), i < n → Same H1 H → (∃ acc, H D = some (.lst acc)) → Y i H x H' → (∀ y H4, Same H H4 → P i y (rm H4 D) → N y H4) → g x (wipe σ vs) H' fun σ2 H2 => wipe σ2 vs = wipe σ vs ∧ te σ2 H2 N)
    (hd : ∀ H ys, Same H1 H → H D = some (.lst ys) → ys.length = n → (∀ (i : Nat) y, ys[i]? = some y → P i y (rm H D)) → Qd H) :
    ∃ W : Nat → Nat → Hp → Prop, (∃ m, W 0 m (upd H1 D (.lst []))) ∧ ∀ i m H, W i m H →
      (J.stop i H ∧ Qd H) ∨ (J.go i H ∧ ∃ Nx : Hp → Prop, (∀ H', Nx H' → ∃ m', m' < m ∧ W (i + 1) m' H') ∧ ∀ x H', J.yld i H x H' → g x (wipe σ vs) H' fun σ2 H2 => wipe σ2 vs = wipe σ vs ∧ tYes σ2 H2 fun b H3 =>
        if b = true then te σ2 H3 fun y H4 => ∃ acc, H4 D = some (.lst acc) ∧ acc.length < sizeLine ∧ Nx (upd H4 D (.lst (acc ++ [y]))) else Nx H3) := by
  refine lc_acc w B0 (fun _ => True) (fun i acc H => acc.length = i ∧ ∀ (j : Nat) y, acc[j]? = some y → P j y H) hz hD (fun z => z) True.intro (fun _ _ _ _ => True.intro) ⟨rfl, fun j y e => by simp at e⟩ (fun H s _ => hG H s.same) ?_ ?_
  · rintro i x H H' acc Nk Ns hi s _ e l ⟨a1, a2⟩ y fin _
    rw [yes_eq]
    refine hs i x H H' Nk hi s.same ⟨acc, e⟩ y fun v H4 s4 p4 => fin v H4 (SB.of s4) True.intro ⟨by rw [List.length_append, a1]; rfl, fun j z ez => ?_⟩
    by_cases hj : j < acc.length
    · rw [List.getElem?_append_left hj] at ez
      exact hP j z _ _ (SB.same (SB.rm (SB.of s4))) (a2 j z ez)
    · rw [List.getElem?_append_right (Nat.le_of_not_lt hj)] at ez
      have : j - acc.length = 0 := by
        cases hh : j - acc.length with
        | zero => rfl
        | succ m => rw [hh] at ez; simp at ez
      rw [this] at ez
      have ej : j = i := by omega
      rw [ej]
      have ev : v = z := by simpa using ez
      rw [← ev]
      exact p4
  · rintro H acc s _ e l ⟨a1, a2⟩
    exact hd H acc s.same e a1 a2
/-- .. whose items are all True -/
theorem lc_true {J : It} {n : Nat} {G : Hp → Prop} {Y : Nat → Hp → V → Hp → Prop} (w : Walk J n G Y) {g : TG} {te : TE} {vs : List Nat} {σ : L2.St} {H1 : Hp} {D : Addr} {Qd : Hp → Prop}
    (hz : n ≤ 1000) (hD : H1 D = none) (hG : ∀ H, Same H1 H → G H)
    (hs : ∀ i x H H' (N : V → Hp → Prop), i < n → Same H1 H → Y i H x H' → (∀ H4, Same H H4 → N (.bl true) H4) → g x (wipe σ vs) H' fun σ2 H2 => wipe σ2 vs = wipe σ vs ∧ te σ2 H2 N)
    (hd : ∀ H (bs : List Bool), Same H1 H → H D = some (.lst (bs.map V.bl)) → bs.all id = true → Qd H) :
    ∃ W : Nat → Nat → Hp → Prop, (∃ m, W 0 m (upd H1 D (.lst []))) ∧ ∀ i m H, W i m H →
      (J.stop i H ∧ Qd H) ∨ (J.go i H ∧ ∃ Nx : Hp → Prop, (∀ H', Nx H' → ∃ m', m' < m ∧ W (i + 1) m' H') ∧ ∀ x H', J.yld i H x H' → g x (wipe σ vs) H' fun σ2 H2 => wipe σ2 vs = wipe σ vs ∧ tYes σ2 H2 fun b H3 =>
        if b = true then te σ2 H3 fun y H4 => ∃ acc, H4 D = some (.lst acc) ∧ acc.length < sizeLine ∧ Nx (upd H4 D (.lst (acc ++ [y]))) else Nx H3) := by
  refine lc_map w (fun _ v _ => v = .bl true) (fun _ _ _ _ _ e => e) hz hD hG (fun i x H H' N hi s _ y fin => hs i x H H' N hi s y fun H4 s4 => fin _ H4 s4 rfl) fun H ys s e l a => ?_
  have ey : ys = (List.replicate n true).map V.bl := by
    refine List.ext_getElem? fun i => ?_
    by_cases hi : i < n
    · have h1 : ys[i]? = some ys[i] := List.getElem?_eq_getElem (by omega)
      rw [h1, a i _ h1, List.getElem?_map, List.getElem?_replicate, if_pos hi]
      rfl
    · rw [List.getElem?_eq_none (by omega), List.getElem?_eq_none (by simpa using hi)]
  exact hd H (List.replicate n true) s (by rw [← ey]; exact e) (by simp)
end K5
set_option Elab.async false
set_option linter.all false
set_option maxRecDepth 100000
set_option maxHeartbeats 2000000
namespace K5
open PySem PySem.Spec PyProof.Rows L2
def top (i : Nat) : Stmt := PySem.Challenge.pw_outsoonest_k05_whole_edits_of_houses.main.body.getD i (.Pass ⟨0, 0, 0, 0⟩)
/-- built-in names that the module leaves as they are -/
structure Bi (mg : Str → Option Value) : Prop where
  isinstance : mg "isinstance" = none
  int : mg "int" = none
  bool : mg "bool" = none
  list : mg "list" = none
  tuple : mg "tuple" = none
  all : mg "all" = none
  zip : mg "zip" = none
  len : mg "len" = none
  range : mg "range" = none
  abs : mg "abs" = none
  repr : mg "repr" = none
  set : mg "set" = none
  sorted : mg "sorted" = none
  KeyError : mg "KeyError" = none
/-- a def of the module's top as it stands -/
structure Df (K : PySem.W.Frag) (mg : Str → Option Value) (x : Str) (st : Stmt) (f : Addr) (fd : FuncData) : Prop where
  fn : Fun K x x st f fd
  gl : mg x = some (.ref f)
/-- the defs of the top, its constants -/
structure Tx (P : Program) (K : PySem.W.Frag) (mg : Str → Option Value) : Prop where
  bi : Bi mg
  d8 : ∃ f fd, Df K mg "is_integer" (top 8) f fd
  d9 : ∃ f fd, Df K mg "is_number" (top 9) f fd
  d10 : ∃ f fd, Df K mg "is_below" (top 10) f fd
  d11 : ∃ f fd, Df K mg "is_sequence" (top 11) f fd
  d12 : ∃ f fd, Df K mg "is_ascending" (top 12) f fd
  d13 : ∃ f fd, Df K mg "is_lot" (top 13) f fd
  c15 : ∃ t, mg "MOST_BEAT" = some (.int 60 t)
  c16 : ∃ t, mg "MOST_ROOMS" = some (.int 20 t)
  c17 : ∃ t, mg "MOST_PASSAGES" = some (.int 60 t)
  c18 : ∃ t, mg "MOST_LENGTH" = some (.int 9 t)
  c19 : ∃ t, mg "MOST_WIDTH" = some (.int 9 t)
  c20 : ∃ t, mg "INSIDE" = some (.int 0 t)
  c21 : ∃ t, mg "WAY_OUT" = some (.int 1 t)
  d22 : ∃ f fd, Df K mg "are_rooms" (top 22) f fd
  d23 : ∃ f fd, Df K mg "is_passage" (top 23) f fd
  d24 : ∃ f fd, Df K mg "are_passages" (top 24) f fd
  d25 : ∃ f fd, Df K mg "is_smoke" (top 25) f fd
  d26 : ∃ f fd, Df K mg "check_house" (top 26) f fd
  d27 : ∃ f fd, Df K mg "need_room" (top 27) f fd
  d28 : ∃ f fd, Df K mg "need_inside" (top 28) f fd
  d29 : ∃ f fd, Df K mg "need_passage" (top 29) f fd
  d30 : ∃ f fd, Df K mg "need_beat" (top 30) f fd
  d31 : ∃ f fd, Df K mg "with_smoke" (top 31) f fd
  d32 : ∃ f fd, Df K mg "cleared" (top 32) f fd
  d33 : ∃ f fd, Df K mg "with_passage" (top 33) f fd
  d34 : ∃ f fd, Df K mg "with_width" (top 34) f fd
  d35 : ∃ f fd, Df K mg "with_shut" (top 35) f fd
  d36 : ∃ f fd, Df K mg "with_open" (top 36) f fd
  d38 : ∃ f fd, Df K mg "_law_box" (top 38) f fd
  d39 : ∃ f fd, Df K mg "_law_take" (top 39) f fd
  d40 : ∃ f fd, Df K mg "_law_pick" (top 40) f fd
  d42 : ∃ f fd, Df K mg "_law_house" (top 42) f fd
  d43 : ∃ f fd, Df K mg "_law_handed" (top 43) f fd
  d44 : ∃ f fd, Df K mg "_law_heard" (top 44) f fd
  d45 : ∃ f fd, Df K mg "_law_done" (top 45) f fd
  d46 : ∃ f fd, Df K mg "_law_edit" (top 46) f fd
  d47 : ∃ f fd, Df K mg "_law_none_right" (top 47) f fd
/-- a def that keeps its promise, and how it is called -/
def Ok (P : Program) (w : World) (K : PySem.W.Frag) (mg : Str → Option Value) (base : Heap) (CX : CXT) (x : Str) (st : Stmt) (k : Nat) (ps : List Str) (sp : Sp) : Prop :=
  ∃ f fd, Df K mg x st f fd ∧ Binds K fd ps [] ∧ FnOk P w K mg base CX k f fd ps sp
/-- values that are no object -/
inductive Sc : V → Prop
  | non : Sc .non
  | bl (b : Bool) : Sc (.bl b)
  | int (i : Int) : Sc (.int i)
  | str (x : Str) : Sc (.str x)
def intQ : V → Bool
  | .int _ => true
  | _ => false
def numQ : V → Bool
  | .int i => decide (0 ≤ i)
  | _ => false
def belQ (m : Int) : V → Bool
  | .int i => decide (0 ≤ i) && decide (i < m)
  | _ => false
abbrev sInt : Stmt := top 8
abbrev sNum : Stmt := top 9
abbrev sBel : Stmt := top 10
abbrev sSeq : Stmt := top 11
abbrev sAsc : Stmt := top 12
abbrev sLot : Stmt := top 13
theorem scInt : FnScope ["value"] ["value"] (defScope sInt) := ⟨rfl, rfl, rfl, by decide +kernel, rfl, by decide +kernel, by decide +kernel⟩
theorem scNum : FnScope ["value"] ["value"] (defScope sNum) := ⟨rfl, rfl, rfl, by decide +kernel, rfl, by decide +kernel, by decide +kernel⟩
theorem scBel : FnScope ["value", "most"] ["value", "most"] (defScope sBel) := ⟨rfl, rfl, rfl, by decide +kernel, rfl, by decide +kernel, by decide +kernel⟩
theorem scSeq : FnScope ["value"] ["value"] (defScope sSeq) := ⟨rfl, rfl, rfl, by decide +kernel, rfl, by decide +kernel, by decide +kernel⟩
theorem scAsc : FnScope ["value", "one", "other"] ["value"] (defScope sAsc) := ⟨rfl, rfl, rfl, by decide +kernel, rfl, by decide +kernel, by decide +kernel⟩
theorem scLot : FnScope ["value", "most", "one"] ["value", "most"] (defScope sLot) := ⟨rfl, rfl, rfl, by decide +kernel, rfl, by decide +kernel, by decide +kernel⟩
section
variable {P : Program} {w : World} {K : PySem.W.Frag} {mg : Str → Option Value} {base : Heap}
def spInt : Sp := fun vs H Q _ => ∃ v, vs = [v] ∧ Sc v ∧ Q (.bl (intQ v)) H
theorem ok_int (T : Tx P K mg) : Ok P w K mg base CX0 "is_integer" sInt 1 ["value"] spInt := by
  obtain ⟨f, fd, D⟩ := T.d8
  refine ⟨f, fd, D, D.fn.binds (fun _ _ _ _ _ _ us hl => match us, hl with | [_], _ => rfl), D.fn.ok scInt (fun vs H Q E h => ?_) (fun cdv A outer s H vs Q E hr h => ?_)⟩
  · obtain ⟨v, rfl, _⟩ := h
    rfl
  · obtain ⟨v, rfl, sc, q⟩ := h
    refine ⟨_, pss_one (ps_ret (pe_and (pe_callB call_isi (by rfl) T.bi.isinstance (by decide +kernel) (pa_cons (pv 0) (pa_cons (pe_bltn (v := .ty "int") (by rfl) T.bi.int (by decide +kernel) rfl) pa_nil)))
      (pe_one (pe_not (pe_callB call_isi (by rfl) T.bi.isinstance (by decide +kernel) (pa_cons (pv 0) (pa_cons (pe_bltn (v := .ty "bool") (by rfl) T.bi.bool (by decide +kernel) rfl) pa_nil))))))), ?_⟩
    cases sc with
    | non => exact ⟨_, rfl, .non, .ty "int", _, _, false, rfl, .ty _, .base .non, kit_ty (by decide +kernel), false, rfl, iteF q⟩
    | str x => exact ⟨_, rfl, .str x, .ty "int", _, _, false, rfl, .ty _, .base (.str x), kit_ty (by decide +kernel), false, rfl, iteF q⟩
    | bl b => exact ⟨_, rfl, .bl b, .ty "int", _, _, true, rfl, .ty _, .base (.bl b), kit_ty (by decide +kernel), true, rfl, iteT ⟨_, rfl, .bl b, .ty "bool", _, _, true, rfl, .ty _, .base (.bl b), kit_ty (by decide +kernel), true, rfl, q⟩⟩
    | int i => exact ⟨_, rfl, .int i, .ty "int", _, _, true, rfl, .ty _, .base (.int i), kit_ty (by decide +kernel), true, rfl, iteT ⟨_, rfl, .int i, .ty "bool", _, _, false, rfl, .ty _, .base (.int i), kit_ty (by decide +kernel), false, rfl, q⟩⟩
def spNum : Sp := fun vs H Q _ => ∃ v, vs = [v] ∧ Sc v ∧ Q (.bl (numQ v)) H
theorem ok_num (T : Tx P K mg) : Ok P w K mg base CX0 "is_number" sNum 2 ["value"] spNum := by
  obtain ⟨f, fd, D⟩ := T.d9
  obtain ⟨fI, fdI, DI, bI, GI⟩ := ok_int (P := P) (w := w) (base := base) T
  refine ⟨f, fd, D, D.fn.binds (fun _ _ _ _ _ _ us hl => match us, hl with | [_], _ => rfl), D.fn.ok scNum (fun vs H Q E h => ?_) (fun cdv A outer s H vs Q E hr h => ?_)⟩
  · obtain ⟨v, rfl, _⟩ := h
    rfl
  · obtain ⟨v, rfl, sc, q⟩ := h
    refine ⟨_, pss_one (ps_ret (pe_and (pe_call GI hr (by rfl) DI.gl DI.fn.kp bI .nil pass0 (pa_cons (pv 0) pa_nil)) (pe_one (pe_cmpR op_ge (pv 0) pe_int (nomark _))))), ?_⟩
    refine ⟨_, rfl, v, rfl, sc, _, rfl, ?_⟩
    cases v with
    | int i => exact iteT ⟨_, rfl, i, 0, rfl, rfl, q⟩
    | _ => exact iteF q
def spBel : Sp := fun vs H Q _ => ∃ v m, vs = [v, .int m] ∧ Sc v ∧ Q (.bl (belQ m v)) H
theorem ok_bel (T : Tx P K mg) : Ok P w K mg base CX0 "is_below" sBel 3 ["value", "most"] spBel := by
  obtain ⟨f, fd, D⟩ := T.d10
  obtain ⟨fI, fdI, DI, bI, GI⟩ := ok_num (P := P) (w := w) (base := base) T
  refine ⟨f, fd, D, D.fn.binds (fun _ _ _ _ _ _ us hl => match us, hl with | [_, _], _ => rfl), D.fn.ok scBel (fun vs H Q E h => ?_) (fun cdv A outer s H vs Q E hr h => ?_)⟩
  · obtain ⟨v, m, rfl, _⟩ := h
    rfl
  · obtain ⟨v, m, rfl, sc, q⟩ := h
    refine ⟨_, pss_one (ps_ret (pe_and (pe_call GI hr (by rfl) DI.gl DI.fn.kp bI .nil pass0 (pa_cons (pv 0) pa_nil)) (pe_one (pe_cmpR op_lt (pv 0) (pv 1) (nomark _))))), ?_⟩
    refine ⟨_, rfl, v, rfl, sc, _, rfl, ?_⟩
    cases v with
    | int i =>
      refine ite2 (fun e => ⟨_, rfl, _, rfl, i, m, rfl, rfl, ?_⟩) (fun e => ?_)
      · have e2 : belQ m (.int i) = decide (i < m) := by
          show (decide (0 ≤ i) && decide (i < m)) = _
          rw [show decide (0 ≤ i) = true from e, Bool.true_and]
        rw [e2] at q
        exact q
      · have e2 : belQ m (.int i) = false := by
          show (decide (0 ≤ i) && decide (i < m)) = _
          rw [show decide (0 ≤ i) = false from Bool.eq_false_iff.mpr e, Bool.false_and]
        rw [e2] at q
        exact q
    | _ => exact iteF q
def spSeq : Sp := fun vs H Q _ => ∃ a k xs, vs = [.ref a] ∧ H a = some (sq k xs) ∧ ∀ H', Same H H' → Q (.bl true) H'
theorem ok_seq (T : Tx P K mg) : Ok P w K mg base CX0 "is_sequence" sSeq 1 ["value"] spSeq := by
  obtain ⟨f, fd, D⟩ := T.d11
  refine ⟨f, fd, D, D.fn.binds (fun _ _ _ _ _ _ us hl => match us, hl with | [_], _ => rfl), D.fn.ok scSeq (fun vs H Q E h => ?_) (fun cdv A outer s H vs Q E hr h => ?_)⟩
  · obtain ⟨a, k, xs, rfl, _⟩ := h
    rfl
  · obtain ⟨a, k, xs, rfl, hx, q⟩ := h
    refine ⟨_, pss_one (ps_ret (pe_callB call_isiT (by rfl) T.bi.isinstance (by decide +kernel) (pa_cons (pv 0) (pa_cons (pe_tup (pa_cons (pe_bltn (v := .ty "list") (by rfl) T.bi.list (by decide +kernel) rfl)
      (pa_cons (pe_bltn (v := .ty "tuple") (by rfl) T.bi.tuple (by decide +kernel) rfl) pa_nil))) pa_nil)))), ?_⟩
    refine ⟨_, rfl, by show 2 ≤ sizeLine; decide, fun p hp => ?_⟩
    have hx' := Same.get (Same.new (o := .tup [.ty "list", .ty "tuple"]) hp) hx
    cases k
    · exact ⟨.ref a, p, [.ty "list", .ty "tuple"], .type "list", [.type "list", .type "tuple"], true, rfl, upd_same, .cons (.ty _) (.cons (.ty _) .nil), .base (.lst hx'),
        kitAny_cons (kit_ty (b := "list") (r := true) (by decide +kernel)) (fun e => nomatch e) (fun _ => rfl), q _ (Same.new hp)⟩
    · exact ⟨.ref a, p, [.ty "list", .ty "tuple"], .type "tuple", [.type "list", .type "tuple"], true, rfl, upd_same, .cons (.ty _) (.cons (.ty _) .nil), .base (.tup hx'),
        kitAny_cons (kit_ty (b := "list") (r := false) (by decide +kernel)) (fun _ => kitAny_cons (kit_ty (b := "tuple") (r := true) (by decide +kernel)) (fun e => nomatch e) (fun _ => rfl)) (fun e => nomatch e), q _ (Same.new hp)⟩
theorem cut1 (xs : List V) : cutV xs (some 1) none = xs.drop 1 := by
  unfold cutV
  rw [show HT.sIx xs.length 0 (some 1) = min 1 xs.length from HT.sIx_nat xs.length 0 1, HT.sIx_none]
  cases xs with
  | nil => rfl
  | cons x r =>
    rw [show min 1 (x :: r).length = 1 by rw [List.length_cons]; omega]
    exact List.take_of_length_le (by simp)
/-- ascending -/
def Asc (ns : List Int) : Prop := ∀ (i : Nat) (a b : Int), ns[i]? = some a → ns[i + 1]? = some b → a < b
def spAsc : Sp := fun vs H Q _ => ∃ a k ns, vs = [.ref a] ∧ H a = some (sq k (ns.map V.int)) ∧ Asc ns ∧ ns.length ≤ 1000 ∧ ∀ H', Same H H' → Q (.bl true) H'
theorem ok_asc (T : Tx P K mg) : Ok P w K mg base CX0 "is_ascending" sAsc 1 ["value"] spAsc := by
  obtain ⟨f, fd, D⟩ := T.d12
  refine ⟨f, fd, D, D.fn.binds (fun _ _ _ _ _ _ us hl => match us, hl with | [_], _ => rfl), D.fn.ok scAsc (fun vs H Q E h => ?_) (fun cdv A outer s H vs Q E hr h => ?_)⟩
  · obtain ⟨a, k, xs, rfl, _⟩ := h
    rfl
  · obtain ⟨a, k, ns, rfl, hx, as, hz, q⟩ := h
    refine ⟨_, pss_one (ps_ret (pe_callB (call_allK rfl) (by rfl) T.bi.all (by decide +kernel) (pa_cons
      (pe_lc (own := [("one", 1), ("other", 2)]) (g := gTup K 2 (gCons (gName 1) (gCons (gName 2) gNil))) (tt := tYes) rfl scAsc.nd
        (pi_zq (by rfl) T.bi.zip (pa_cons (pv 0) (pa_cons (pe_slice sl_sq (pv 0) (po_some pe_int) po_none) pa_nil)))
        (blkOk_by (N := ["value", "one", "other"]) (sc := defScope sAsc) (by decide +kernel))
        (fun _ _ _ _ _ => pg_tup rfl (pgs_cons (pg_name (i := 1) scAsc.nd rfl (.inl rfl)) (pgs_cons (pg_name (i := 2) scAsc.nd rfl (.inl rfl)) pgs_nil)))
        (fun _ _ _ _ _ => pts_nil) (fun _ _ _ _ _ => pe_cmpR op_lt (pv 1) (pv 2) (nomark _))) pa_nil))), ?_⟩
    refine ⟨_, rfl, _, rfl, _, rfl, a, k, _, rfl, hx, fun p H1 s1 e1 => ?_⟩
    rw [cut1] at e1
    refine ⟨a, p, k, _, _, rfl, s1.get hx, e1, fun D hD => ?_⟩
    refine lc_true (walk_sqz rfl) (by simp; omega) hD (fun H s => ⟨s.get (s1.get hx), s.get e1⟩) (fun i x H H' N hi s y fin => ?_) fun H bs s eD ea => ?_
    · obtain ⟨Tp, u, v, rfl, hT, rfl, hu, hv⟩ := y
      dsimp only at hu hv
      rw [List.getElem?_map] at hu
      rw [List.getElem?_drop, List.getElem?_map] at hv
      obtain ⟨m, hm, rfl⟩ := Option.map_eq_some_iff.mp hu
      obtain ⟨m2, hm2, rfl⟩ := Option.map_eq_some_iff.mp hv
      rw [Nat.add_comm] at hm2
      refine ⟨Tp, _, rfl, sqT upd_same, rfl, _, _, rfl, _, _, rfl, rfl, rfl, _, rfl, _, rfl, m, m2, rfl, rfl, ?_⟩
      show N (.bl (decide (m < m2))) _
      rw [decide_eq_true (as i m m2 hm hm2)]
      exact fin _ (Same.new hT)
    · refine ⟨D, bs, rfl, eD, ?_⟩
      rw [ea]
      exact q H (s1.trans s)
def spLot : Sp := fun vs H Q _ => ∃ a k ns m, vs = [.ref a, .int m] ∧ H a = some (sq k (ns.map V.int)) ∧ Asc ns ∧ (∀ i ∈ ns, 0 ≤ i ∧ i < m) ∧ ns.length ≤ 1000 ∧ ∀ H', Same H H' → Q (.bl true) H'
theorem ok_lot (T : Tx P K mg) : Ok P w K mg base CX0 "is_lot" sLot 4 ["value", "most"] spLot := by
  obtain ⟨f, fd, D⟩ := T.d13
  obtain ⟨fS, fdS, DS, bS, GS⟩ := ok_seq (P := P) (w := w) (base := base) T
  obtain ⟨fB, fdB, DB, bB, GB⟩ := ok_bel (P := P) (w := w) (base := base) T
  obtain ⟨fA, fdA, DA, bA, GA⟩ := ok_asc (P := P) (w := w) (base := base) T
  refine ⟨f, fd, D, D.fn.binds (fun _ _ _ _ _ _ us hl => match us, hl with | [_, _], _ => rfl), D.fn.ok scLot (fun vs H Q E h => ?_) (fun cdv A outer s H vs Q E hr h => ?_)⟩
  · obtain ⟨a, k, xs, m, rfl, _⟩ := h
    rfl
  · obtain ⟨a, k, ns, m, rfl, hx, as, bd, hz, q⟩ := h
    have hr1 : Room 1 _ := hr.mono (by decide)
    refine ⟨_, pss_one (ps_ret (pe_and (pe_call GS hr1 (by rfl) DS.gl DS.fn.kp bS .nil pass0 (pa_cons (pv 0) pa_nil))
      (pe_and (pe_callB (call_allK rfl) (by rfl) T.bi.all (by decide +kernel) (pa_cons
        (pe_lc (own := [("one", 2)]) (g := gName 2) (tt := tYes) rfl scLot.nd (pi_sq (pv 0))
          (blkOk_by (N := ["value", "most", "one"]) (sc := defScope sLot) (by decide +kernel))
          (fun _ _ _ _ _ => pg_name (i := 2) scLot.nd rfl (.inl rfl))
          (fun _ _ _ _ _ => pts_nil) (fun _ _ _ _ _ => pe_call GB hr (by rfl) DB.gl DB.fn.kp bB .nil pass0 (pa_cons (pv 2) (pa_cons (pv 1) pa_nil)))) pa_nil))
      (pe_one (pe_call GA hr1 (by rfl) DA.gl DA.fn.kp bA .nil pass0 (pa_cons (pv 0) pa_nil)))))), ?_⟩
    refine ⟨_, rfl, a, k, _, rfl, hx, fun H1 s1 => ⟨_, rfl, iteT ?_⟩⟩
    refine ⟨_, rfl, a, k, _, rfl, s1.get hx, fun D hD => ?_⟩
    refine lc_true walk_sq (by simp; omega) hD (fun H s => s.get (s1.get hx)) (fun i x H H' N hi s y fin => ?_) fun H bs s eD ea => ?_
    · obtain ⟨rfl, hv⟩ := y
      rw [List.getElem?_map] at hv
      obtain ⟨v, hv2, rfl⟩ := Option.map_eq_some_iff.mp hv
      obtain ⟨b1, b2⟩ := bd v (List.mem_of_getElem? hv2)
      refine ⟨rfl, _, rfl, _, rfl, _, m, rfl, .int v, ?_⟩
      rw [show belQ m (.int v) = true by show (decide (0 ≤ v) && decide (v < m)) = true; rw [decide_eq_true b1, decide_eq_true b2]; rfl]
      exact fin _ (Same.refl _)
    · refine ⟨D, bs, rfl, eD, ?_⟩
      rw [ea]
      refine ⟨_, rfl, iteT ⟨_, rfl, a, k, ns, rfl, s.get (s1.get hx), as, hz, fun H2 s2 => q H2 ((s1.trans s).trans s2)⟩⟩
end
end K5
set_option Elab.async false
set_option linter.all false
set_option maxRecDepth 100000
set_option maxHeartbeats 2000000
namespace K5
open PySem PySem.Spec PyProof.Rows L2
/-! the mirror of a house -/
structure Pas where
  t : Int
  h : Int
  l : Int
  w : Int
  sh : List Int
structure Hse where
  rooms : List Int
  pas : List Pas
  smoke : List (Option Int)
def optV : Option Int → V
  | none => .non
  | some i => .int i
def PasK (k : Bool) (H : Hp) (v : V) (p : Pas) : Prop := ∃ a s, v = .ref a ∧ H a = some (sq k [.int p.t, .int p.h, .int p.l, .int p.w, .ref s]) ∧ H s = some (sq k (p.sh.map V.int))
def PsK (k : Bool) (H : Hp) (vs : List V) (ps : List Pas) : Prop := vs.length = ps.length ∧ ∀ (i : Nat) v p, vs[i]? = some v → ps[i]? = some p → PasK k H v p
def HseK (k : Bool) (H : Hp) (v : V) (h : Hse) : Prop := ∃ a r q s vs, v = .ref a ∧ H a = some (sq k [.ref r, .ref q, .ref s]) ∧ H r = some (sq k (h.rooms.map V.int)) ∧ H q = some (sq k vs) ∧ PsK k H vs h.pas ∧ H s = some (sq k (h.smoke.map optV))
structure PasOk (rooms : List Int) (p : Pas) : Prop where
  t0 : 0 ≤ p.t
  t1 : p.t < rooms.length
  h0 : 0 ≤ p.h
  h1 : p.h < rooms.length
  ne : p.t ≠ p.h
  ins : rooms[p.t.toNat]? = some 0
  l1 : 1 ≤ p.l
  l9 : p.l ≤ 9
  w0 : 0 ≤ p.w
  w9 : p.w ≤ 9
  asc : Asc p.sh
  bd : ∀ i ∈ p.sh, 0 ≤ i ∧ i < 60
  len : p.sh.length ≤ 60
structure HseOk (h : Hse) : Prop where
  r1 : 1 ≤ h.rooms.length
  r20 : h.rooms.length ≤ 20
  rv : ∀ x ∈ h.rooms, x = 0 ∨ x = 1
  p60 : h.pas.length ≤ 60
  pk : ∀ p ∈ h.pas, PasOk h.rooms p
  sl : h.smoke.length = h.rooms.length
  sk : ∀ (i : Nat) b, h.smoke[i]? = some (some b) → h.rooms[i]? = some 0 ∧ 0 ≤ b ∧ b < 60
theorem PasK.mono {k : Bool} {H H' : Hp} {v : V} {p : Pas} (h : PasK k H v p) (s : Same H H') : PasK k H' v p := by
  obtain ⟨a, b, e, h1, h2⟩ := h
  exact ⟨a, b, e, s _ _ h1, s _ _ h2⟩
theorem PsK.mono {k : Bool} {H H' : Hp} {vs : List V} {ps : List Pas} (h : PsK k H vs ps) (s : Same H H') : PsK k H' vs ps := ⟨h.1, fun i v p e1 e2 => (h.2 i v p e1 e2).mono s⟩
theorem HseK.mono {k : Bool} {H H' : Hp} {v : V} {h : Hse} (x : HseK k H v h) (s : Same H H') : HseK k H' v h := by
  obtain ⟨a, r, q, t, vs, e, h1, h2, h3, h4, h5⟩ := x
  exact ⟨a, r, q, t, vs, e, s _ _ h1, s _ _ h2, s _ _ h3, h4.mono s, s _ _ h5⟩
theorem atI_int {α : Type} {xs : List α} {i : Int} {v : α} (h0 : 0 ≤ i) (h : xs[i.toNat]? = some v) : atI xs i = some v := by
  have e := atI_nat h
  rw [Int.toNat_of_nonneg h0] at e
  exact e
theorem belT {i m : Int} (h0 : 0 ≤ i) (h1 : i < m) : belQ m (.int i) = true := by
  show (decide (0 ≤ i) && decide (i < m)) = true
  rw [decide_eq_true h0, decide_eq_true h1]
  rfl
theorem belQ_true {m : Int} {v : V} (h : belQ m v = true) : ∃ i, v = .int i ∧ 0 ≤ i ∧ i < m := by
  cases v with
  | int i =>
    have h' : (decide (0 ≤ i) && decide (i < m)) = true := h
    rw [Bool.and_eq_true, decide_eq_true_eq, decide_eq_true_eq] at h'
    exact ⟨i, rfl, h'.1, h'.2⟩
  | _ => exact nomatch h
theorem iteDT {c : Prop} [Decidable c] {A B : Prop} (hc : c) (h : A) : if decide c = true then A else B := by
  rw [decide_eq_true hc]
  exact iteT h
theorem iteDF {c : Prop} [Decidable c] {A B : Prop} (hc : ¬ c) (h : B) : if decide c = true then A else B := by
  rw [decide_eq_false hc]
  exact iteF h
theorem iteNT {c : Prop} [Decidable c] {A B : Prop} (hc : ¬ c) (h : A) : if (!decide c) = true then A else B := by
  rw [decide_eq_false hc]
  exact iteT h
theorem iteNF {c : Prop} [Decidable c] {A B : Prop} (hc : c) (h : B) : if (!decide c) = true then A else B := by
  rw [decide_eq_true hc]
  exact iteF h
theorem iteB {b : Bool} {A B : Prop} (h1 : b = true → A) (h2 : b = false → B) : if b = true then A else B := by
  cases b with
  | true => exact iteT (h1 rfl)
  | false => exact iteF (h2 rfl)
abbrev sAreR : Stmt := top 22
abbrev sIsP : Stmt := top 23
abbrev sAreP : Stmt := top 24
abbrev sIsS : Stmt := top 25
abbrev sChk : Stmt := top 26
theorem scAreR : FnScope ["value", "one"] ["value"] (defScope sAreR) := ⟨rfl, rfl, rfl, by decide +kernel, rfl, by decide +kernel, by decide +kernel⟩
theorem scIsP : FnScope ["rooms", "value", "room"] ["rooms", "value"] (defScope sIsP) := ⟨rfl, rfl, rfl, by decide +kernel, rfl, by decide +kernel, by decide +kernel⟩
theorem scAreP : FnScope ["rooms", "value", "one"] ["rooms", "value"] (defScope sAreP) := ⟨rfl, rfl, rfl, by decide +kernel, rfl, by decide +kernel, by decide +kernel⟩
theorem scIsS : FnScope ["rooms", "value", "room", "beat"] ["rooms", "value"] (defScope sIsS) := ⟨rfl, rfl, rfl, by decide +kernel, rfl, by decide +kernel, by decide +kernel⟩
theorem scChk : FnScope ["value", "rooms", "passages", "smoke", "told", "one"] ["value"] (defScope sChk) := ⟨rfl, rfl, rfl, by decide +kernel, rfl, by decide +kernel, by decide +kernel⟩
section
variable {P : Program} {w : World} {K : PySem.W.Frag} {mg : Str → Option Value} {base : Heap}
def spAreR : Sp := fun vs H Q _ => ∃ (a : Addr) (k : Bool) (rs : List Int), vs = [.ref a] ∧ H a = some (sq k (rs.map V.int)) ∧ 1 ≤ rs.length ∧ rs.length ≤ 20 ∧ (∀ x ∈ rs, x = 0 ∨ x = 1) ∧ ∀ H', Same H H' → Q (.bl true) H'
theorem ok_areR (T : Tx P K mg) : Ok P w K mg base CX0 "are_rooms" sAreR 4 ["value"] spAreR := by
  obtain ⟨f, fd, D⟩ := T.d22
  obtain ⟨fS, fdS, DS, bS, GS⟩ := ok_seq (P := P) (w := w) (base := base) T
  obtain ⟨fB, fdB, DB, bB, GB⟩ := ok_bel (P := P) (w := w) (base := base) T
  obtain ⟨t20, c20⟩ := T.c16
  refine ⟨f, fd, D, D.fn.binds (fun _ _ _ _ _ _ us hl => match us, hl with | [_], _ => rfl), D.fn.ok scAreR (fun vs H Q E h => ?_) (fun cdv A outer s H vs Q E hr h => ?_)⟩
  · obtain ⟨a, k, xs, rfl, _⟩ := h
    rfl
  · obtain ⟨a, k, rs, rfl, hx, l1, l2, bd, q⟩ := h
    have hr1 : Room 1 _ := hr.mono (by decide)
    refine ⟨_, pss_one (ps_ret (pe_and (pe_call GS hr1 (by rfl) DS.gl DS.fn.kp bS .nil pass0 (pa_cons (pv 0) pa_nil))
      (pe_and (pe_chain op_le op_le pe_int (pe_callB call_lenOf (by rfl) T.bi.len PySem.boot_len (pa_cons (pv 0) pa_nil)) (pe_glob (v := .int 20) (by rfl) c20 ⟨_, rfl⟩))
      (pe_one (pe_callB (call_allK rfl) (by rfl) T.bi.all (by decide +kernel) (pa_cons
        (pe_lc (own := [("one", 1)]) (g := gName 1) (tt := tYes) rfl scAreR.nd (pi_sq (pv 0))
          (blkOk_by (N := ["value", "one"]) (sc := defScope sAreR) (by decide +kernel))
          (fun _ _ _ _ _ => pg_name (i := 1) scAreR.nd rfl (.inl rfl))
          (fun _ _ _ _ _ => pts_nil) (fun _ _ _ _ _ => pe_call GB hr (by rfl) DB.gl DB.fn.kp bB .nil pass0 (pa_cons (pv 1) (pa_cons pe_int pa_nil)))) pa_nil)))))), ?_⟩
    refine ⟨_, rfl, a, k, _, rfl, hx, fun H1 s1 => ⟨_, rfl, iteT ?_⟩⟩
    refine ⟨_, rfl, a, k, _, rfl, s1.get hx, 1, _, rfl, rfl, true, congrArg V.bl (decide_eq_true (by simp; omega)), iteT ⟨_, 20, rfl, rfl, true, congrArg V.bl (decide_eq_true (by simp; omega)), iteT ?_⟩⟩
    refine ⟨_, rfl, a, k, _, rfl, s1.get hx, fun D hD => ?_⟩
    refine lc_true walk_sq (by simp; omega) hD (fun H s => s.get (s1.get hx)) (fun i x H H' N hi s y fin => ?_) fun H bs s eD ea => ?_
    · obtain ⟨rfl, hv⟩ := y
      rw [List.getElem?_map] at hv
      obtain ⟨v, hv2, rfl⟩ := Option.map_eq_some_iff.mp hv
      have b0 : 0 ≤ v ∧ v < 2 := by
        rcases bd v (List.mem_of_getElem? hv2) with e | e <;> omega
      refine ⟨rfl, _, rfl, _, 2, rfl, .int v, ?_⟩
      rw [belT b0.1 b0.2]
      exact fin _ (Same.refl _)
    · refine ⟨D, bs, rfl, eD, ?_⟩
      rw [ea]
      exact q H (s1.trans s)
theorem at5 {k : Bool} {H : Hp} {a : Addr} {xs : List V} (h : H a = some (sq k xs)) : H a = some (sq k xs) := h
theorem cut2 (x y : V) (r : List V) : cutV (x :: y :: r) none (some 2) = [x, y] := by
  unfold cutV
  rw [show HT.sIx (x :: y :: r).length (x :: y :: r).length (some 2) = min 2 (x :: y :: r).length from HT.sIx_nat _ _ 2, HT.sIx_none, show min 2 (x :: y :: r).length = 2 by simp]
  rfl
def spIsP : Sp := fun vs H Q _ => ∃ (r : Addr) (k : Bool) (rs : List Int) (v : V) (p : Pas), vs = [.ref r, v] ∧ H r = some (sq k (rs.map V.int)) ∧ PasK k H v p ∧ PasOk rs p ∧ ∀ H', Same H H' → Q (.bl true) H'
theorem ok_isP (T : Tx P K mg) : Ok P w K mg base CX0 "is_passage" sIsP 5 ["rooms", "value"] spIsP := by
  obtain ⟨f, fd, D⟩ := T.d23
  obtain ⟨fS, fdS, DS, bS, GS⟩ := ok_seq (P := P) (w := w) (base := base) T
  obtain ⟨fB, fdB, DB, bB, GB⟩ := ok_bel (P := P) (w := w) (base := base) T
  obtain ⟨fL, fdL, DL, bL, GL⟩ := ok_lot (P := P) (w := w) (base := base) T
  obtain ⟨t15, c15⟩ := T.c15
  obtain ⟨t18, c18⟩ := T.c18
  obtain ⟨t19, c19⟩ := T.c19
  obtain ⟨t21, c21⟩ := T.c21
  refine ⟨f, fd, D, D.fn.binds (fun _ _ _ _ _ _ us hl => match us, hl with | [_, _], _ => rfl), D.fn.ok scIsP (fun vs H Q E h => ?_) (fun cdv A outer s H vs Q E hr h => ?_)⟩
  · obtain ⟨a, k, xs, _, _, rfl, _⟩ := h
    rfl
  · obtain ⟨r, k, rs, v, p, rfl, hR, ⟨b, sh, rfl, hb, hsh⟩, pk, q⟩ := h
    have hr1 : Room 1 _ := hr.mono (by decide)
    have hr3 : Room 3 _ := hr.mono (by decide)
    refine ⟨_, pss_cons (ps_if (PW.pt (pw_or (pt_not (pt_val (pe_call GS hr1 (by rfl) DS.gl DS.fn.kp bS .nil pass0 (pa_cons (pv 1) pa_nil))))
        (pw_or (pt_cmpR op_ne (pe_callB call_lenOf (by rfl) T.bi.len PySem.boot_len (pa_cons (pv 1) pa_nil)) pe_int (nomark _))
        (pw_or1 (pt_not (pt_val (pe_callB (call_allK rfl) (by rfl) T.bi.all (by decide +kernel) (pa_cons
          (pe_lc (own := [("room", 2)]) (g := gName 2) (tt := tYes) rfl scIsP.nd (pi_sq (pe_slice sl_sq (pv 1) po_none (po_some pe_int)))
            (blkOk_by (N := ["rooms", "value", "room"]) (sc := defScope sIsP) (by decide +kernel))
            (fun _ _ _ _ _ => pg_name (i := 2) scIsP.nd rfl (.inl rfl))
            (fun _ _ _ _ _ => pts_nil) (fun _ _ _ _ _ => pe_call GB hr3 (by rfl) DB.gl DB.fn.kp bB .nil pass0 (pa_cons (pv 2) (pa_cons (pe_callB call_lenOf (by rfl) T.bi.len PySem.boot_len (pa_cons (pv 0) pa_nil)) pa_nil)))) pa_nil))))))))
        (pss_one (ps_ret pe_bl)) pss_nil)
      (pss_cons (ps_if (PW.pt (pw_or (pt_cmpR op_eq (pe_ix ix_sq (pv 1) pe_int (fun _ _ => rfl)) (pe_ix ix_sq (pv 1) pe_int (fun _ _ => rfl)) (nomark _))
        (pw_or (pt_cmpR op_eq (pe_ix ix_sq (pv 0) (pe_ix ix_sq (pv 1) pe_int (fun _ _ => rfl)) (fun _ _ => rfl)) (pe_glob (v := .int 1) (by rfl) c21 ⟨_, rfl⟩) (nomark _))
        (pw_or (pt_not (pt_val (pe_call GB hr3 (by rfl) DB.gl DB.fn.kp bB .nil pass0 (pa_cons (pe_ix ix_sq (pv 1) pe_int (fun _ _ => rfl)) (pa_cons (pe_op op_add (pe_glob (v := .int 9) (by rfl) c18 ⟨_, rfl⟩) pe_int) pa_nil)))))
        (pw_or1 (pt_cmpR op_eq (pe_ix ix_sq (pv 1) pe_int (fun _ _ => rfl)) pe_int (nomark _)))))))
        (pss_one (ps_ret pe_bl)) pss_nil)
      (pss_one (ps_ret (pe_and (pe_call GB hr3 (by rfl) DB.gl DB.fn.kp bB .nil pass0 (pa_cons (pe_ix ix_sq (pv 1) pe_int (fun _ _ => rfl)) (pa_cons (pe_op op_add (pe_glob (v := .int 9) (by rfl) c19 ⟨_, rfl⟩) pe_int) pa_nil)))
        (pe_one (pe_call GL hr (by rfl) DL.gl DL.fn.kp bL .nil pass0 (pa_cons (pe_ix ix_sq (pv 1) pe_int (fun _ _ => rfl)) (pa_cons (pe_glob (v := .int 60) (by rfl) c15 ⟨_, rfl⟩) pa_nil)))))))), ?_⟩
    refine ⟨_, rfl, b, k, _, rfl, hb, fun H1 s1 => ⟨_, rfl, iteF ?_⟩⟩
    refine ⟨_, rfl, b, k, _, rfl, s1.get hb, rfl, _, rfl, iteNF rfl ?_⟩
    refine ⟨_, rfl, _, rfl, b, k, _, rfl, s1.get hb, fun c H2 s2 e2 => ?_⟩
    rw [cut2] at e2
    refine ⟨c, k, _, rfl, e2, fun D hD => ?_⟩
    refine lc_true walk_sq (by show 2 ≤ 1000; decide) hD (fun H s => s.get e2) (fun i x H H' N hi s y fin => ?_) fun H3 bs s3 eD ea => ?_
    · obtain ⟨rfl, hv⟩ := y
      refine ⟨rfl, _, rfl, _, rfl, r, k, _, rfl, s.get (s2.get (s1.get hR)), ?_⟩
      have hb2 : x = .int p.t ∨ x = .int p.h := by
        match i, hv with
        | 0, hv => exact .inl (Option.some.inj hv).symm
        | 1, hv => exact .inr (Option.some.inj hv).symm
      rcases hb2 with rfl | rfl
      · refine ⟨_, _, rfl, .int _, ?_⟩
        rw [belT pk.t0 (by rw [List.length_map]; exact pk.t1)]
        exact fin _ (Same.refl _)
      · refine ⟨_, _, rfl, .int _, ?_⟩
        rw [belT pk.h0 (by rw [List.length_map]; exact pk.h1)]
        exact fin _ (Same.refl _)
    · refine ⟨D, bs, rfl, eD, ?_⟩
      rw [ea]
      refine ⟨_, rfl, iteF ?_⟩
      have s13 := (s1.trans s2).trans s3
      have hb3 := s13.get hb
      have hR3 := s13.get hR
      refine ⟨_, rfl, b, k, _, 0, _, rfl, rfl, hb3, atI_nat (j := 0) rfl, _, rfl, b, k, _, 1, _, rfl, rfl, hb3, atI_nat (j := 1) rfl, rfl, _, rfl, iteDF (fun e => pk.ne (V.int.inj e)) ?_⟩
      refine ⟨_, rfl, _, rfl, b, k, _, 0, _, rfl, rfl, hb3, atI_nat (j := 0) rfl, r, k, _, p.t, .int 0, rfl, rfl, hR3, atI_int pk.t0 (by rw [List.getElem?_map, pk.ins]; rfl), rfl, _, rfl, iteDF (fun e => nomatch e) ?_⟩
      refine ⟨_, rfl, b, k, _, 2, _, rfl, rfl, hb3, atI_nat (j := 2) rfl, 9, 1, rfl, rfl, _, 10, rfl, .int _, ?_⟩
      rw [belT (by have := pk.l1; omega) (by have := pk.l9; omega)]
      refine ⟨_, rfl, iteF ?_⟩
      refine ⟨_, rfl, b, k, _, 2, _, rfl, rfl, hb3, atI_nat (j := 2) rfl, rfl, _, rfl, iteDF (fun e => by have := pk.l1; have := V.int.inj e; omega) ?_⟩
      refine ⟨_, rfl, b, k, _, 3, _, rfl, rfl, hb3, atI_nat (j := 3) rfl, 9, 1, rfl, rfl, _, 10, rfl, .int _, ?_⟩
      rw [belT pk.w0 (by have := pk.w9; omega)]
      refine ⟨_, rfl, iteT ?_⟩
      exact ⟨_, rfl, b, k, _, 4, _, rfl, rfl, hb3, atI_nat (j := 4) rfl, sh, k, p.sh, 60, rfl, s13.get hsh, pk.asc, pk.bd, by have := pk.len; omega, fun H4 s4 => q H4 (s13.trans s4)⟩
end
end K5
set_option Elab.async false
set_option linter.all false
set_option maxRecDepth 100000
set_option maxHeartbeats 2000000
namespace K5
open PySem PySem.Spec PyProof.Rows L2
section
variable {P : Program} {w : World} {K : PySem.W.Frag} {mg : Str → Option Value} {base : Heap}
def spAreP : Sp := fun vs H Q _ => ∃ (r q : Addr) (k : Bool) (rs : List Int) (ws : List V) (ps : List Pas), vs = [.ref r, .ref q] ∧ H r = some (sq k (rs.map V.int)) ∧ H q = some (sq k ws) ∧ PsK k H ws ps ∧ (∀ p ∈ ps, PasOk rs p) ∧ ps.length ≤ 60 ∧ ∀ H', Same H H' → Q (.bl true) H'
theorem ok_areP (T : Tx P K mg) : Ok P w K mg base CX0 "are_passages" sAreP 6 ["rooms", "value"] spAreP := by
  obtain ⟨f, fd, D⟩ := T.d24
  obtain ⟨fS, fdS, DS, bS, GS⟩ := ok_seq (P := P) (w := w) (base := base) T
  obtain ⟨fB, fdB, DB, bB, GB⟩ := ok_isP (P := P) (w := w) (base := base) T
  obtain ⟨t17, c17⟩ := T.c17
  refine ⟨f, fd, D, D.fn.binds (fun _ _ _ _ _ _ us hl => match us, hl with | [_, _], _ => rfl), D.fn.ok scAreP (fun vs H Q E h => ?_) (fun cdv A outer s H vs Q E hr h => ?_)⟩
  · obtain ⟨a, b, k, xs, _, _, rfl, _⟩ := h
    rfl
  · obtain ⟨r, q, k, rs, ws, ps, rfl, hR, hq, ⟨hl, hp⟩, pk, l60, Qt⟩ := h
    have hr1 : Room 1 _ := hr.mono (by decide)
    refine ⟨_, pss_one (ps_ret (pe_and (pe_call GS hr1 (by rfl) DS.gl DS.fn.kp bS .nil pass0 (pa_cons (pv 1) pa_nil))
      (pe_and (pe_cmpR op_le (pe_callB call_lenOf (by rfl) T.bi.len PySem.boot_len (pa_cons (pv 1) pa_nil)) (pe_glob (v := .int 60) (by rfl) c17 ⟨_, rfl⟩) (nomark _))
      (pe_one (pe_callB (call_allK rfl) (by rfl) T.bi.all (by decide +kernel) (pa_cons
        (pe_lc (own := [("one", 2)]) (g := gName 2) (tt := tYes) rfl scAreP.nd (pi_sq (pv 1))
          (blkOk_by (N := ["rooms", "value", "one"]) (sc := defScope sAreP) (by decide +kernel))
          (fun _ _ _ _ _ => pg_name (i := 2) scAreP.nd rfl (.inl rfl))
          (fun _ _ _ _ _ => pts_nil) (fun _ _ _ _ _ => pe_call GB hr (by rfl) DB.gl DB.fn.kp bB .nil pass0 (pa_cons (pv 0) (pa_cons (pv 2) pa_nil)))) pa_nil)))))), ?_⟩
    refine ⟨_, rfl, q, k, _, rfl, hq, fun H1 s1 => ⟨_, rfl, iteT ?_⟩⟩
    refine ⟨_, rfl, q, k, _, rfl, s1.get hq, _, 60, rfl, rfl, true, congrArg V.bl (decide_eq_true (by rw [hl]; omega)), iteT ?_⟩
    refine ⟨_, rfl, q, k, _, rfl, s1.get hq, fun D hD => ?_⟩
    refine lc_true walk_sq (by omega) hD (fun H s => s.get (s1.get hq)) (fun i x H H' N hi s y fin => ?_) fun H bs s eD ea => ?_
    · obtain ⟨rfl, hv⟩ := y
      obtain ⟨p, hpi⟩ : ∃ p, ps[i]? = some p := ⟨ps[i]'(by omega), List.getElem?_eq_getElem (by omega)⟩
      exact ⟨rfl, _, rfl, _, rfl, r, k, rs, x, p, rfl, s.get (s1.get hR), (hp i x p hv hpi).mono (s1.trans s), pk p (List.mem_of_getElem? hpi), fun H4 s4 => fin H4 s4⟩
    · refine ⟨D, bs, rfl, eD, ?_⟩
      rw [ea]
      exact Qt H (s1.trans s)
def spIsS : Sp := fun vs H Q _ => ∃ (r s : Addr) (k : Bool) (rs : List Int) (sm : List (Option Int)), vs = [.ref r, .ref s] ∧ H r = some (sq k (rs.map V.int)) ∧ H s = some (sq k (sm.map optV)) ∧ sm.length = rs.length ∧ rs.length ≤ 20 ∧
  (∀ (i : Nat) b, sm[i]? = some (some b) → rs[i]? = some 0 ∧ 0 ≤ b ∧ b < 60) ∧ ∀ H', Same H H' → Q (.bl true) H'
theorem ok_isS (T : Tx P K mg) : Ok P w K mg base CX0 "is_smoke" sIsS 4 ["rooms", "value"] spIsS := by
  obtain ⟨f, fd, D⟩ := T.d25
  obtain ⟨fS, fdS, DS, bS, GS⟩ := ok_seq (P := P) (w := w) (base := base) T
  obtain ⟨fB, fdB, DB, bB, GB⟩ := ok_bel (P := P) (w := w) (base := base) T
  obtain ⟨t15, c15⟩ := T.c15
  obtain ⟨t20, c20⟩ := T.c20
  refine ⟨f, fd, D, D.fn.binds (fun _ _ _ _ _ _ us hl => match us, hl with | [_, _], _ => rfl), D.fn.ok scIsS (fun vs H Q E h => ?_) (fun cdv A outer s H vs Q E hr h => ?_)⟩
  · obtain ⟨a, b, k, xs, _, rfl, _⟩ := h
    rfl
  · obtain ⟨r, q, k, rs, sm, rfl, hR, hq, hl, l20, sk, Qt⟩ := h
    have hr1 : Room 1 _ := hr.mono (by decide)
    refine ⟨_, pss_cons (ps_if (PW.pt (pw_or (pt_not (pt_val (pe_call GS hr1 (by rfl) DS.gl DS.fn.kp bS .nil pass0 (pa_cons (pv 1) pa_nil))))
        (pw_or1 (pt_cmpR op_ne (pe_callB call_lenOf (by rfl) T.bi.len PySem.boot_len (pa_cons (pv 1) pa_nil)) (pe_callB call_lenOf (by rfl) T.bi.len PySem.boot_len (pa_cons (pv 0) pa_nil)) (nomark _)))))
        (pss_one (ps_ret pe_bl)) pss_nil)
      (pss_one (ps_ret (pe_callB (call_allK rfl) (by rfl) T.bi.all (by decide +kernel) (pa_cons
        (pe_lc (own := [("room", 2), ("beat", 3)]) (g := gTup K 2 (gCons (gName 2) (gCons (gName 3) gNil))) (tt := tYes) rfl scIsS.nd
          (pi_zq (by rfl) T.bi.zip (pa_cons (pv 0) (pa_cons (pv 1) pa_nil)))
          (blkOk_by (N := ["rooms", "value", "room", "beat"]) (sc := defScope sIsS) (by decide +kernel))
          (fun _ _ _ _ _ => pg_tup rfl (pgs_cons (pg_name (i := 2) scIsS.nd rfl (.inl rfl)) (pgs_cons (pg_name (i := 3) scIsS.nd rfl (.inl rfl)) pgs_nil)))
          (fun _ _ _ _ _ => pts_nil) (fun _ _ _ _ _ => pe_or (pe_cmpR op_isN (pv 3) pe_non (nomark _))
            (pe_one (pe_and (pe_cmpR op_eq (pv 2) (pe_glob (v := .int 0) (by rfl) c20 ⟨_, rfl⟩) (nomark _))
              (pe_one (pe_call GB hr (by rfl) DB.gl DB.fn.kp bB .nil pass0 (pa_cons (pv 3) (pa_cons (pe_glob (v := .int 60) (by rfl) c15 ⟨_, rfl⟩) pa_nil)))))))) pa_nil)))), ?_⟩
    refine ⟨_, rfl, q, k, _, rfl, hq, fun H1 s1 => ⟨_, rfl, iteF ?_⟩⟩
    refine ⟨_, rfl, q, k, _, rfl, s1.get hq, _, rfl, r, k, _, rfl, s1.get hR, rfl, _, rfl, iteNF (by simp [hl]) ?_⟩
    refine ⟨_, rfl, _, rfl, r, q, k, _, _, rfl, s1.get hR, s1.get hq, fun D hD => ?_⟩
    refine lc_true (walk_sqz rfl) (by simp; omega) hD (fun H s => ⟨s.get (s1.get hR), s.get (s1.get hq)⟩) (fun i x H H' N hi s y fin => ?_) fun H bs s eD ea => ?_
    · obtain ⟨Tp, u, v, rfl, hT, rfl, hu, hv⟩ := y
      dsimp only at hu hv
      rw [List.getElem?_map] at hu hv
      obtain ⟨rm0, hrm, rfl⟩ := Option.map_eq_some_iff.mp hu
      obtain ⟨b, hb, rfl⟩ := Option.map_eq_some_iff.mp hv
      have sT := Same.new (o := .tup [.int rm0, optV b]) hT
      refine ⟨Tp, _, rfl, sqT upd_same, rfl, _, _, rfl, _, _, rfl, rfl, rfl, _, rfl, rfl, ?_⟩
      cases b with
      | none => exact ⟨true, rfl, iteT (fin _ sT)⟩
      | some b =>
        obtain ⟨z0, b0, b1⟩ := sk i b hb
        have e0 : rm0 = 0 := Option.some.inj (hrm.symm.trans z0)
        subst e0
        refine ⟨false, rfl, iteF ⟨_, rfl, rfl, true, rfl, iteT ⟨_, rfl, _, 60, rfl, .int b, ?_⟩⟩⟩
        show N (.bl (belQ 60 (.int b))) _
        rw [belT b0 b1]
        exact fin _ sT
    · refine ⟨D, bs, rfl, eD, ?_⟩
      rw [ea]
      exact Qt H (s1.trans s)
theorem cut4 (a b c d e : V) : cutV [a, b, c, d, e] none (some 4) = [a, b, c, d] := by
  unfold cutV
  rw [show HT.sIx [a, b, c, d, e].length [a, b, c, d, e].length (some 4) = min 4 [a, b, c, d, e].length from HT.sIx_nat _ _ 4, HT.sIx_none]
  rfl
theorem five (a b c d e : V) : [a, b, c, d] ++ [e] = [a, b, c, d, e] := rfl
def spChk : Sp := fun vs H Q _ => ∃ (v : V) (k : Bool) (h : Hse), vs = [v] ∧ HseK k H v h ∧ HseOk h ∧ ∀ p H', Same H H' → HseK true H' (.ref p) h → Q (.ref p) H'
theorem ok_chk (T : Tx P K mg) : Ok P w K mg base CX0 "check_house" sChk 7 ["value"] spChk := by
  obtain ⟨f, fd, D⟩ := T.d26
  obtain ⟨fS, fdS, DS, bS, GS⟩ := ok_seq (P := P) (w := w) (base := base) T
  obtain ⟨fR, fdR, DR, bR, GR⟩ := ok_areR (P := P) (w := w) (base := base) T
  obtain ⟨fP, fdP, DP, bP, GP⟩ := ok_areP (P := P) (w := w) (base := base) T
  obtain ⟨fM, fdM, DM, bM, GM⟩ := ok_isS (P := P) (w := w) (base := base) T
  refine ⟨f, fd, D, D.fn.binds (fun _ _ _ _ _ _ us hl => match us, hl with | [_], _ => rfl), D.fn.ok scChk (fun vs H Q E h => ?_) (fun cdv A outer s H vs Q E hr h => ?_)⟩
  · obtain ⟨a, k, xs, rfl, _⟩ := h
    rfl
  · obtain ⟨v, k, h, rfl, ⟨a, r, q, s0, ws, rfl, ha, hR, hq, hP, hS⟩, ok, Qt⟩ := h
    have hr1 : Room 1 _ := hr.mono (by decide)
    have hr4 : Room 4 _ := hr.mono (by decide)
    refine ⟨_, pss_cons (ps_if (PW.pt (pw_or (pt_not (pt_val (pe_call GS hr1 (by rfl) DS.gl DS.fn.kp bS .nil pass0 (pa_cons (pv 0) pa_nil))))
        (pw_or1 (pt_cmpR op_ne (pe_callB call_lenOf (by rfl) T.bi.len PySem.boot_len (pa_cons (pv 0) pa_nil)) pe_int (nomark _))))) pss_never pss_nil)
      (pss_cons (ps_asg (pv 0) (pg_sq (n := 3) rfl (pgs_cons (pg_name (i := 1) scChk.nd rfl (.inl rfl)) (pgs_cons (pg_name (i := 2) scChk.nd rfl (.inl rfl)) (pgs_cons (pg_name (i := 3) scChk.nd rfl (.inl rfl)) pgs_nil)))))
      (pss_cons (ps_if (pt_not (pt_val (pe_call GR hr4 (by rfl) DR.gl DR.fn.kp bR .nil pass0 (pa_cons (pv 1) pa_nil)))) pss_never pss_nil)
      (pss_cons (ps_if (pt_not (pt_val (pe_call GP hr (by rfl) DP.gl DP.fn.kp bP .nil pass0 (pa_cons (pv 1) (pa_cons (pv 2) pa_nil))))) pss_never pss_nil)
      (pss_cons (ps_if (pt_not (pt_val (pe_call GM hr4 (by rfl) DM.gl DM.fn.kp bM .nil pass0 (pa_cons (pv 1) (pa_cons (pv 3) pa_nil))))) pss_never pss_nil)
      (pss_cons (ps_setLc (i := 4) (own := [("one", 5)]) (g := gName 5) (tt := tYes) rfl scChk.nd rfl rfl (sw_true rfl rfl rfl (by decide +kernel)) (pi_sq (pv 2))
        (blkOk_by (N := ["value", "rooms", "passages", "smoke", "told", "one"]) (sc := defScope sChk) (by decide +kernel))
        (fun _ _ _ _ _ => pg_name (i := 5) scChk.nd rfl (.inl rfl))
        (fun _ _ _ _ _ => pts_nil) (fun _ _ _ _ _ => pe_op op_catK (pe_callTy call_tupOf (by rfl) T.bi.tuple (by decide +kernel) (pa_cons (pe_slice sl_sq (pv 5) po_none (po_some pe_int)) pa_nil))
          (pe_tup (pa_cons (pe_callTy call_tupOf (by rfl) T.bi.tuple (by decide +kernel) (pa_cons (pe_ix ix_sq (pv 5) pe_int (fun _ _ => rfl)) pa_nil)) pa_nil))))
      (pss_one (ps_ret (pe_tup (pa_cons (pe_callTy call_tupOf (by rfl) T.bi.tuple (by decide +kernel) (pa_cons (pv 1) pa_nil))
        (pa_cons (pe_callTy call_tupOf (by rfl) T.bi.tuple (by decide +kernel) (pa_cons (pv 4) pa_nil))
        (pa_cons (pe_callTy call_tupOf (by rfl) T.bi.tuple (by decide +kernel) (pa_cons (pv 3) pa_nil)) pa_nil))))))))))), ?_⟩
    refine ⟨_, rfl, a, k, _, rfl, ha, fun H1 s1 => ⟨_, rfl, iteF ?_⟩⟩
    refine ⟨_, rfl, a, k, _, rfl, s1.get ha, rfl, _, rfl, iteNF rfl ?_⟩
    refine ⟨_, rfl, a, k, _, rfl, s1.get ha, rfl, _, _, rfl, _, _, rfl, _, _, rfl, rfl, ?_⟩
    refine ⟨_, rfl, r, k, h.rooms, rfl, s1.get hR, ok.r1, ok.r20, ok.rv, fun H2 s2 => ⟨_, rfl, iteF ?_⟩⟩
    have s12 := s1.trans s2
    refine ⟨_, rfl, _, rfl, r, q, k, h.rooms, ws, h.pas, rfl, s12.get hR, s12.get hq, hP.mono s12, ok.pk, ok.p60, fun H3 s3 => ⟨_, rfl, iteF ?_⟩⟩
    have s13 := s12.trans s3
    refine ⟨_, rfl, _, rfl, r, s0, k, h.rooms, h.smoke, rfl, s13.get hR, s13.get hS, ok.sl, ok.r20, ok.sk, fun H4 s4 => ⟨_, rfl, iteF ?_⟩⟩
    have s14 := s13.trans s4
    have hq4 := s14.get hq
    have hP4 := hP.mono s14
    refine ⟨_, rfl, q, k, ws, rfl, hq4, fun D hD => ?_⟩
    refine lc_map walk_sq (fun i v H => ∀ p, h.pas[i]? = some p → PasK true H v p) (fun i v H H' s z p hp => (z p hp).mono s) (by have := ok.p60; have := hP.1; omega) hD (fun H s => s.get hq4) (fun i x H H' N hi s ⟨acc, eD⟩ y fin => ?_) fun H5 ys s5 eD hl hys => ?_
    · obtain ⟨rfl, hv⟩ := y
      obtain ⟨p, hpi⟩ : ∃ p, h.pas[i]? = some p := ⟨h.pas[i]'(by have := hP.1; omega), List.getElem?_eq_getElem (by have := hP.1; omega)⟩
      obtain ⟨b, t, rfl, hb, ht⟩ := (hP4.2 i x p hv hpi).mono s
      refine ⟨rfl, _, rfl, _, rfl, b, k, _, rfl, hb, fun p1 G1 g1 e1 => ?_⟩
      rw [cut4] at e1
      refine ⟨p1, k, _, rfl, e1, fun p2 G2 g2 e2 => ?_⟩
      refine ⟨_, rfl, b, k, _, 4, _, rfl, rfl, g2.get (g1.get hb), atI_nat (j := 4) rfl, t, k, _, rfl, g2.get (g1.get ht), fun p3 G3 g3 e3 => ?_⟩
      refine ⟨by show 1 ≤ sizeLine; decide, fun p4 n4 => ?_⟩
      have g4 := Same.new (o := .tup [.ref p3]) n4
      refine ⟨p2, p4, _, _, rfl, rfl, g4.get (g3.get e2), upd_same, by show 5 ≤ sizeLine; decide, fun p5 G5 g5 e5 => ?_⟩
      have gA := (((g1.trans g2).trans g3).trans g4).trans g5
      have eD5 := gA.get eD
      refine fin _ G5 gA fun p' hp' => ?_
      have ep : p = p' := Option.some.inj (hpi.symm.trans hp')
      subst ep
      exact ⟨p5, p3, rfl, rm_get e5 eD5 (fun z => nomatch z), rm_get (g5.get (g4.get e3)) eD5 (fun z => nomatch z)⟩
    · have s15 := s14.trans s5
      refine ⟨_, rfl, r, k, _, rfl, s15.get hR, fun p1 G1 g1 e1 => ?_⟩
      refine ⟨_, rfl, D, false, ys, rfl, g1.get eD, fun p2 G2 g2 e2 => ?_⟩
      refine ⟨_, rfl, s0, k, _, rfl, g2.get (g1.get (s15.get hS)), fun p3 G3 g3 e3 => ?_⟩
      refine ⟨by show 3 ≤ sizeLine; decide, fun p4 n4 => ?_⟩
      have g4 := Same.new (o := .tup [.ref p1, .ref p2, .ref p3]) n4
      have gA := ((g1.trans g2).trans g3).trans g4
      refine Qt p4 _ (s15.trans gA) ⟨p4, p1, p2, p3, ys, rfl, upd_same, g4.get (g3.get (g2.get e1)), g4.get (g3.get e2), ⟨hl.trans hP.1, fun i v p hv hp => ?_⟩, g4.get e3⟩
      exact (hys i v hv p hp).mono (rm_le.trans gA)
end
end K5
set_option Elab.async false
set_option linter.all false
set_option maxRecDepth 100000
set_option maxHeartbeats 2000000
namespace K5
open PySem PySem.Spec PyProof.Rows L2 PySem.K5X
/-- the four errors that edits tell -/
structure Ex (P : Program) (K : PySem.W.Frag) (mg : Str → Option Value) (cR cP cB cF : Addr) : Prop where
  r : ∃ fI, ETxt P K mg "NoRoom" "room" "no such room here" cR fI
  p : ∃ fI, ETxt P K mg "NoPassage" "passage" "no such passage here" cP fI
  b : ∃ fI, ETxt P K mg "NoBeat" "beat" "no such beat here" cB fI
  f : ∃ fI, ETxt P K mg "Refused" "at" "no such value here" cF fI
abbrev sNR : Stmt := top 27
abbrev sNI : Stmt := top 28
abbrev sNP : Stmt := top 29
abbrev sNB : Stmt := top 30
abbrev sWS : Stmt := top 31
abbrev sCl : Stmt := top 32
theorem scNR : FnScope ["house", "value"] ["house", "value"] (defScope sNR) := ⟨rfl, rfl, rfl, by decide +kernel, rfl, by decide +kernel, by decide +kernel⟩
theorem scNI : FnScope ["house", "value"] ["house", "value"] (defScope sNI) := ⟨rfl, rfl, rfl, by decide +kernel, rfl, by decide +kernel, by decide +kernel⟩
theorem scNP : FnScope ["house", "value"] ["house", "value"] (defScope sNP) := ⟨rfl, rfl, rfl, by decide +kernel, rfl, by decide +kernel, by decide +kernel⟩
theorem scNB : FnScope ["value"] ["value"] (defScope sNB) := ⟨rfl, rfl, rfl, by decide +kernel, rfl, by decide +kernel, by decide +kernel⟩
theorem scWS : FnScope ["house", "room", "beat", "told"] ["house", "room", "beat"] (defScope sWS) := ⟨rfl, rfl, rfl, by decide +kernel, rfl, by decide +kernel, by decide +kernel⟩
theorem scCl : FnScope ["house", "room", "told"] ["house", "room"] (defScope sCl) := ⟨rfl, rfl, rfl, by decide +kernel, rfl, by decide +kernel, by decide +kernel⟩
/-- an error of the class at c, its field f holding x, all else as it was -/
def Er (E : XK) (c : Addr) (f : Str) (x : V) (H : Hp) : Prop := ∀ (d : Addr) (H' : Hp), Same H H' → H' d = some (.xd [(f, x)]) → E (.ref c) (some d) H'
theorem Er.mono {E : XK} {c : Addr} {f : Str} {x : V} {H H1 : Hp} (h : Er E c f x H) (s : Same H H1) : Er E c f x H1 := fun d H' s' e => h d H' (s.trans s') e
theorem Er.new {E : XK} {c : Addr} {f : Str} {x : V} {H : Hp} (h : Er E c f x H) : ∀ d, H d = none → E (.ref c) (some d) (upd H d (.xd [(f, x)])) := fun d hd => h d _ (Same.new hd) upd_same
section
variable {P : Program} {w : World} {K : PySem.W.Frag} {mg : Str → Option Value} {base : Heap} {cR cP cB cF : Addr}
abbrev CY (P : Program) (w : World) : CXT := L2.CX P w
def spNR (c : Addr) : Sp := fun vs H Q E => ∃ (v x : V) (h : Hse), vs = [v, x] ∧ HseK true H v h ∧ Sc x ∧ (belQ h.rooms.length x = true → Q x H) ∧ (belQ h.rooms.length x = false → Er E c "room" x H)
theorem ok_NR (T : Tx P K mg) (X : Ex P K mg cR cP cB cF) : Ok P w K mg base (CY P w) "need_room" sNR 4 ["house", "value"] (spNR cR) := by
  obtain ⟨f, fd, D⟩ := T.d27
  obtain ⟨fB, fdB, DB, bB, GB⟩ := ok_bel (P := P) (w := w) (base := base) T
  obtain ⟨fE, TE⟩ := X.r
  refine ⟨f, fd, D, D.fn.binds (fun _ _ _ _ _ _ us hl => match us, hl with | [_, _], _ => rfl), D.fn.okX scNR (fun vs H Q E h => ?_) (fun cdv A outer s H vs Q E hr h => ?_)⟩
  · obtain ⟨a, k, xs, rfl, _⟩ := h
    rfl
  · obtain ⟨v, x, h, rfl, ⟨a, r, q, t, ws, rfl, ha, hR, hq, hP, hS⟩, sc, k1, k2⟩ := h
    refine ⟨_, pss_cons (ps_if (pt_not (pt_val (pe_call GB hr (by rfl) DB.gl DB.fn.kp bB .nil pass0 (pa_cons (pv 1) (pa_cons (pe_callB call_lenOf (by rfl) T.bi.len PySem.boot_len (pa_cons (pe_ix ix_sq (pv 0) pe_int (fun _ _ => rfl)) pa_nil)) pa_nil)))))
        (pss_one (ps_raiseE rfl TE hr (takes_of rfl rfl rfl rfl) (pa_cons (pv 1) pa_nil))) pss_nil)
      (pss_one (ps_ret (pv 1))), ?_⟩
    refine ⟨_, rfl, _, rfl, a, true, _, 0, _, rfl, rfl, ha, atI_nat (j := 0) rfl, r, true, _, rfl, hR, x, _, rfl, sc, _, rfl, ?_⟩
    rw [List.length_map]
    cases hb : belQ h.rooms.length x with
    | true => exact iteF ⟨_, rfl, k1 hb⟩
    | false => exact iteT ⟨_, rfl, _, rfl, (k2 hb).new⟩
def spNP (c : Addr) : Sp := fun vs H Q E => ∃ (v x : V) (h : Hse), vs = [v, x] ∧ HseK true H v h ∧ Sc x ∧ (belQ h.pas.length x = true → Q x H) ∧ (belQ h.pas.length x = false → Er E c "passage" x H)
theorem ok_NP (T : Tx P K mg) (X : Ex P K mg cR cP cB cF) : Ok P w K mg base (CY P w) "need_passage" sNP 4 ["house", "value"] (spNP cP) := by
  obtain ⟨f, fd, D⟩ := T.d29
  obtain ⟨fB, fdB, DB, bB, GB⟩ := ok_bel (P := P) (w := w) (base := base) T
  obtain ⟨fE, TE⟩ := X.p
  refine ⟨f, fd, D, D.fn.binds (fun _ _ _ _ _ _ us hl => match us, hl with | [_, _], _ => rfl), D.fn.okX scNP (fun vs H Q E h => ?_) (fun cdv A outer s H vs Q E hr h => ?_)⟩
  · obtain ⟨a, k, xs, rfl, _⟩ := h
    rfl
  · obtain ⟨v, x, h, rfl, ⟨a, r, q, t, ws, rfl, ha, hR, hq, hP, hS⟩, sc, k1, k2⟩ := h
    refine ⟨_, pss_cons (ps_if (pt_not (pt_val (pe_call GB hr (by rfl) DB.gl DB.fn.kp bB .nil pass0 (pa_cons (pv 1) (pa_cons (pe_callB call_lenOf (by rfl) T.bi.len PySem.boot_len (pa_cons (pe_ix ix_sq (pv 0) pe_int (fun _ _ => rfl)) pa_nil)) pa_nil)))))
        (pss_one (ps_raiseE rfl TE hr (takes_of rfl rfl rfl rfl) (pa_cons (pv 1) pa_nil))) pss_nil)
      (pss_one (ps_ret (pv 1))), ?_⟩
    refine ⟨_, rfl, _, rfl, a, true, _, 1, _, rfl, rfl, ha, atI_nat (j := 1) rfl, q, true, _, rfl, hq, x, _, rfl, sc, _, rfl, ?_⟩
    rw [hP.1]
    cases hb : belQ h.pas.length x with
    | true => exact iteF ⟨_, rfl, k1 hb⟩
    | false => exact iteT ⟨_, rfl, _, rfl, (k2 hb).new⟩
def spNB (c : Addr) : Sp := fun vs H Q E => ∃ (x : V), vs = [x] ∧ Sc x ∧ (belQ 60 x = true → Q x H) ∧ (belQ 60 x = false → Er E c "beat" x H)
theorem ok_NB (T : Tx P K mg) (X : Ex P K mg cR cP cB cF) : Ok P w K mg base (CY P w) "need_beat" sNB 4 ["value"] (spNB cB) := by
  obtain ⟨f, fd, D⟩ := T.d30
  obtain ⟨fB, fdB, DB, bB, GB⟩ := ok_bel (P := P) (w := w) (base := base) T
  obtain ⟨fE, TE⟩ := X.b
  obtain ⟨t15, c15⟩ := T.c15
  refine ⟨f, fd, D, D.fn.binds (fun _ _ _ _ _ _ us hl => match us, hl with | [_], _ => rfl), D.fn.okX scNB (fun vs H Q E h => ?_) (fun cdv A outer s H vs Q E hr h => ?_)⟩
  · obtain ⟨a, rfl, _⟩ := h
    rfl
  · obtain ⟨x, rfl, sc, k1, k2⟩ := h
    refine ⟨_, pss_cons (ps_if (pt_not (pt_val (pe_call GB hr (by rfl) DB.gl DB.fn.kp bB .nil pass0 (pa_cons (pv 0) (pa_cons (pe_glob (v := .int 60) (by rfl) c15 ⟨_, rfl⟩) pa_nil)))))
        (pss_one (ps_raiseE rfl TE hr (takes_of rfl rfl rfl rfl) (pa_cons (pv 0) pa_nil))) pss_nil)
      (pss_one (ps_ret (pv 0))), ?_⟩
    refine ⟨_, rfl, x, 60, rfl, sc, _, rfl, ?_⟩
    cases hb : belQ 60 x with
    | true => exact iteF ⟨_, rfl, k1 hb⟩
    | false => exact iteT ⟨_, rfl, _, rfl, (k2 hb).new⟩
/-- what need_inside asks of a room -/
def spNI (cR cF : Addr) : Sp := fun vs H Q E => ∃ (v x : V) (h : Hse), vs = [v, x] ∧ HseK true H v h ∧ HseOk h ∧ Sc x ∧ (∀ i, x = .int i → 0 ≤ i → h.rooms[i.toNat]? = some 0 → Q x H) ∧
  (∀ i, x = .int i → 0 ≤ i → h.rooms[i.toNat]? = some 1 → Er E cF "at" x H) ∧ (belQ h.rooms.length x = false → Er E cR "room" x H)
theorem ok_NI (T : Tx P K mg) (X : Ex P K mg cR cP cB cF) : Ok P w K mg base (CY P w) "need_inside" sNI 5 ["house", "value"] (spNI cR cF) := by
  obtain ⟨f, fd, D⟩ := T.d28
  obtain ⟨fB, fdB, DB, bB, GB⟩ := ok_NR (P := P) (w := w) (base := base) T X
  obtain ⟨fE, TE⟩ := X.f
  obtain ⟨t21, c21⟩ := T.c21
  refine ⟨f, fd, D, D.fn.binds (fun _ _ _ _ _ _ us hl => match us, hl with | [_, _], _ => rfl), D.fn.okX scNI (fun vs H Q E h => ?_) (fun cdv A outer s H vs Q E hr h => ?_)⟩
  · obtain ⟨a, k, xs, rfl, _⟩ := h
    rfl
  · obtain ⟨v, x, h, rfl, hh, ok, sc, k1, k2, k3⟩ := h
    refine ⟨_, pss_cons (ps_expr (pe_call GB hr (by rfl) DB.gl DB.fn.kp bB .nil (passes_call (takes_of rfl rfl rfl rfl) (fun _ _ _ _ h => h)) (pa_cons (pv 0) (pa_cons (pv 1) pa_nil))))
      (pss_cons (ps_if (pt_cmpR op_eq (pe_ix ix_sq (pe_ix ix_sq (pv 0) pe_int (fun _ _ => rfl)) (pv 1) (fun _ _ => rfl)) (pe_glob (v := .int 1) (by rfl) c21 ⟨_, rfl⟩) (nomark _))
        (pss_one (ps_raiseE rfl TE hr (takes_of rfl rfl rfl rfl) (pa_cons (pv 1) pa_nil))) pss_nil)
      (pss_one (ps_ret (pv 1)))), ?_⟩
    refine ⟨_, rfl, _, rfl, v, x, h, rfl, hh, sc, fun hb => ?_, fun hb => k3 hb⟩
    obtain ⟨i, rfl, i0, i1⟩ := belQ_true hb
    have hlt : i.toNat < h.rooms.length := by omega
    have hg : h.rooms[i.toNat]? = some h.rooms[i.toNat] := List.getElem?_eq_getElem hlt
    obtain ⟨a, r, q, t, ws, rfl, ha, hR, hq, hP, hS⟩ := hh
    refine ⟨_, rfl, a, true, _, 0, _, rfl, rfl, ha, atI_nat (j := 0) rfl, _, rfl, r, true, _, i, _, rfl, rfl, hR, atI_int i0 (by rw [List.getElem?_map, hg]; rfl), rfl, _, rfl, ?_⟩
    rcases ok.rv _ (List.getElem_mem hlt) with e | e
    · rw [e] at hg ⊢
      exact iteDF (fun z => nomatch z) ⟨_, rfl, k1 i rfl i0 hg⟩
    · rw [e] at hg ⊢
      exact iteDT rfl ⟨_, rfl, _, rfl, (k2 i rfl i0 hg).new⟩
end
end K5
set_option Elab.async false
set_option linter.all false
set_option maxRecDepth 100000
set_option maxHeartbeats 2000000
namespace K5
open PySem PySem.Spec PyProof.Rows L2 PySem.K5X
theorem cut_to {xs : List V} {i : Int} (h0 : 0 ≤ i) : cutV xs none (some i) = xs.take i.toNat := by
  obtain ⟨n, rfl⟩ := Int.eq_ofNat_of_zero_le h0
  unfold cutV
  rw [show HT.sIx xs.length xs.length (some ((n : Nat) : Int)) = min n xs.length from HT.sIx_nat _ _ n, HT.sIx_none, Int.toNat_natCast, List.drop_zero, Nat.sub_zero]
  by_cases h : n ≤ xs.length
  · rw [Nat.min_eq_left h]
  · rw [Nat.min_eq_right (by omega), List.take_length, List.take_of_length_le (by omega)]
theorem cut_from {xs : List V} {i : Int} (h0 : 0 ≤ i) : cutV xs (some i) none = xs.drop i.toNat := by
  obtain ⟨n, rfl⟩ := Int.eq_ofNat_of_zero_le h0
  unfold cutV
  rw [show HT.sIx xs.length 0 (some ((n : Nat) : Int)) = min n xs.length from HT.sIx_nat _ _ n, HT.sIx_none, Int.toNat_natCast]
  by_cases h : n ≤ xs.length
  · rw [Nat.min_eq_left h, List.take_of_length_le (by rw [List.length_drop]; omega)]
  · rw [Nat.min_eq_right (by omega), List.drop_eq_nil_of_le (Nat.le_refl _), List.drop_eq_nil_of_le (by omega), List.take_nil]
theorem set_cut {xs : List V} {i : Nat} {v : V} (h : i < xs.length) : (xs.take i ++ [v]) ++ xs.drop (i + 1) = xs.set i v := by
  rw [List.set_eq_take_append_cons_drop, if_pos h, List.append_assoc]
  rfl
theorem toN1 {i : Int} (h0 : 0 ≤ i) : (i + 1).toNat = i.toNat + 1 := by omega
/-- smoke in one room, or none -/
def setSm (h : Hse) (i : Int) (o : Option Int) : Hse := ⟨h.rooms, h.pas, h.smoke.set i.toNat o⟩
def setPs (h : Hse) (i : Int) (p : Pas) : Hse := ⟨h.rooms, h.pas.set i.toNat p, h.smoke⟩
theorem map_set' {α : Type} {f : α → V} {xs : List α} {i : Nat} {a : α} : (xs.map f).set i (f a) = (xs.set i a).map f := by
  rw [List.map_set]
section
variable {P : Program} {w : World} {K : PySem.W.Frag} {mg : Str → Option Value} {base : Heap} {cR cP cB cF : Addr}
def spWS (cR cB cF : Addr) : Sp := fun vs H Q E => ∃ (v x b : V) (k : Bool) (h : Hse), vs = [v, x, b] ∧ HseK k H v h ∧ HseOk h ∧ Sc x ∧ Sc b ∧
  (belQ h.rooms.length x = false → Er E cR "room" x H) ∧ (∀ i, x = .int i → 0 ≤ i → h.rooms[i.toNat]? = some 1 → Er E cF "at" x H) ∧
  (∀ i, x = .int i → 0 ≤ i → h.rooms[i.toNat]? = some 0 → belQ 60 b = false → Er E cB "beat" b H) ∧
  (∀ i j, x = .int i → 0 ≤ i → h.rooms[i.toNat]? = some 0 → b = .int j → 0 ≤ j → j < 60 → ∀ p H', Same H H' → HseK true H' (.ref p) (setSm h i (some j)) → Q (.ref p) H')
theorem ok_WS (T : Tx P K mg) (X : Ex P K mg cR cP cB cF) : Ok P w K mg base (CY P w) "with_smoke" sWS 8 ["house", "room", "beat"] (spWS cR cB cF) := by
  obtain ⟨f, fd, D⟩ := T.d31
  obtain ⟨fC, fdC, DC, bC, GC⟩ := ok_chk (P := P) (w := w) (base := base) T
  obtain ⟨fI, fdI, DI, bI, GI⟩ := ok_NI (P := P) (w := w) (base := base) T X
  obtain ⟨fB, fdB, DB, bB, GB⟩ := ok_NB (P := P) (w := w) (base := base) T X
  refine ⟨f, fd, D, D.fn.binds (fun _ _ _ _ _ _ us hl => match us, hl with | [_, _, _], _ => rfl), D.fn.okX scWS (fun vs H Q E h => ?_) (fun cdv A outer s H vs Q E hr h => ?_)⟩
  · obtain ⟨_, _, _, _, _, rfl, _⟩ := h
    rfl
  · obtain ⟨v, x, b, k, h, rfl, hh, ok, sx, sb, k1, k2, k3, k4⟩ := h
    have hr4 : Room 4 _ := hr.mono (by decide)
    have hr5 : Room 5 _ := hr.mono (by decide)
    refine ⟨_, pss_cons (ps_set (i := 3) scWS.nd rfl (.inl rfl) (pe_call GC hr (by rfl) DC.gl DC.fn.kp bC .nil pass0 (pa_cons (pv 0) pa_nil)))
      (pss_cons (ps_expr (pe_call GI hr5 (by rfl) DI.gl DI.fn.kp bI .nil (passes_call (takes_of rfl rfl rfl rfl) (fun _ _ _ _ h => h)) (pa_cons (pv 3) (pa_cons (pv 1) pa_nil))))
      (pss_cons (ps_expr (pe_call GB hr4 (by rfl) DB.gl DB.fn.kp bB .nil (passes_call (takes_of rfl rfl rfl rfl) (fun _ _ _ _ h => h)) (pa_cons (pv 2) pa_nil)))
      (pss_one (ps_ret (pe_op op_catK (pe_slice sl_sq (pv 3) po_none (po_some pe_int)) (pe_tup (pa_cons
        (pe_op op_catK (pe_op op_catK (pe_slice sl_sq (pe_ix ix_sq (pv 3) pe_int (fun _ _ => rfl)) po_none (po_some (pv 1))) (pe_tup (pa_cons (pv 2) pa_nil)))
          (pe_slice sl_sq (pe_ix ix_sq (pv 3) pe_int (fun _ _ => rfl)) (po_some (pe_op op_add (pv 1) pe_int)) po_none)) pa_nil))))))), ?_⟩
    refine ⟨_, rfl, v, k, h, rfl, hh, ok, fun p H1 s1 hh1 => ?_⟩
    refine ⟨_, rfl, _, rfl, .ref p, x, h, rfl, hh1, ok, sx, fun i ex i0 hi => ?_, fun i ex i0 hi => (k2 i ex i0 hi).mono s1, fun hb => (k1 hb).mono s1⟩
    refine ⟨_, rfl, b, rfl, sb, fun hb => ?_, fun hb => (k3 i ex i0 hi hb).mono s1⟩
    subst ex
    obtain ⟨j, rfl, j0, j1⟩ := belQ_true hb
    obtain ⟨a, r, q, t, ws, ep, ha, hR, hq, hP, hS⟩ := hh1
    cases ep
    refine ⟨_, rfl, 2, rfl, p, true, _, rfl, ha, fun p2 G2 g2 e2 => ?_⟩
    rw [cut2] at e2
    refine ⟨_, rfl, p, true, _, 2, _, rfl, rfl, g2.get ha, atI_nat (j := 2) rfl, _, rfl, _, rfl, t, true, _, rfl, g2.get hS, fun p3 G3 g3 e3 => ?_⟩
    rw [cut_to i0] at e3
    refine ⟨_, rfl, by show 1 ≤ sizeLine; decide, fun p4 n4 => ?_⟩
    have g4 := Same.new (o := .tup [.int j]) n4
    have il : i.toNat < h.smoke.length := by
      rw [ok.sl]
      exact (List.getElem?_eq_some_iff.mp hi).1
    have sz : h.smoke.length ≤ 20 := by rw [ok.sl]; exact ok.r20
    refine ⟨p3, p4, _, _, rfl, rfl, g4.get e3, upd_same, Nat.le_of_lt (small1000 (by simp; omega)), fun p5 G5 g5 e5 => ?_⟩
    refine ⟨_, rfl, p, true, _, 2, _, rfl, rfl, g5.get (g4.get (g3.get (g2.get ha))), atI_nat (j := 2) rfl, _, rfl, i, 1, rfl, rfl, _, rfl, t, true, _, rfl, g5.get (g4.get (g3.get (g2.get hS))), fun p6 G6 g6 e6 => ?_⟩
    rw [cut_from (by omega), toN1 i0] at e6
    refine ⟨p5, p6, _, _, rfl, rfl, g6.get e5, e6, Nat.le_of_lt (small1000 (by simp; omega)), fun p7 G7 g7 e7 => ?_⟩
    rw [set_cut (by rw [List.length_map]; exact il)] at e7
    refine ⟨by show 1 ≤ sizeLine; decide, fun p8 n8 => ?_⟩
    have g8 := Same.new (o := .tup [.ref p7]) n8
    refine ⟨p2, p8, _, _, rfl, rfl, g8.get (g7.get (g6.get (g5.get (g4.get (g3.get e2))))), upd_same, by show 3 ≤ sizeLine; decide, fun p9 G9 g9 e9 => ?_⟩
    have gA := ((((((g2.trans g3).trans g4).trans g5).trans g6).trans g7).trans g8).trans g9
    refine k4 i j rfl i0 hi rfl j0 j1 p9 G9 (s1.trans gA) ⟨p9, r, q, p7, ws, rfl, e9, gA.get hR, gA.get hq, hP.mono gA, ?_⟩
    rw [show (setSm h i (some j)).smoke = h.smoke.set i.toNat (some j) from rfl, ← map_set']
    exact g9.get (g8.get e7)
end
end K5
set_option Elab.async false
set_option linter.all false
set_option maxRecDepth 100000
set_option maxHeartbeats 2000000
namespace K5
open PySem PySem.Spec PyProof.Rows L2 PySem.K5X
abbrev sWP : Stmt := top 33
abbrev sWW : Stmt := top 34
abbrev sWH : Stmt := top 35
abbrev sWO : Stmt := top 36
theorem scWP : FnScope ["house", "passage", "entry"] ["house", "passage", "entry"] (defScope sWP) := ⟨rfl, rfl, rfl, by decide +kernel, rfl, by decide +kernel, by decide +kernel⟩
theorem scWW : FnScope ["house", "passage", "many", "told", "tail", "head", "length", "width", "shut"] ["house", "passage", "many"] (defScope sWW) := ⟨rfl, rfl, rfl, by decide +kernel, rfl, by decide +kernel, by decide +kernel⟩
theorem scWH : FnScope ["house", "passage", "low", "high", "told", "tail", "head", "length", "width", "shut", "beats", "beat"] ["house", "passage", "low", "high"] (defScope sWH) := ⟨rfl, rfl, rfl, by decide +kernel, rfl, by decide +kernel, by decide +kernel⟩
theorem scWO : FnScope ["house", "passage", "low", "high", "told", "tail", "head", "length", "width", "shut", "beats", "beat"] ["house", "passage", "low", "high"] (defScope sWO) := ⟨rfl, rfl, rfl, by decide +kernel, rfl, by decide +kernel, by decide +kernel⟩
section
variable {P : Program} {w : World} {K : PySem.W.Frag} {mg : Str → Option Value} {base : Heap} {cR cP cB cF : Addr}
def spCl (cR cF : Addr) : Sp := fun vs H Q E => ∃ (v x : V) (k : Bool) (h : Hse), vs = [v, x] ∧ HseK k H v h ∧ HseOk h ∧ Sc x ∧
  (belQ h.rooms.length x = false → Er E cR "room" x H) ∧ (∀ i, x = .int i → 0 ≤ i → h.rooms[i.toNat]? = some 1 → Er E cF "at" x H) ∧
  (∀ i, x = .int i → 0 ≤ i → h.rooms[i.toNat]? = some 0 → ∀ p H', Same H H' → HseK true H' (.ref p) (setSm h i none) → Q (.ref p) H')
theorem ok_Cl (T : Tx P K mg) (X : Ex P K mg cR cP cB cF) : Ok P w K mg base (CY P w) "cleared" sCl 8 ["house", "room"] (spCl cR cF) := by
  obtain ⟨f, fd, D⟩ := T.d32
  obtain ⟨fC, fdC, DC, bC, GC⟩ := ok_chk (P := P) (w := w) (base := base) T
  obtain ⟨fI, fdI, DI, bI, GI⟩ := ok_NI (P := P) (w := w) (base := base) T X
  refine ⟨f, fd, D, D.fn.binds (fun _ _ _ _ _ _ us hl => match us, hl with | [_, _], _ => rfl), D.fn.okX scCl (fun vs H Q E h => ?_) (fun cdv A outer s H vs Q E hr h => ?_)⟩
  · obtain ⟨_, _, _, _, rfl, _⟩ := h
    rfl
  · obtain ⟨v, x, k, h, rfl, hh, ok, sx, k1, k2, k4⟩ := h
    have hr5 : Room 5 _ := hr.mono (by decide)
    refine ⟨_, pss_cons (ps_set (i := 2) scCl.nd rfl (.inl rfl) (pe_call GC hr (by rfl) DC.gl DC.fn.kp bC .nil pass0 (pa_cons (pv 0) pa_nil)))
      (pss_cons (ps_expr (pe_call GI hr5 (by rfl) DI.gl DI.fn.kp bI .nil (passes_call (takes_of rfl rfl rfl rfl) (fun _ _ _ _ h => h)) (pa_cons (pv 2) (pa_cons (pv 1) pa_nil))))
      (pss_one (ps_ret (pe_op op_catK (pe_slice sl_sq (pv 2) po_none (po_some pe_int)) (pe_tup (pa_cons
        (pe_op op_catK (pe_op op_catK (pe_slice sl_sq (pe_ix ix_sq (pv 2) pe_int (fun _ _ => rfl)) po_none (po_some (pv 1))) (pe_tup (pa_cons pe_non pa_nil)))
          (pe_slice sl_sq (pe_ix ix_sq (pv 2) pe_int (fun _ _ => rfl)) (po_some (pe_op op_add (pv 1) pe_int)) po_none)) pa_nil)))))), ?_⟩
    refine ⟨_, rfl, v, k, h, rfl, hh, ok, fun p H1 s1 hh1 => ?_⟩
    refine ⟨_, rfl, _, rfl, .ref p, x, h, rfl, hh1, ok, sx, fun i ex i0 hi => ?_, fun i ex i0 hi => (k2 i ex i0 hi).mono s1, fun hb => (k1 hb).mono s1⟩
    subst ex
    obtain ⟨a, r, q, t, ws, ep, ha, hR, hq, hP, hS⟩ := hh1
    cases ep
    refine ⟨_, rfl, 2, rfl, p, true, _, rfl, ha, fun p2 G2 g2 e2 => ?_⟩
    rw [cut2] at e2
    refine ⟨_, rfl, p, true, _, 2, _, rfl, rfl, g2.get ha, atI_nat (j := 2) rfl, _, rfl, _, rfl, t, true, _, rfl, g2.get hS, fun p3 G3 g3 e3 => ?_⟩
    rw [cut_to i0] at e3
    refine ⟨by show 1 ≤ sizeLine; decide, fun p4 n4 => ?_⟩
    have g4 := Same.new (o := .tup [.non]) n4
    have il : i.toNat < h.smoke.length := by
      rw [ok.sl]
      exact (List.getElem?_eq_some_iff.mp hi).1
    have sz : h.smoke.length ≤ 20 := by rw [ok.sl]; exact ok.r20
    refine ⟨p3, p4, _, _, rfl, rfl, g4.get e3, upd_same, Nat.le_of_lt (small1000 (by simp; omega)), fun p5 G5 g5 e5 => ?_⟩
    refine ⟨_, rfl, p, true, _, 2, _, rfl, rfl, g5.get (g4.get (g3.get (g2.get ha))), atI_nat (j := 2) rfl, _, rfl, i, 1, rfl, rfl, _, rfl, t, true, _, rfl, g5.get (g4.get (g3.get (g2.get hS))), fun p6 G6 g6 e6 => ?_⟩
    rw [cut_from (by omega), toN1 i0] at e6
    refine ⟨p5, p6, _, _, rfl, rfl, g6.get e5, e6, Nat.le_of_lt (small1000 (by simp; omega)), fun p7 G7 g7 e7 => ?_⟩
    rw [set_cut (by rw [List.length_map]; exact il)] at e7
    refine ⟨by show 1 ≤ sizeLine; decide, fun p8 n8 => ?_⟩
    have g8 := Same.new (o := .tup [.ref p7]) n8
    refine ⟨p2, p8, _, _, rfl, rfl, g8.get (g7.get (g6.get (g5.get (g4.get (g3.get e2))))), upd_same, by show 3 ≤ sizeLine; decide, fun p9 G9 g9 e9 => ?_⟩
    have gA := ((((((g2.trans g3).trans g4).trans g5).trans g6).trans g7).trans g8).trans g9
    refine k4 i rfl i0 hi p9 G9 (s1.trans gA) ⟨p9, r, q, p7, ws, rfl, e9, gA.get hR, gA.get hq, hP.mono gA, ?_⟩
    rw [show (setSm h i none).smoke = h.smoke.set i.toNat none from rfl, ← map_set']
    exact g9.get (g8.get e7)
def spWP : Sp := fun vs H Q _ => ∃ (v e : V) (i : Int) (h : Hse) (p : Pas), vs = [v, .int i, e] ∧ HseK true H v h ∧ h.pas.length ≤ 60 ∧ 0 ≤ i ∧ i.toNat < h.pas.length ∧ PasK true H e p ∧ ∀ q H', Same H H' → HseK true H' (.ref q) (setPs h i p) → Q (.ref q) H'
theorem ok_WP (T : Tx P K mg) : Ok P w K mg base CX0 "with_passage" sWP 1 ["house", "passage", "entry"] spWP := by
  obtain ⟨f, fd, D⟩ := T.d33
  refine ⟨f, fd, D, D.fn.binds (fun _ _ _ _ _ _ us hl => match us, hl with | [_, _, _], _ => rfl), D.fn.ok scWP (fun vs H Q E h => ?_) (fun cdv A outer s H vs Q E hr h => ?_)⟩
  · obtain ⟨_, _, _, _, _, rfl, _⟩ := h
    rfl
  · obtain ⟨v, e, i, h, p, rfl, ⟨a, r, q, t, ws, rfl, ha, hR, hq, hP, hS⟩, z60, i0, il, hp, Qt⟩ := h
    refine ⟨_, pss_one (ps_ret (pe_tup (pa_cons (pe_ix ix_sq (pv 0) pe_int (fun _ _ => rfl))
      (pa_cons (pe_op op_catK (pe_op op_catK (pe_slice sl_sq (pe_ix ix_sq (pv 0) pe_int (fun _ _ => rfl)) po_none (po_some (pv 1))) (pe_tup (pa_cons (pv 2) pa_nil)))
          (pe_slice sl_sq (pe_ix ix_sq (pv 0) pe_int (fun _ _ => rfl)) (po_some (pe_op op_add (pv 1) pe_int)) po_none))
      (pa_cons (pe_ix ix_sq (pv 0) pe_int (fun _ _ => rfl)) pa_nil))))), ?_⟩
    have wl := hP.1
    refine ⟨_, rfl, a, true, _, 0, _, rfl, rfl, ha, atI_nat (j := 0) rfl, ?_⟩
    refine ⟨_, rfl, a, true, _, 1, _, rfl, rfl, ha, atI_nat (j := 1) rfl, _, rfl, _, rfl, q, true, _, rfl, hq, fun p3 G3 g3 e3 => ?_⟩
    rw [cut_to i0] at e3
    refine ⟨_, rfl, by show 1 ≤ sizeLine; decide, fun p4 n4 => ?_⟩
    have g4 := Same.new (o := .tup [e]) n4
    refine ⟨p3, p4, _, _, rfl, rfl, g4.get e3, upd_same, Nat.le_of_lt (small1000 (by simp; omega)), fun p5 G5 g5 e5 => ?_⟩
    refine ⟨_, rfl, a, true, _, 1, _, rfl, rfl, g5.get (g4.get (g3.get ha)), atI_nat (j := 1) rfl, _, rfl, i, 1, rfl, rfl, _, rfl, q, true, _, rfl, g5.get (g4.get (g3.get hq)), fun p6 G6 g6 e6 => ?_⟩
    rw [cut_from (by omega), toN1 i0] at e6
    refine ⟨p5, p6, _, _, rfl, rfl, g6.get e5, e6, Nat.le_of_lt (small1000 (by simp; omega)), fun p7 G7 g7 e7 => ?_⟩
    rw [set_cut (by omega)] at e7
    have gA := (((g3.trans g4).trans g5).trans g6).trans g7
    refine ⟨_, rfl, a, true, _, 2, _, rfl, rfl, gA.get ha, atI_nat (j := 2) rfl, ?_⟩
    refine ⟨by show 3 ≤ sizeLine; decide, fun p8 n8 => ?_⟩
    have g8 := Same.new (o := .tup [.ref r, .ref p7, .ref t]) n8
    have gB := gA.trans g8
    refine Qt p8 _ gB ⟨p8, r, p7, t, _, rfl, upd_same, gB.get hR, g8.get e7, ⟨?_, fun j v pj hv hj => ?_⟩, gB.get hS⟩
    · rw [List.length_set, wl]
      exact (List.length_set ..).symm
    · by_cases ej : j = i.toNat
      · subst ej
        rw [List.getElem?_set_self (by omega)] at hv
        rw [show (setPs h i p).pas = h.pas.set i.toNat p from rfl, List.getElem?_set_self il] at hj
        cases hv
        cases hj
        exact hp.mono gB
      · rw [List.getElem?_set_ne (Ne.symm ej)] at hv
        rw [show (setPs h i p).pas = h.pas.set i.toNat p from rfl, List.getElem?_set_ne (Ne.symm ej)] at hj
        exact (hP.2 j v pj hv hj).mono gB
def spWW (cP cF : Addr) : Sp := fun vs H Q E => ∃ (v x m : V) (k : Bool) (h : Hse), vs = [v, x, m] ∧ HseK k H v h ∧ HseOk h ∧ Sc x ∧ Sc m ∧
  (belQ h.pas.length x = false → Er E cP "passage" x H) ∧
  (∀ i p, x = .int i → 0 ≤ i → h.pas[i.toNat]? = some p → belQ 10 m = false → Er E cF "at" m H) ∧
  (∀ i p j, x = .int i → 0 ≤ i → h.pas[i.toNat]? = some p → m = .int j → 0 ≤ j → j < 10 → ∀ q H', Same H H' → HseK true H' (.ref q) (setPs h i ⟨p.t, p.h, p.l, j, p.sh⟩) → Q (.ref q) H')
theorem ok_WW (T : Tx P K mg) (X : Ex P K mg cR cP cB cF) : Ok P w K mg base (CY P w) "with_width" sWW 8 ["house", "passage", "many"] (spWW cP cF) := by
  obtain ⟨f, fd, D⟩ := T.d34
  obtain ⟨fC, fdC, DC, bC, GC⟩ := ok_chk (P := P) (w := w) (base := base) T
  obtain ⟨fI, fdI, DI, bI, GI⟩ := ok_NP (P := P) (w := w) (base := base) T X
  obtain ⟨fB, fdB, DB, bB, GB⟩ := ok_bel (P := P) (w := w) (base := base) T
  obtain ⟨fW, fdW, DW, bW, GW⟩ := ok_WP (P := P) (w := w) (base := base) T
  obtain ⟨fE, TE⟩ := X.f
  obtain ⟨t19, c19⟩ := T.c19
  refine ⟨f, fd, D, D.fn.binds (fun _ _ _ _ _ _ us hl => match us, hl with | [_, _, _], _ => rfl), D.fn.okX scWW (fun vs H Q E h => ?_) (fun cdv A outer s H vs Q E hr h => ?_)⟩
  · obtain ⟨_, _, _, _, _, rfl, _⟩ := h
    rfl
  · obtain ⟨v, x, m, k, h, rfl, hh, ok, sx, sm, k1, k2, k3⟩ := h
    have hr1 : Room 1 _ := hr.mono (by decide)
    have hr3 : Room 3 _ := hr.mono (by decide)
    have hr4 : Room 4 _ := hr.mono (by decide)
    refine ⟨_, pss_cons (ps_set (i := 3) scWW.nd rfl (.inl rfl) (pe_call GC hr (by rfl) DC.gl DC.fn.kp bC .nil pass0 (pa_cons (pv 0) pa_nil)))
      (pss_cons (ps_asg (pe_ix ix_sq (pe_ix ix_sq (pv 3) pe_int (fun _ _ => rfl)) (pe_call GI hr4 (by rfl) DI.gl DI.fn.kp bI .nil (passes_call (takes_of rfl rfl rfl rfl) (fun _ _ _ _ h => h)) (pa_cons (pv 3) (pa_cons (pv 1) pa_nil))) (fun _ _ => rfl))
        (pg_sq (n := 5) rfl (pgs_cons (pg_name (i := 4) scWW.nd rfl (.inl rfl)) (pgs_cons (pg_name (i := 5) scWW.nd rfl (.inl rfl)) (pgs_cons (pg_name (i := 6) scWW.nd rfl (.inl rfl))
          (pgs_cons (pg_name (i := 7) scWW.nd rfl (.inl rfl)) (pgs_cons (pg_name (i := 8) scWW.nd rfl (.inl rfl)) pgs_nil)))))))
      (pss_cons (ps_if (pt_not (pt_val (pe_call GB hr3 (by rfl) DB.gl DB.fn.kp bB .nil pass0 (pa_cons (pv 2) (pa_cons (pe_op op_add (pe_glob (v := .int 9) (by rfl) c19 ⟨_, rfl⟩) pe_int) pa_nil)))))
        (pss_one (ps_raiseE rfl TE hr (takes_of rfl rfl rfl rfl) (pa_cons (pv 2) pa_nil))) pss_nil)
      (pss_one (ps_ret (pe_call GW hr1 (by rfl) DW.gl DW.fn.kp bW .nil pass0 (pa_cons (pv 3) (pa_cons (pv 1) (pa_cons (pe_tup (pa_cons (pv 4) (pa_cons (pv 5) (pa_cons (pv 6) (pa_cons (pv 2) (pa_cons (pv 8) pa_nil)))))) pa_nil)))))))), ?_⟩
    refine ⟨_, rfl, v, k, h, rfl, hh, ok, fun p H1 s1 hh1 => ?_⟩
    obtain ⟨a, r, q, t, ws, ep, ha, hR, hq, hP, hS⟩ := id hh1
    cases ep
    refine ⟨_, rfl, p, true, _, 1, _, rfl, rfl, ha, atI_nat (j := 1) rfl, _, rfl, _, rfl, .ref p, x, h, rfl, hh1, sx, fun hb => ?_, fun hb => (k1 hb).mono s1⟩
    obtain ⟨i, rfl, i0, i1⟩ := belQ_true hb
    have il : i.toNat < h.pas.length := by omega
    have hpi : h.pas[i.toNat]? = some h.pas[i.toNat] := List.getElem?_eq_getElem il
    generalize h.pas[i.toNat] = pa at hpi
    have wl := hP.1
    have hwi : ws[i.toNat]? = some ws[i.toNat] := List.getElem?_eq_getElem (by omega)
    obtain ⟨b, sh, eb, hb5, hsh⟩ := hP.2 _ _ _ hwi hpi
    rw [eb] at hwi
    refine ⟨q, true, _, i, _, rfl, rfl, hq, atI_int i0 hwi, ?_⟩
    refine ⟨b, true, _, rfl, hb5, rfl, _, _, rfl, _, _, rfl, _, _, rfl, _, _, rfl, _, _, rfl, rfl, ?_⟩
    refine ⟨_, rfl, 9, 1, rfl, rfl, m, 10, rfl, sm, _, rfl, ?_⟩
    cases hm : belQ 10 m with
    | false => exact iteT ⟨_, rfl, _, rfl, ((k2 i pa rfl i0 hpi hm).mono s1).new⟩
    | true =>
      obtain ⟨j, rfl, j0, j1⟩ := belQ_true hm
      refine iteF ⟨_, rfl, _, rfl, _, rfl, _, rfl, _, rfl, _, rfl, _, rfl, by show 5 ≤ sizeLine; decide, fun p5 n5 => ?_⟩
      have g5 := Same.new (o := .tup [.int pa.t, .int pa.h, .int pa.l, .int j, .ref sh]) n5
      exact ⟨.ref p, .ref p5, i, h, ⟨pa.t, pa.h, pa.l, j, pa.sh⟩, rfl, hh1.mono g5, ok.p60, i0, il, ⟨p5, sh, rfl, upd_same, g5.get hsh⟩, fun q' H' s' hq' => k3 i pa j rfl i0 hpi rfl j0 j1 q' H' ((s1.trans g5).trans s') hq'⟩
end
end K5
set_option Elab.async false
set_option linter.all false
set_option maxRecDepth 100000
set_option maxHeartbeats 2000000
namespace K5
open PySem PySem.Spec PyProof.Rows L2 PySem.K5X
/-- the beats of a bound that are shut or between two -/
def upTo (sh : List Int) (a b : Int) (n : Nat) : List Int := ((List.range n).map fun (x : Nat) => (x : Int)).filter fun x => decide (x ∈ sh) || (decide (a ≤ x) && decide (x ≤ b))
def shutB (sh : List Int) (a b : Int) : List Int := upTo sh a b 60
def openB (sh : List Int) (a b : Int) : List Int := sh.filter fun x => !(decide (a ≤ x) && decide (x ≤ b))
theorem upTo_succ (sh : List Int) (a b : Int) (n : Nat) : upTo sh a b (n + 1) = upTo sh a b n ++ (if (decide ((n : Int) ∈ sh) || (decide (a ≤ (n : Int)) && decide ((n : Int) ≤ b))) = true then [(n : Int)] else []) := by
  unfold upTo
  rw [List.range_succ, List.map_append, List.filter_append]
  congr 1
  rw [List.map_cons, List.map_nil, List.filter_cons]
  split <;> rfl
theorem upTo_len (sh : List Int) (a b : Int) (n : Nat) : (upTo sh a b n).length ≤ n := by
  refine Nat.le_trans (List.length_filter_le _ _) ?_
  rw [List.length_map, List.length_range]
  exact Nat.le_refl n
theorem inV_int {x : Int} {ns : List Int} : inV (.int x) (ns.map V.int) = decide (x ∈ ns) := by
  unfold inV
  rw [Bool.eq_iff_iff, List.any_eq_true, decide_eq_true_eq]
  constructor
  · rintro ⟨y, hy, e⟩
    obtain ⟨n, hn, rfl⟩ := List.mem_map.mp hy
    have e' : n = x := by simpa [eqV] using e
    rw [← e']
    exact hn
  · intro h
    exact ⟨.int x, List.mem_map.mpr ⟨x, h, rfl⟩, by simp [eqV]⟩
theorem flat_ints {ns : List Int} : (ns.map V.int).all flatV = true := by
  rw [List.all_eq_true]
  intro y hy
  obtain ⟨n, _, rfl⟩ := List.mem_map.mp hy
  rfl
section
variable {P : Program} {w : World} {K : PySem.W.Frag} {mg : Str → Option Value} {base : Heap} {cR cP cB cF : Addr}
def spWH (g : List Int → Int → Int → List Int) (cP cB : Addr) : Sp := fun vs H Q E => ∃ (v x lo hi : V) (k : Bool) (h : Hse), vs = [v, x, lo, hi] ∧ HseK k H v h ∧ HseOk h ∧ Sc x ∧ Sc lo ∧ Sc hi ∧
  (belQ h.pas.length x = false → Er E cP "passage" x H) ∧
  (∀ i p, x = .int i → 0 ≤ i → h.pas[i.toNat]? = some p → belQ 60 lo = false → Er E cB "beat" lo H) ∧
  (∀ i p, x = .int i → 0 ≤ i → h.pas[i.toNat]? = some p → belQ 60 lo = true → belQ 60 hi = false → Er E cB "beat" hi H) ∧
  (∀ i p a b, x = .int i → 0 ≤ i → h.pas[i.toNat]? = some p → lo = .int a → hi = .int b → 0 ≤ a → a < 60 → 0 ≤ b → b < 60 → ∀ q H', Same H H' → HseK true H' (.ref q) (setPs h i ⟨p.t, p.h, p.l, p.w, g p.sh a b⟩) → Q (.ref q) H')
theorem ok_WH (T : Tx P K mg) (X : Ex P K mg cR cP cB cF) : Ok P w K mg base (CY P w) "with_shut" sWH 8 ["house", "passage", "low", "high"] (spWH shutB cP cB) := by
  obtain ⟨f, fd, D⟩ := T.d35
  obtain ⟨fC, fdC, DC, bC, GC⟩ := ok_chk (P := P) (w := w) (base := base) T
  obtain ⟨fI, fdI, DI, bI, GI⟩ := ok_NP (P := P) (w := w) (base := base) T X
  obtain ⟨fB, fdB, DB, bB, GB⟩ := ok_NB (P := P) (w := w) (base := base) T X
  obtain ⟨fW, fdW, DW, bW, GW⟩ := ok_WP (P := P) (w := w) (base := base) T
  obtain ⟨t15, c15⟩ := T.c15
  refine ⟨f, fd, D, D.fn.binds (fun _ _ _ _ _ _ us hl => match us, hl with | [_, _, _, _], _ => rfl), D.fn.okX scWH (fun vs H Q E h => ?_) (fun cdv A outer s H vs Q E hr h => ?_)⟩
  · obtain ⟨_, _, _, _, _, _, rfl, _⟩ := h
    rfl
  · obtain ⟨v, x, lo, hi, k, h, rfl, hh, ok, sx, sl, sh', k1, k2, k3, k4⟩ := h
    have hr1 : Room 1 _ := hr.mono (by decide)
    have hr4 : Room 4 _ := hr.mono (by decide)
    refine ⟨_, pss_cons (ps_set (i := 4) scWH.nd rfl (.inl rfl) (pe_call GC hr (by rfl) DC.gl DC.fn.kp bC .nil pass0 (pa_cons (pv 0) pa_nil)))
      (pss_cons (ps_asg (pe_ix ix_sq (pe_ix ix_sq (pv 4) pe_int (fun _ _ => rfl)) (pe_call GI hr4 (by rfl) DI.gl DI.fn.kp bI .nil (passes_call (takes_of rfl rfl rfl rfl) (fun _ _ _ _ h => h)) (pa_cons (pv 4) (pa_cons (pv 1) pa_nil))) (fun _ _ => rfl))
        (pg_sq (n := 5) rfl (pgs_cons (pg_name (i := 5) scWH.nd rfl (.inl rfl)) (pgs_cons (pg_name (i := 6) scWH.nd rfl (.inl rfl)) (pgs_cons (pg_name (i := 7) scWH.nd rfl (.inl rfl))
          (pgs_cons (pg_name (i := 8) scWH.nd rfl (.inl rfl)) (pgs_cons (pg_name (i := 9) scWH.nd rfl (.inr rfl)) pgs_nil)))))))
      (pss_cons (ps_expr (pe_call GB hr4 (by rfl) DB.gl DB.fn.kp bB .nil (passes_call (takes_of rfl rfl rfl rfl) (fun _ _ _ _ h => h)) (pa_cons (pv 2) pa_nil)))
      (pss_cons (ps_expr (pe_call GB hr4 (by rfl) DB.gl DB.fn.kp bB .nil (passes_call (takes_of rfl rfl rfl rfl) (fun _ _ _ _ h => h)) (pa_cons (pv 3) pa_nil)))
      (pss_cons (ps_setLc (i := 10) (own := [("beat", 11)]) (g := gName 11) (tt := tOr (tTest (tOp (rIn K false) (tVar 11) (tVar 9))) (tTest (tChain (rI0 fun i j => .bl (decide (i ≤ j))) (rI0 fun i j => .bl (decide (i ≤ j))) (tVar 2) (tVar 11) (tVar 3)))) rfl scWH.nd rfl rfl (sw_true rfl rfl rfl (by decide +kernel))
        (pi_range1 rfl T.bi.range (pa_cons (pe_glob (v := .int 60) (by rfl) c15 ⟨_, rfl⟩) pa_nil))
        (blkOk_by (N := ["house", "passage", "low", "high", "told", "tail", "head", "length", "width", "shut", "beats", "beat"]) (sc := defScope sWH) (by decide +kernel))
        (fun _ _ _ _ _ => pg_name (i := 11) scWH.nd rfl (.inl rfl))
        (fun _ _ _ _ _ => pts_one (PW.pt (pw_or (pt_cmpR op_in_seq (pv 11) (pv 9) (by rfl)) (pw_or1 (pt_chain op_le op_le (pv 2) (pv 11) (pv 3)))))) (fun _ _ _ _ _ => pv 11))
      (pss_one (ps_ret (pe_call GW hr1 (by rfl) DW.gl DW.fn.kp bW .nil pass0 (pa_cons (pv 4) (pa_cons (pv 1) (pa_cons (pe_tup (pa_cons (pv 5) (pa_cons (pv 6) (pa_cons (pv 7) (pa_cons (pv 8)
        (pa_cons (pe_callTy call_tupOf (by rfl) T.bi.tuple (by decide +kernel) (pa_cons (pv 10) pa_nil)) pa_nil)))))) pa_nil)))))))))), ?_⟩
    refine ⟨_, rfl, v, k, h, rfl, hh, ok, fun p H1 s1 hh1 => ?_⟩
    obtain ⟨a, r, q, t, ws, ep, ha, hR, hq, hP, hS⟩ := id hh1
    cases ep
    refine ⟨_, rfl, p, true, _, 1, _, rfl, rfl, ha, atI_nat (j := 1) rfl, _, rfl, _, rfl, .ref p, x, h, rfl, hh1, sx, fun hb => ?_, fun hb => (k1 hb).mono s1⟩
    obtain ⟨i, rfl, i0, i1⟩ := belQ_true hb
    have il : i.toNat < h.pas.length := by omega
    have hpi : h.pas[i.toNat]? = some h.pas[i.toNat] := List.getElem?_eq_getElem il
    generalize h.pas[i.toNat] = pa at hpi
    have pk := ok.pk pa (List.mem_of_getElem? hpi)
    have wl := hP.1
    have hwi : ws[i.toNat]? = some ws[i.toNat] := List.getElem?_eq_getElem (by omega)
    obtain ⟨b, sh, eb, hb5, hsh⟩ := hP.2 _ _ _ hwi hpi
    rw [eb] at hwi
    refine ⟨q, true, _, i, _, rfl, rfl, hq, atI_int i0 hwi, ?_⟩
    refine ⟨b, true, _, rfl, hb5, rfl, _, _, rfl, _, _, rfl, _, _, rfl, _, _, rfl, _, _, rfl, rfl, ?_⟩
    refine ⟨_, rfl, lo, rfl, sl, fun hl => ?_, fun hl => (k2 i pa rfl i0 hpi hl).mono s1⟩
    refine ⟨_, rfl, hi, rfl, sh', fun hh => ?_, fun hh => (k3 i pa rfl i0 hpi hl hh).mono s1⟩
    obtain ⟨la, rfl, la0, la1⟩ := belQ_true hl
    obtain ⟨hb, rfl, hb0, hb1⟩ := belQ_true hh
    refine ⟨60, rfl, by decide, by decide, fun D hD => ?_⟩
    refine lc_acc walk_range B0 (fun _ => True) (fun n acc _ => acc = (upTo pa.sh la hb n).map V.int) (by decide) hD (fun z => z) True.intro (fun _ _ _ _ => True.intro) rfl (fun _ _ _ => True.intro) (fun n x H H' acc Nk Ns hn s _ eD hl hacc y fin skip => ?_) fun H2 acc s2 _ eD hl hacc => ?_
    · obtain ⟨rfl, rfl⟩ := y
      show gName 11 (.int (0 + (n : Int))) _ _ _
      rw [Int.zero_add]
      have hsh2 := s.same.get hsh
      refine ⟨rfl, _, rfl, _, rfl, sh, _, rfl, .inr (sqT hsh2), rfl, flat_ints, _, rfl, ?_⟩
      rw [if_neg Bool.false_ne_true, inV_int]
      by_cases hm : (n : Int) ∈ pa.sh
      · rw [decide_eq_true hm]
        refine iteT (iteT ⟨_, rfl, fin _ _ (SB.refl _ _) True.intro ?_⟩)
        rw [hacc, upTo_succ, decide_eq_true hm, if_pos (by rfl), List.map_append]
        rfl
      · rw [decide_eq_false hm]
        refine iteF ⟨_, rfl, _, rfl, la, n, rfl, rfl, _, rfl, ?_⟩
        by_cases h1 : la ≤ (n : Int)
        · refine iteDT h1 ⟨_, rfl, n, hb, rfl, rfl, _, rfl, ?_⟩
          by_cases h2 : (n : Int) ≤ hb
          · refine iteDT h2 ⟨_, rfl, fin _ _ (SB.refl _ _) True.intro ?_⟩
            rw [hacc, upTo_succ, decide_eq_true h1, decide_eq_true h2, if_pos (by simp), List.map_append]
            rfl
          · refine iteDF h2 (skip _ (SB.refl _ _) True.intro ?_)
            rw [hacc, upTo_succ, decide_eq_false h2, decide_eq_false hm, if_neg (by simp), List.append_nil]
        · refine iteDF h1 ⟨_, rfl, iteF (skip _ (SB.refl _ _) True.intro ?_)⟩
          rw [hacc, upTo_succ, decide_eq_false h1, decide_eq_false hm, if_neg (by simp), List.append_nil]
    · have s2' := s2.same
      refine ⟨_, rfl, _, rfl, _, rfl, _, rfl, _, rfl, _, rfl, _, rfl, D, false, _, rfl, eD, fun p4 G4 g4 e4 => ?_⟩
      refine ⟨by show 5 ≤ sizeLine; decide, fun p5 n5 => ?_⟩
      have g5 := Same.new (o := .tup [.int pa.t, .int pa.h, .int pa.l, .int pa.w, .ref p4]) n5
      have gA := (s2'.trans g4).trans g5
      refine ⟨.ref p, .ref p5, i, h, ⟨pa.t, pa.h, pa.l, pa.w, shutB pa.sh la hb⟩, rfl, hh1.mono gA, ok.p60, i0, il, ⟨p5, p4, rfl, upd_same, ?_⟩, fun q' H' s' hq' => k4 i pa la hb rfl i0 hpi rfl rfl la0 la1 hb0 hb1 q' H' ((s1.trans gA).trans s') hq'⟩
      rw [hacc] at e4
      exact g5.get e4
theorem ok_WO (T : Tx P K mg) (X : Ex P K mg cR cP cB cF) : Ok P w K mg base (CY P w) "with_open" sWO 8 ["house", "passage", "low", "high"] (spWH openB cP cB) := by
  obtain ⟨f, fd, D⟩ := T.d36
  obtain ⟨fC, fdC, DC, bC, GC⟩ := ok_chk (P := P) (w := w) (base := base) T
  obtain ⟨fI, fdI, DI, bI, GI⟩ := ok_NP (P := P) (w := w) (base := base) T X
  obtain ⟨fB, fdB, DB, bB, GB⟩ := ok_NB (P := P) (w := w) (base := base) T X
  obtain ⟨fW, fdW, DW, bW, GW⟩ := ok_WP (P := P) (w := w) (base := base) T
  refine ⟨f, fd, D, D.fn.binds (fun _ _ _ _ _ _ us hl => match us, hl with | [_, _, _, _], _ => rfl), D.fn.okX scWO (fun vs H Q E h => ?_) (fun cdv A outer s H vs Q E hr h => ?_)⟩
  · obtain ⟨_, _, _, _, _, _, rfl, _⟩ := h
    rfl
  · obtain ⟨v, x, lo, hi, k, h, rfl, hh, ok, sx, sl, sh', k1, k2, k3, k4⟩ := h
    have hr1 : Room 1 _ := hr.mono (by decide)
    have hr4 : Room 4 _ := hr.mono (by decide)
    refine ⟨_, pss_cons (ps_set (i := 4) scWO.nd rfl (.inl rfl) (pe_call GC hr (by rfl) DC.gl DC.fn.kp bC .nil pass0 (pa_cons (pv 0) pa_nil)))
      (pss_cons (ps_asg (pe_ix ix_sq (pe_ix ix_sq (pv 4) pe_int (fun _ _ => rfl)) (pe_call GI hr4 (by rfl) DI.gl DI.fn.kp bI .nil (passes_call (takes_of rfl rfl rfl rfl) (fun _ _ _ _ h => h)) (pa_cons (pv 4) (pa_cons (pv 1) pa_nil))) (fun _ _ => rfl))
        (pg_sq (n := 5) rfl (pgs_cons (pg_name (i := 5) scWO.nd rfl (.inl rfl)) (pgs_cons (pg_name (i := 6) scWO.nd rfl (.inl rfl)) (pgs_cons (pg_name (i := 7) scWO.nd rfl (.inl rfl))
          (pgs_cons (pg_name (i := 8) scWO.nd rfl (.inl rfl)) (pgs_cons (pg_name (i := 9) scWO.nd rfl (.inl rfl)) pgs_nil)))))))
      (pss_cons (ps_expr (pe_call GB hr4 (by rfl) DB.gl DB.fn.kp bB .nil (passes_call (takes_of rfl rfl rfl rfl) (fun _ _ _ _ h => h)) (pa_cons (pv 2) pa_nil)))
      (pss_cons (ps_expr (pe_call GB hr4 (by rfl) DB.gl DB.fn.kp bB .nil (passes_call (takes_of rfl rfl rfl rfl) (fun _ _ _ _ h => h)) (pa_cons (pv 3) pa_nil)))
      (pss_cons (ps_setLc (i := 10) (own := [("beat", 11)]) (g := gName 11) (tt := tNot (tTest (tChain (rI0 fun i j => .bl (decide (i ≤ j))) (rI0 fun i j => .bl (decide (i ≤ j))) (tVar 2) (tVar 11) (tVar 3)))) rfl scWO.nd rfl rfl (sw_true rfl rfl rfl (by decide +kernel))
        (pi_sq (pv 9))
        (blkOk_by (N := ["house", "passage", "low", "high", "told", "tail", "head", "length", "width", "shut", "beats", "beat"]) (sc := defScope sWO) (by decide +kernel))
        (fun _ _ _ _ _ => pg_name (i := 11) scWO.nd rfl (.inl rfl))
        (fun _ _ _ _ _ => pts_one (pt_not (pt_chain op_le op_le (pv 2) (pv 11) (pv 3)))) (fun _ _ _ _ _ => pv 11))
      (pss_one (ps_ret (pe_call GW hr1 (by rfl) DW.gl DW.fn.kp bW .nil pass0 (pa_cons (pv 4) (pa_cons (pv 1) (pa_cons (pe_tup (pa_cons (pv 5) (pa_cons (pv 6) (pa_cons (pv 7) (pa_cons (pv 8)
        (pa_cons (pe_callTy call_tupOf (by rfl) T.bi.tuple (by decide +kernel) (pa_cons (pv 10) pa_nil)) pa_nil)))))) pa_nil)))))))))), ?_⟩
    refine ⟨_, rfl, v, k, h, rfl, hh, ok, fun p H1 s1 hh1 => ?_⟩
    obtain ⟨a, r, q, t, ws, ep, ha, hR, hq, hP, hS⟩ := id hh1
    cases ep
    refine ⟨_, rfl, p, true, _, 1, _, rfl, rfl, ha, atI_nat (j := 1) rfl, _, rfl, _, rfl, .ref p, x, h, rfl, hh1, sx, fun hb => ?_, fun hb => (k1 hb).mono s1⟩
    obtain ⟨i, rfl, i0, i1⟩ := belQ_true hb
    have il : i.toNat < h.pas.length := by omega
    have hpi : h.pas[i.toNat]? = some h.pas[i.toNat] := List.getElem?_eq_getElem il
    generalize h.pas[i.toNat] = pa at hpi
    have pk := ok.pk pa (List.mem_of_getElem? hpi)
    have wl := hP.1
    have hwi : ws[i.toNat]? = some ws[i.toNat] := List.getElem?_eq_getElem (by omega)
    obtain ⟨b, sh, eb, hb5, hsh⟩ := hP.2 _ _ _ hwi hpi
    rw [eb] at hwi
    refine ⟨q, true, _, i, _, rfl, rfl, hq, atI_int i0 hwi, ?_⟩
    refine ⟨b, true, _, rfl, hb5, rfl, _, _, rfl, _, _, rfl, _, _, rfl, _, _, rfl, _, _, rfl, rfl, ?_⟩
    refine ⟨_, rfl, lo, rfl, sl, fun hl => ?_, fun hl => (k2 i pa rfl i0 hpi hl).mono s1⟩
    refine ⟨_, rfl, hi, rfl, sh', fun hh => ?_, fun hh => (k3 i pa rfl i0 hpi hl hh).mono s1⟩
    obtain ⟨la, rfl, la0, la1⟩ := belQ_true hl
    obtain ⟨hb, rfl, hb0, hb1⟩ := belQ_true hh
    refine ⟨_, rfl, sh, true, _, rfl, hsh, fun D hD => ?_⟩
    refine lc_acc walk_sq B0 (fun _ => True) (fun n acc _ => acc = (openB (pa.sh.take n) la hb).map V.int) (by rw [List.length_map]; have := pk.len; omega) hD (fun z => z) True.intro (fun _ _ _ _ => True.intro) rfl (fun _ s _ => s.same.get hsh) (fun n x H H' acc Nk Ns hn s _ eD hl hacc y fin skip => ?_) fun H2 acc s2 _ eD hl hacc => ?_
    · obtain ⟨rfl, hv⟩ := y
      rw [List.getElem?_map] at hv
      obtain ⟨z, hz, rfl⟩ := Option.map_eq_some_iff.mp hv
      have stp : openB (pa.sh.take (n + 1)) la hb = openB (pa.sh.take n) la hb ++ (if (!(decide (la ≤ z) && decide (z ≤ hb))) = true then [z] else []) := by
        unfold openB
        rw [List.take_add_one, hz, List.filter_append]
        congr 1
        show List.filter _ [z] = _
        rw [List.filter_cons]
        split <;> rfl
      refine ⟨rfl, _, rfl, _, rfl, la, z, rfl, rfl, _, rfl, ?_⟩
      by_cases h1 : la ≤ z
      · refine iteDT h1 ⟨_, rfl, z, hb, rfl, rfl, _, rfl, ?_⟩
        by_cases h2 : z ≤ hb
        · refine iteNF h2 (skip _ (SB.refl _ _) True.intro ?_)
          rw [hacc, stp, decide_eq_true h1, decide_eq_true h2, if_neg (by simp), List.append_nil]
        · refine iteNT h2 ⟨_, rfl, fin _ _ (SB.refl _ _) True.intro ?_⟩
          rw [hacc, stp, decide_eq_false h2, if_pos (by simp), List.map_append]
          rfl
      · refine iteDF h1 ⟨_, rfl, iteT ⟨_, rfl, fin _ _ (SB.refl _ _) True.intro ?_⟩⟩
        rw [hacc, stp, decide_eq_false h1, if_pos (by simp), List.map_append]
        rfl
    · have s2' := s2.same
      refine ⟨_, rfl, _, rfl, _, rfl, _, rfl, _, rfl, _, rfl, _, rfl, D, false, _, rfl, eD, fun p4 G4 g4 e4 => ?_⟩
      refine ⟨by show 5 ≤ sizeLine; decide, fun p5 n5 => ?_⟩
      have g5 := Same.new (o := .tup [.int pa.t, .int pa.h, .int pa.l, .int pa.w, .ref p4]) n5
      have gA := (s2'.trans g4).trans g5
      refine ⟨.ref p, .ref p5, i, h, ⟨pa.t, pa.h, pa.l, pa.w, openB pa.sh la hb⟩, rfl, hh1.mono gA, ok.p60, i0, il, ⟨p5, p4, rfl, upd_same, ?_⟩, fun q' H' s' hq' => k4 i pa la hb rfl i0 hpi rfl rfl la0 la1 hb0 hb1 q' H' ((s1.trans gA).trans s') hq'⟩
      rw [hacc, List.length_map, List.take_length] at e4
      exact g5.get e4
end
end K5
set_option Elab.async false
set_option linter.all false
set_option maxRecDepth 100000
set_option maxHeartbeats 2000000
namespace K5
open PySem PySem.Spec PyProof.Rows L2 PySem.K5X
/-- the box of draws at b -/
def Bx (H : Hp) (b : Addr) : Prop := ∃ g s : Int, H b = some (.lst [.int g, .int s]) ∧ 0 ≤ g ∧ 0 ≤ s
/-- all but the box -/
abbrev SX (b : Addr) : Hp → Hp → Prop := SB (fun a => a = b)
theorem Bx.same {H H' : Hp} {b : Addr} (h : Bx H b) (s : Same H H') : Bx H' b := by
  obtain ⟨g, t, e, h1, h2⟩ := h
  exact ⟨g, t, s.get e, h1, h2⟩
theorem SX.new {H : Hp} {b p : Addr} {o : HO} (h : H p = none) : SX b H (upd H p o) := SB.of (Same.new h)
theorem SX.tup {H H' : Hp} {b a : Addr} {xs : List V} (s : SX b H H') (hb : Bx H b) (h : H a = some (.tup xs)) : H' a = some (.tup xs) := by
  obtain ⟨g, t, e, _⟩ := hb
  exact s a _ (ne_of h e (fun z => nomatch z)) h
abbrev sTake : Stmt := top 39
abbrev sPick : Stmt := top 40
abbrev sBox : Stmt := top 38
theorem scTake : FnScope ["_law_box_here", "_law_many", "_law_digit", "_law_raw"] ["_law_box_here", "_law_many"] (defScope sTake) := ⟨rfl, rfl, rfl, by decide +kernel, rfl, by decide +kernel, by decide +kernel⟩
theorem scPick : FnScope ["_law_box_here", "_law_some"] ["_law_box_here", "_law_some"] (defScope sPick) := ⟨rfl, rfl, rfl, by decide +kernel, rfl, by decide +kernel, by decide +kernel⟩
theorem scBox : FnScope ["_law_script", "_law_k", "_law_cell", "_law_great"] ["_law_script", "_law_k"] (defScope sBox) := ⟨rfl, rfl, rfl, by decide +kernel, rfl, by decide +kernel, by decide +kernel⟩
section
variable {P : Program} {w : World} {K : PySem.W.Frag} {mg : Str → Option Value} {base : Heap} {cR cP cB cF : Addr}
def spTake : Sp := fun vs H Q _ => ∃ (b : Addr) (m : Int), vs = [.ref b, .int m] ∧ Bx H b ∧ 0 < m ∧ m < 1073741824 ∧ ∀ n H', 0 ≤ n → n < m → Bx H' b → SX b H H' → Q (.int n) H'
theorem ok_take (T : Tx P K mg) : Ok P w K mg base CX0 "_law_take" sTake 1 ["_law_box_here", "_law_many"] spTake := by
  obtain ⟨f, fd, D⟩ := T.d39
  refine ⟨f, fd, D, D.fn.binds (fun _ _ _ _ _ _ us hl => match us, hl with | [_, _], _ => rfl), D.fn.ok scTake (fun vs H Q E h => ?_) (fun cdv A outer s H vs Q E hr h => ?_)⟩
  · obtain ⟨_, _, rfl, _⟩ := h
    rfl
  · obtain ⟨b, m, rfl, ⟨g, t, hb, g0, t0⟩, m0, m1, q⟩ := h
    refine ⟨_, pss_cons (ps_if (pt_cmpR op_gt (pe_ix ix_list (pv 0) pe_int (fun _ _ => rfl)) pe_int (nomark _))
        (pss_cons (ps_set (i := 2) scTake.nd rfl (.inl rfl) (pe_op op_mod (pe_callTy call_int1 (by rfl) T.bi.int (by decide +kernel) (pa_cons (pe_ix ix_list (pv 0) pe_int (fun _ _ => rfl)) pa_nil)) (pv 1)))
        (pss_cons (ps_asg (pe_op op_fdiv (pe_ix ix_list (pv 0) pe_int (fun _ _ => rfl)) (pv 1)) (pg_sub (pv 0) pe_int set_list))
        (pss_one (ps_ret (pv 2))))) pss_nil)
      (pss_cons (ps_set (i := 3) scTake.nd rfl (.inl rfl) (pe_op op_mod (pe_callTy call_int1 (by rfl) T.bi.int (by decide +kernel) (pa_cons (pe_op op_add (pe_op op_mul (pe_ix ix_list (pv 0) pe_int (fun _ _ => rfl)) pe_int) pe_int) pa_nil)) pe_int))
      (pss_cons (ps_asg (pe_op op_add (pe_op op_mod (pe_callTy call_int1 (by rfl) T.bi.int (by decide +kernel) (pa_cons (pe_op op_add (pe_op op_mul (pv 3) pe_int) pe_int) pa_nil)) pe_int) pe_int) (pg_sub (pv 0) pe_int set_list))
      (pss_one (ps_ret (pe_op op_mod (pe_callTy call_int1 (by rfl) T.bi.int (by decide +kernel) (pa_cons (pe_op op_fdiv (pe_op op_add (pe_op op_mul (pv 3) pe_int) (pe_ix ix_list (pv 0) pe_int (fun _ _ => rfl))) pe_int) pa_nil)) (pv 1)))))), ?_⟩
    have ix0 : ∀ {x y : V}, atI [x, y] 0 = some x := fun {x y} => atI_nat (j := 0) rfl
    have ix1 : ∀ {x y : V}, atI [x, y] 1 = some y := fun {x y} => atI_nat (j := 1) rfl
    refine ⟨_, rfl, b, _, 0, _, rfl, rfl, sqL hb, ix0, g, 0, rfl, rfl, _, rfl, ?_⟩
    by_cases hg : 0 < g
    · refine iteDT hg ⟨_, rfl, b, _, 0, _, rfl, rfl, sqL hb, ix0, .inl ⟨g, rfl, _, rfl, g, m, rfl, rfl, m0, ?_⟩⟩
      refine ⟨_, rfl, b, _, 0, _, rfl, rfl, sqL hb, ix0, _, rfl, g, m, rfl, rfl, ⟨m0, m1⟩, ?_⟩
      refine ⟨_, rfl, b, _, _, 0, rfl, rfl, hb, rfl, ?_⟩
      refine ⟨_, rfl, q _ _ (Int.emod_nonneg _ (by omega)) (Int.emod_lt_of_pos _ m0) ⟨_, _, upd_same, Int.ediv_nonneg g0 (by omega), t0⟩ ?_⟩
      exact fun a x n e => by rw [upd_ne n]; exact e
    · refine iteDF hg ⟨_, rfl, b, _, 1, _, rfl, rfl, sqL hb, ix1, t, 40692, rfl, rfl, .inr (by decide), _, 79, rfl, rfl, .inl ⟨_, rfl, _, 2147483399, rfl, rfl, (by show (0 : Int) < 2147483399; decide), ?_⟩⟩
      have u0 : 0 ≤ ((t * 40692 + 79) % 2147483399 * 39373 + 31) % 2147483587 := Int.emod_nonneg _ (by decide)
      refine ⟨_, rfl, _, 39373, rfl, rfl, .inr (by decide), _, 31, rfl, rfl, .inl ⟨_, rfl, _, 2147483587, rfl, rfl, (by show (0 : Int) < 2147483587; decide), _, 1, rfl, rfl, ?_⟩⟩
      refine ⟨_, rfl, b, _, _, 1, rfl, rfl, hb, rfl, ?_⟩
      have hb2 : upd H b (.lst [.int g, .int (((t * 40692 + 79) % 2147483399 * 39373 + 31) % 2147483587 + 1)]) b = some (.lst [.int g, .int (((t * 40692 + 79) % 2147483399 * 39373 + 31) % 2147483587 + 1)]) := upd_same
      refine ⟨_, rfl, _, 2147483629, rfl, rfl, .inr (by decide), _, rfl, b, _, 1, _, rfl, rfl, sqL hb2, ix1, _, _, rfl, rfl, _, 8167, rfl, rfl, ⟨(by show (0 : Int) < 8167; decide), (by show (8167 : Int) < 1073741824; decide)⟩, .inl ⟨_, rfl, _, rfl, _, m, rfl, rfl, m0, ?_⟩⟩
      exact q _ _ (Int.emod_nonneg _ (by omega)) (Int.emod_lt_of_pos _ m0) ⟨_, _, hb2, g0, by omega⟩ fun a x n e => by rw [upd_ne n]; exact e
def spPick : Sp := fun vs H Q _ => ∃ (b a : Addr) (k : Bool) (xs : List V), vs = [.ref b, .ref a] ∧ Bx H b ∧ a ≠ b ∧ H a = some (sq k xs) ∧ 0 < xs.length ∧ xs.length ≤ 1000 ∧ ∀ (i : Nat) x H', xs[i]? = some x → Bx H' b → SX b H H' → Q x H'
theorem ok_pick (T : Tx P K mg) : Ok P w K mg base CX0 "_law_pick" sPick 2 ["_law_box_here", "_law_some"] spPick := by
  obtain ⟨f, fd, D⟩ := T.d40
  obtain ⟨fT, fdT, DT, bT, GT⟩ := ok_take (P := P) (w := w) (base := base) T
  refine ⟨f, fd, D, D.fn.binds (fun _ _ _ _ _ _ us hl => match us, hl with | [_, _], _ => rfl), D.fn.ok scPick (fun vs H Q E h => ?_) (fun cdv A outer s H vs Q E hr h => ?_)⟩
  · obtain ⟨_, _, _, _, rfl, _⟩ := h
    rfl
  · obtain ⟨b, a, k, xs, rfl, hb, ne, ha, l0, l1, q⟩ := h
    refine ⟨_, pss_one (ps_ret (pe_ix ix_sq (pv 1) (pe_call GT hr (by rfl) DT.gl DT.fn.kp bT .nil pass0 (pa_cons (pv 0) (pa_cons (pe_callB call_lenOf (by rfl) T.bi.len PySem.boot_len (pa_cons (pv 1) pa_nil)) pa_nil))) (fun _ _ => rfl))), ?_⟩
    refine ⟨_, rfl, _, rfl, _, rfl, a, k, xs, rfl, ha, b, _, rfl, hb, by omega, by omega, fun n H1 n0 n1 hb1 s1 => ?_⟩
    have hn : xs[n.toNat]? = some xs[n.toNat] := List.getElem?_eq_getElem (by omega)
    exact ⟨a, k, xs, n, _, rfl, rfl, s1 a _ ne ha, atI_int n0 hn, q n.toNat _ H1 hn hb1 s1⟩
/-- the script's ints at a -/
def spBox (K : PySem.W.Frag) : Sp := fun vs H Q _ => ∃ (a : Addr) (ns : List Int) (k : Int), vs = [.ref a, .int k] ∧ SqL K H a (ns.map V.int) ∧ ns.length ≤ 63 ∧ 0 ≤ k ∧ k < 3 ∧ ∀ b H', Same H H' → H b = none → Bx H' b → Q (.ref b) H'
theorem ok_box (T : Tx P K mg) : Ok P w K mg base CX0 "_law_box" sBox 1 ["_law_script", "_law_k"] (spBox K) := by
  obtain ⟨f, fd, D⟩ := T.d38
  refine ⟨f, fd, D, D.fn.binds (fun _ _ _ _ _ _ us hl => match us, hl with | [_, _], _ => rfl), D.fn.ok scBox (fun vs H Q E h => ?_) (fun cdv A outer s H vs Q E hr h => ?_)⟩
  · obtain ⟨_, _, _, rfl, _⟩ := h
    rfl
  · obtain ⟨a, ns, k, rfl, hs, hl, k0, k3, q⟩ := h
    refine ⟨_, pss_cons (ps_set (i := 2) scBox.nd rfl (.inl rfl) (pe_op op_add (pe_op op_mul pe_int (pv 1)) pe_int))
      (C8.pss_cut (ps_if (pt_cmpR op_lt (pv 1) (pe_callB call_len_seq (by rfl) T.bi.len PySem.boot_len (pa_cons (pv 0) pa_nil)) (nomark _))
        (pss_one (ps_set (i := 2) scBox.nd rfl (.inl rfl) (pe_callB call_abs (by rfl) T.bi.abs (by decide +kernel) (pa_cons (pe_callTy call_int1 (by rfl) T.bi.int (by decide +kernel) (pa_cons (pe_ix ix_list (pv 0) (pv 1) (fun _ _ => rfl)) pa_nil)) pa_nil))))
        (pss_one (ps_if (pt_cmpR op_gt (pe_callB call_len_seq (by rfl) T.bi.len PySem.boot_len (pa_cons (pv 0) pa_nil)) pe_int (nomark _))
          (pss_one (ps_set (i := 2) scBox.nd rfl (.inl rfl) (pe_op op_add (pv 2) (pe_op op_mul (pe_op op_mod (pe_callTy call_int1 (by rfl) T.bi.int (by decide +kernel) (pa_cons
            (pe_callB call_abs (by rfl) T.bi.abs (by decide +kernel) (pa_cons (pe_callTy call_int1 (by rfl) T.bi.int (by decide +kernel) (pa_cons
              (pe_ix ix_list (pv 0) (pe_op op_mod (pe_callTy call_int1 (by rfl) T.bi.int (by decide +kernel) (pa_cons (pv 1) pa_nil)) (pe_callB call_len_seq (by rfl) T.bi.len PySem.boot_len (pa_cons (pv 0) pa_nil))) (fun _ _ => rfl)) pa_nil)) pa_nil)) pa_nil)) pe_int) pe_int)))) pss_nil)))
      (pss_cons (ps_set (i := 3) scBox.nd rfl (.inl rfl) (pe_ifExp (pt_cmpR op_ge (pv 2) (pe_op op_pow pe_int pe_int) (nomark _)) (pv 2) pe_int))
      (pss_one (ps_ret (pe_lst (pa_cons (pv 3) (pa_cons (pe_op op_add (pe_op op_mod (pe_callTy call_int1 (by rfl) T.bi.int (by decide +kernel) (pa_cons
        (pe_op op_add (pe_op op_mul (pe_op op_mod (pe_callTy call_int1 (by rfl) T.bi.int (by decide +kernel) (pa_cons (pv 2) pa_nil)) pe_int) pe_int) (pe_op op_mul pe_int (pv 1))) pa_nil)) pe_int) pe_int) pa_nil))))))), ?_⟩
    refine ⟨_, rfl, 7333, k, rfl, rfl, .inl (by decide), _, 1013, rfl, rfl, ?_⟩
    refine ⟨fun σ' H' => ∃ c : Int, 0 ≤ c ∧ σ' = [some (V.ref a), some (.int k), some (.int c), none] ∧ H' = H, ?_, ?_⟩
    · refine ⟨_, rfl, _, rfl, a, _, rfl, .inl hs, k, _, rfl, rfl, _, rfl, ?_⟩
      by_cases h1 : k < (ns.length : Int)
      · refine iteDT (by rw [List.length_map]; exact h1) ?_
        have hk : ns[k.toNat]? = some ns[k.toNat] := List.getElem?_eq_getElem (by omega)
        refine ⟨_, rfl, _, rfl, a, _, k, _, rfl, rfl, hs, atI_int k0 (by rw [List.getElem?_map, hk]; rfl), .inl ⟨_, rfl, _, rfl, _, ?_, rfl, rfl⟩⟩
        split <;> omega
      · refine iteDF (by rw [List.length_map]; exact h1) ?_
        refine ⟨_, rfl, a, _, rfl, .inl hs, _, 0, rfl, rfl, _, rfl, ?_⟩
        by_cases h2 : (0 : Int) < (ns.length : Int)
        · refine iteDT (by rw [List.length_map]; exact h2) ?_
          have m0 : 0 ≤ k % (ns.length : Int) := Int.emod_nonneg _ (by omega)
          have m1 : k % (ns.length : Int) < (ns.length : Int) := Int.emod_lt_of_pos _ h2
          have hk : ns[(k % (ns.length : Int)).toNat]? = some ns[(k % (ns.length : Int)).toNat] := List.getElem?_eq_getElem (by omega)
          refine ⟨_, rfl, _, rfl, _, rfl, .inl ⟨k, rfl, _, rfl, a, _, rfl, .inl hs, k, _, rfl, rfl, (by show (0 : Int) < ((ns.map V.int).length : Int); rw [List.length_map]; exact h2), ?_⟩⟩
          refine ⟨a, _, _, .int ns[(k % (ns.length : Int)).toNat], rfl, rfl, hs, ?_, .inl ⟨_, rfl, _, rfl, .inl ⟨_, rfl, _, 2147483587, rfl, rfl, (by show (0 : Int) < 2147483587; decide), _, 50461, rfl, rfl, .inr (by decide), _, _, rfl, rfl, _, ?_, rfl, rfl⟩⟩⟩
          · show atI (ns.map V.int) (k % ((ns.map V.int).length : Int)) = _
            rw [List.length_map]
            exact atI_int m0 (by rw [List.getElem?_map, hk]; rfl)
          · have := Int.emod_nonneg (if ns[(k % (ns.length : Int)).toNat] < 0 then -ns[(k % (ns.length : Int)).toNat] else ns[(k % (ns.length : Int)).toNat]) (show (2147483587 : Int) ≠ 0 by decide)
            omega
        · refine iteDF (by rw [List.length_map]; exact h2) ⟨_, ?_, rfl, rfl⟩
          omega
    · rintro σ' H' ⟨c, c0, rfl, rfl⟩
      have rest : ∀ g : Int, 0 ≤ g → ∀ b, H' b = none → Q (.ref b) (upd H' b (.lst [.int g, .int ((c % 2147483587 * 69761 + 1013 * k) % 2147483587 + 1)])) := fun g g0 b hb => q b _ (Same.new hb) hb ⟨_, _, upd_same, g0, by have := Int.emod_nonneg (c % 2147483587 * 69761 + 1013 * k) (show (2147483587 : Int) ≠ 0 by decide); omega⟩
      refine ⟨_, rfl, 10, 18, rfl, rfl, ⟨by decide, by decide, by decide⟩, _, _, rfl, rfl, _, rfl, ?_⟩
      by_cases hc : (10 : Int) ^ (18 : Int).toNat ≤ c
      · refine iteDT hc ⟨_, rfl, _, rfl, _, rfl, .inl ⟨c, rfl, c, 2147483587, rfl, rfl, (by show (0 : Int) < 2147483587; decide), _, 69761, rfl, rfl, .inr (by decide), _, rfl, 1013, k, rfl, rfl, .inl (by decide), _, _, rfl, rfl, .inl ⟨_, rfl, _, 2147483587, rfl, rfl, (by show (0 : Int) < 2147483587; decide), _, 1, rfl, rfl, by show 2 ≤ sizeLine; decide, fun p hp => ?_⟩⟩⟩
        exact rest c c0 p hp
      · refine iteDF hc ⟨_, rfl, _, rfl, .inl ⟨c, rfl, c, 2147483587, rfl, rfl, (by show (0 : Int) < 2147483587; decide), _, 69761, rfl, rfl, .inr (by decide), _, rfl, 1013, k, rfl, rfl, .inl (by decide), _, _, rfl, rfl, .inl ⟨_, rfl, _, 2147483587, rfl, rfl, (by show (0 : Int) < 2147483587; decide), _, 1, rfl, rfl, by show 2 ≤ sizeLine; decide, fun p hp => ?_⟩⟩⟩
        exact rest 0 (by decide) p hp
end
end K5
set_option Elab.async false
set_option linter.all false
set_option maxRecDepth 100000
set_option maxHeartbeats 2000000
namespace K5
open PySem PySem.Spec PyProof.Rows L2 PySem.K5X
/-- data without dicts, of a depth -/
def Gd (n : Nat) (d : PyData) : Prop := d.canLay0 = true ∧ d.depth ≤ n
theorem Gd.le {n m : Nat} {d : PyData} (h : Gd n d) (l : n ≤ m) : Gd m d := ⟨h.1, Nat.le_trans h.2 l⟩
theorem gd_int (i : Int) : Gd 0 (.int i) := ⟨rfl, Nat.le_refl 0⟩
theorem gd_non : Gd 0 .none := ⟨rfl, Nat.le_refl 0⟩
theorem gd_str {x : Str} (h : PyData.strOk x = true) : Gd 0 (.str x) := ⟨h, Nat.le_refl 0⟩
theorem gd_bl (x : Bool) : Gd 0 (.bool x) := ⟨rfl, Nat.le_refl 0⟩
theorem gd_all : ∀ {n : Nat} {ds : List PyData}, (∀ d ∈ ds, Gd n d) → PyData.canLayAll0 ds = true ∧ PyData.depthAll ds ≤ n
  | _, [], _ => ⟨rfl, Nat.zero_le _⟩
  | n, d :: ds, h => by
    obtain ⟨h1, h2⟩ := h d (List.mem_cons_self ..)
    obtain ⟨h3, h4⟩ := gd_all (n := n) (ds := ds) fun e he => h e (List.mem_cons_of_mem _ he)
    refine ⟨by simp [PyData.canLayAll0, h1, h3], ?_⟩
    simp only [PyData.depthAll]
    exact Nat.max_le.mpr ⟨h2, h4⟩
theorem gd_tup {n : Nat} {ds : List PyData} (h : ∀ d ∈ ds, Gd n d) : Gd (n + 1) (.tuple ds) := by
  obtain ⟨h1, h2⟩ := gd_all h
  exact ⟨by simp [PyData.canLay0, h1], by simp only [PyData.depth]; omega⟩
theorem gd_lst {n : Nat} {ds : List PyData} (h : ∀ d ∈ ds, Gd n d) : Gd (n + 1) (.list ds) := by
  obtain ⟨h1, h2⟩ := gd_all h
  exact ⟨by simp [PyData.canLay0, h1], by simp only [PyData.depth]; omega⟩
theorem Gd.shaped {n : Nat} {d : PyData} (h : Gd n d) (hn : n ≤ 64) : SeqAt.shaped d = true := by
  unfold SeqAt.shaped
  rw [h.1, decide_eq_true (Nat.le_trans h.2 hn)]
  rfl
def sqD (k : Bool) (ds : List PyData) : PyData := if k = true then .tuple ds else .list ds
theorem gd_sq {k : Bool} {n : Nat} {ds : List PyData} (h : ∀ d ∈ ds, Gd n d) : Gd (n + 1) (sqD k ds) := by
  cases k
  · exact gd_lst h
  · exact gd_tup h
theorem dp_sq {K : PySem.W.Frag} {k : Bool} {H : Hp} {a : Addr} {xs : List V} {ds : List PyData} (h : H a = some (sq k xs)) (hd : DpAll K H xs ds) : Dp K H (.ref a) (sqD k ds) := by
  cases k
  · exact .lst (sqL h) hd
  · exact .tup (sqT h) hd
theorem dpAll_len {K : PySem.W.Frag} {H : Hp} : ∀ {xs : List V} {ds : List PyData}, DpAll K H xs ds → ds.length = xs.length
  | _, _, .nil => rfl
  | _, _, .cons _ r => by rw [List.length_cons, List.length_cons, dpAll_len r]
theorem eqv_nil {k : Bool} : ∀ {ds : List PyData}, PyData.eqv (sqD k ds) (sqD k []) = ds.isEmpty
  | [] => by cases k <;> rfl
  | d :: ds => by cases k <;> rfl
theorem dpAll_ints {K : PySem.W.Frag} {H : Hp} : ∀ (ns : List Int), DpAll K H (ns.map V.int) (ns.map PyData.int)
  | [] => .nil
  | n :: ns => .cons (.int n) (dpAll_ints ns)
theorem gd_ints (ns : List Int) : ∀ d ∈ ns.map PyData.int, Gd 0 d := fun d hd => by
  obtain ⟨n, _, rfl⟩ := List.mem_map.mp hd
  exact gd_int n
/-- x == [] or () of the same kind -/
def rNil (K : PySem.W.Frag) (neg : Bool) : R2 := fun x y H Q => ∃ a b k xs ds n, x = .ref a ∧ y = .ref b ∧ H a = some (sq k xs) ∧ H b = some (sq k []) ∧ DpAll K H xs ds ∧ (∀ d ∈ ds, Gd n d) ∧ n ≤ 60 ∧ Q (.bl (if neg = true then !xs.isEmpty else xs.isEmpty)) H
theorem emp_of {K : PySem.W.Frag} {H : Hp} {xs : List V} {ds : List PyData} (h : DpAll K H xs ds) : ds.isEmpty = xs.isEmpty := by
  cases h <;> rfl
theorem op_eqNil {X : Cx} (hu : X.A.units + 64 < cLine) : OpR X (compareOp .Eq) (rNil X.K false) := by
  intro pins s σ H x y v u Q I rx ry h
  obtain ⟨a, b, k, xs, ds, n, rfl, rfl, ha, hb, hd, hg, hn, q⟩ := h
  refine op_eqD hu pins s σ H _ _ v u Q I rx ry ⟨sqD k ds, sqD k [], dp_sq ha hd, dp_sq hb .nil, (gd_sq hg).shaped (by omega), (gd_sq (n := 0) (by intro d hd; cases hd)).shaped (by decide), ?_⟩
  rw [eqv_nil, emp_of hd]
  exact q
theorem op_neNil {X : Cx} (hu : X.A.units + 64 < cLine) : OpR X (compareOp .NotEq) (rNil X.K true) := by
  intro pins s σ H x y v u Q I rx ry h
  obtain ⟨a, b, k, xs, ds, n, rfl, rfl, ha, hb, hd, hg, hn, q⟩ := h
  refine op_neD hu pins s σ H _ _ v u Q I rx ry ⟨sqD k ds, sqD k [], dp_sq ha hd, dp_sq hb .nil, (gd_sq hg).shaped (by omega), (gd_sq (n := 0) (by intro d hd; cases hd)).shaped (by decide), ?_⟩
  rw [eqv_nil, emp_of hd]
  exact q
/-! a house as data -/
def optD : Option Int → PyData
  | none => .none
  | some i => .int i
def pasD (k : Bool) (p : Pas) : PyData := sqD k [.int p.t, .int p.h, .int p.l, .int p.w, sqD k (p.sh.map PyData.int)]
def hseD (k : Bool) (h : Hse) : PyData := sqD k [sqD k (h.rooms.map PyData.int), sqD k (h.pas.map (pasD k)), sqD k (h.smoke.map optD)]
theorem dp_opt {K : PySem.W.Frag} {H : Hp} (o : Option Int) : Dp K H (optV o) (optD o) := by
  cases o with
  | none => exact .non
  | some i => exact .int i
theorem dpAll_opt {K : PySem.W.Frag} {H : Hp} : ∀ (os : List (Option Int)), DpAll K H (os.map optV) (os.map optD)
  | [] => .nil
  | o :: os => .cons (dp_opt o) (dpAll_opt os)
theorem dp_pas {K : PySem.W.Frag} {k : Bool} {H : Hp} {v : V} {p : Pas} (h : PasK k H v p) : Dp K H v (pasD k p) := by
  obtain ⟨a, s, rfl, h1, h2⟩ := h
  exact dp_sq h1 (.cons (.int _) (.cons (.int _) (.cons (.int _) (.cons (.int _) (.cons (dp_sq h2 (dpAll_ints _)) .nil)))))
theorem dpAll_ps {K : PySem.W.Frag} {k : Bool} {H : Hp} : ∀ {vs : List V} {ps : List Pas}, PsK k H vs ps → DpAll K H vs (ps.map (pasD k))
  | [], [], _ => .nil
  | [], _ :: _, h => nomatch h.1
  | _ :: _, [], h => nomatch h.1
  | v :: vs, p :: ps, h => .cons (dp_pas (h.2 0 v p rfl rfl)) (dpAll_ps ⟨Nat.succ.inj h.1, fun i w q e1 e2 => h.2 (i + 1) w q e1 e2⟩)
theorem dp_hse {K : PySem.W.Frag} {k : Bool} {H : Hp} {v : V} {h : Hse} (x : HseK k H v h) : Dp K H v (hseD k h) := by
  obtain ⟨a, r, q, t, vs, rfl, h1, h2, h3, h4, h5⟩ := x
  exact dp_sq h1 (.cons (dp_sq h2 (dpAll_ints _)) (.cons (dp_sq h3 (dpAll_ps h4)) (.cons (dp_sq h5 (dpAll_opt _)) .nil)))
theorem gd_pas (k : Bool) (p : Pas) : Gd 2 (pasD k p) := gd_sq (n := 1) fun d hd => by
  simp only [List.mem_cons, List.not_mem_nil, or_false] at hd
  rcases hd with rfl | rfl | rfl | rfl | rfl
  · exact (gd_int _).le (by decide)
  · exact (gd_int _).le (by decide)
  · exact (gd_int _).le (by decide)
  · exact (gd_int _).le (by decide)
  · exact gd_sq (n := 0) (gd_ints _)
theorem gd_opts (os : List (Option Int)) : ∀ d ∈ os.map optD, Gd 0 d := fun d hd => by
  obtain ⟨o, _, rfl⟩ := List.mem_map.mp hd
  cases o with
  | none => exact gd_non
  | some i => exact gd_int i
theorem gd_hse (k : Bool) (h : Hse) : Gd 4 (hseD k h) := gd_sq (n := 3) fun d hd => by
  simp only [List.mem_cons, List.not_mem_nil, or_false] at hd
  rcases hd with rfl | rfl | rfl
  · exact (gd_sq (n := 0) (gd_ints _)).le (by decide)
  · exact gd_sq (n := 2) fun d hd => by
      obtain ⟨p, _, rfl⟩ := List.mem_map.mp hd
      exact gd_pas k p
  · exact (gd_sq (n := 0) (gd_opts _)).le (by decide)
end K5
set_option Elab.async false
set_option linter.all false
set_option maxRecDepth 100000
set_option maxHeartbeats 2000000
namespace K5
open PySem PySem.Spec PyProof.Rows L2 PySem.K5X
/-- tuples stand as they stood -/
def TS (H H' : Hp) : Prop := ∀ a xs, H a = some (.tup xs) → H' a = some (.tup xs)
theorem TS.of {H H' : Hp} (s : Same H H') : TS H H' := fun a xs e => s _ _ e
theorem TS.trans {H H1 H2 : Hp} (a : TS H H1) (b : TS H1 H2) : TS H H2 := fun c xs e => b c xs (a c xs e)
theorem TS.sx {H H' : Hp} {b : Addr} (s : SX b H H') (hb : Bx H b) : TS H H' := fun a xs e => s.tup hb e
theorem TS.lst {H : Hp} {a : Addr} {xs : List V} {o : HO} (h : H a = some (.lst xs)) : TS H (upd H a o) := fun c ys e => by
  rw [upd_ne (ne_of e h (fun z => nomatch z))]
  exact e
theorem TS.rm {H : Hp} {a : Addr} {xs : List V} (h : H a = some (.lst xs)) : TS H (rm H a) := fun c ys e => rm_get e h (fun z => nomatch z)
theorem PasK.ts {H H' : Hp} {v : V} {p : Pas} (h : PasK true H v p) (s : TS H H') : PasK true H' v p := by
  obtain ⟨a, b, e, h1, h2⟩ := h
  exact ⟨a, b, e, s _ _ h1, s _ _ h2⟩
theorem PsK.ts {H H' : Hp} {vs : List V} {ps : List Pas} (h : PsK true H vs ps) (s : TS H H') : PsK true H' vs ps := ⟨h.1, fun i v p e1 e2 => (h.2 i v p e1 e2).ts s⟩
theorem HseK.ts {H H' : Hp} {v : V} {h : Hse} (x : HseK true H v h) (s : TS H H') : HseK true H' v h := by
  obtain ⟨a, r, q, t, vs, e, h1, h2, h3, h4, h5⟩ := x
  exact ⟨a, r, q, t, vs, e, s _ _ h1, s _ _ h2, s _ _ h3, h4.ts s, s _ _ h5⟩
theorem PsK.nil {k : Bool} {H : Hp} : PsK k H [] [] := ⟨rfl, fun i v p e => by simp at e⟩
theorem PsK.snoc {H : Hp} {vs : List V} {ps : List Pas} {v : V} {p : Pas} (h : PsK true H vs ps) (x : PasK true H v p) : PsK true H (vs ++ [v]) (ps ++ [p]) := by
  refine ⟨by rw [List.length_append, List.length_append, h.1]; rfl, fun i w q e1 e2 => ?_⟩
  by_cases hi : i < vs.length
  · rw [List.getElem?_append_left hi] at e1
    rw [List.getElem?_append_left (by rw [← h.1]; exact hi)] at e2
    exact h.2 i w q e1 e2
  · rw [List.getElem?_append_right (Nat.le_of_not_lt hi)] at e1
    rw [List.getElem?_append_right (by rw [← h.1]; exact Nat.le_of_not_lt hi), ← h.1] at e2
    have h0 : i - vs.length = 0 := by
      cases hh : i - vs.length with
      | zero => rfl
      | succ m => rw [hh] at e1; simp at e1
    rw [h0] at e1 e2
    cases e1
    cases e2
    exact x
theorem Bx.ne {H : Hp} {b p : Addr} (hb : Bx H b) (h : H p = none) : p ≠ b := fun e => by
  obtain ⟨g, t, z, _⟩ := hb
  rw [e, z] at h
  cases h
theorem Bx.upd {H : Hp} {b p : Addr} {o : HO} (hb : Bx H b) (h : p ≠ b) : Bx (L2.upd H p o) b := by
  obtain ⟨g, t, z, h1, h2⟩ := hb
  exact ⟨g, t, by rw [upd_ne (Ne.symm h)]; exact z, h1, h2⟩
def IL (H : Hp) (a : Addr) (ns : List Int) : Prop := H a = some (.lst (ns.map V.int))
theorem Asc.nil : Asc [] := fun i a b e => by simp at e
theorem Asc.snoc {ns : List Int} {x : Int} (h : Asc ns) (hx : ∀ y ∈ ns, y < x) : Asc (ns ++ [x]) := by
  intro i a b e1 e2
  by_cases hi : i + 1 < ns.length
  · rw [List.getElem?_append_left (by omega)] at e1
    rw [List.getElem?_append_left hi] at e2
    exact h i a b e1 e2
  · have hl : i + 1 < (ns ++ [x]).length := (List.getElem?_eq_some_iff.mp e2).1
    rw [List.length_append, List.length_singleton] at hl
    have e3 : i + 1 = ns.length := by omega
    rw [List.getElem?_append_right (by omega), show i + 1 - ns.length = 0 by omega] at e2
    cases e2
    rw [List.getElem?_append_left (by omega)] at e1
    exact hx a (List.mem_of_getElem? e1)
def Sml (h : Hse) : Prop := h.rooms.length ≤ 5 ∧ h.pas.length ≤ 7
abbrev sHouse : Stmt := top 42
abbrev nHouse : List Str := ["_law_box_here", "_law_rooms", "_law_inside", "_law_passages", "_law_turn", "_law_tail", "_law_head", "_law_shut", "_law_smoke", "_law_room", "_law_beat"]
theorem scHouse : FnScope nHouse ["_law_box_here"] (defScope sHouse) := ⟨rfl, rfl, rfl, by decide +kernel, rfl, by decide +kernel, by decide +kernel⟩
section
variable {P : Program} {w : World} {K : PySem.W.Frag} {mg : Str → Option Value} {base : Heap} {cR cP cB cF : Addr}
/-- how many passages are drawn -/
theorem turns_ok {K : PySem.W.Frag} {b pR pI : Addr} {y3 y4 y5 y6 y7 y8 y9 y10 : Option V} {H : Hp} {rms is : List Int} (hb : Bx H b) (eR : H pR = some (.lst (rms.map V.int))) (eI : IL H pI is) (Q : V → Hp → Prop)
    (q : ∀ m H', 0 ≤ m → m < 8 → (0 < m → is ≠ []) → Bx H' b → SX b H H' → Q (.int m) H') :
    tIf (tAnd (tTest (tOp (rNil K true) (tVar 2) (tLst tNil))) (tTest (tOp (rI0 fun i j => .bl (decide (j < i))) (tCB rLenOf (tCons (tVar 1) tNil)) (tC (.int 1)))))
      (tCall spTake [] E0 (tCons (tVar 0) (tCons (tC (.int 8)) tNil))) (tC (.int 0)) [some (.ref b), some (.ref pR), some (.ref pI), y3, y4, y5, y6, y7, y8, y9, y10] H Q := by
  refine ⟨_, rfl, Nat.zero_le _, fun p hp => ?_⟩
  have g := Same.new (o := .lst []) hp
  refine ⟨pI, p, false, _, _, 0, rfl, rfl, g.get eI, upd_same, dpAll_ints is, gd_ints is, by decide, _, rfl, ?_⟩
  cases is with
  | nil => exact iteF (iteF (q 0 _ (by decide) (by decide) (fun z => absurd z (by decide)) (hb.same g) (SB.of g)))
  | cons i is =>
    refine iteT ⟨_, rfl, pR, false, _, rfl, g.get eR, _, 1, rfl, rfl, _, rfl, iteB (fun _ => ?_) fun _ => ?_⟩
    · exact ⟨_, rfl, b, 8, rfl, hb.same g, by decide, by decide, fun n H1 n0 n1 hb1 s1 => q n H1 n0 n1 (fun _ z => nomatch z) hb1 (SB.trans (SB.of g) s1)⟩
    · exact q 0 _ (by decide) (by decide) (fun z => absurd z (by decide)) (hb.same g) (SB.of g)
def oth (t : Int) (n : Nat) : List Int := ((List.range n).map fun (x : Nat) => (x : Int)).filter fun x => !decide (x = t)
theorem oth_succ (t : Int) (n : Nat) : oth t (n + 1) = oth t n ++ (if (!decide ((n : Int) = t)) = true then [(n : Int)] else []) := by
  unfold oth
  rw [List.range_succ, List.map_append, List.filter_append]
  congr 1
  rw [List.map_cons, List.map_nil, List.filter_cons]
  split <;> rfl
theorem oth_len (t : Int) (n : Nat) : (oth t n).length ≤ n := by
  refine Nat.le_trans (List.length_filter_le _ _) ?_
  rw [List.length_map, List.length_range]
  exact Nat.le_refl n
theorem oth_mem {t x : Int} {n : Nat} : x ∈ oth t n ↔ (0 ≤ x ∧ x < n) ∧ x ≠ t := by
  unfold oth
  rw [List.mem_filter, List.mem_map]
  constructor
  · rintro ⟨⟨k, hk, rfl⟩, h2⟩
    rw [List.mem_range] at hk
    exact ⟨⟨by omega, by omega⟩, by simpa using h2⟩
  · rintro ⟨⟨h0, h1⟩, h2⟩
    exact ⟨⟨x.toNat, List.mem_range.mpr (by omega), by omega⟩, by simpa using h2⟩
theorem oth_pos {t : Int} {n : Nat} (h : 2 ≤ n) : 0 < (oth t n).length := by
  by_cases e : t = 0
  · exact List.length_pos_of_mem (oth_mem.mpr ⟨⟨by decide, by omega⟩, by omega⟩ : (1 : Int) ∈ oth t n)
  · exact List.length_pos_of_mem (oth_mem.mpr ⟨⟨by decide, by omega⟩, fun z => e z.symm⟩ : (0 : Int) ∈ oth t n)
theorem SX.free {H H' : Hp} {b p : Addr} (s : SX b H H') (n : p ≠ b) (h : H' p = none) : H p = none := by
  cases e : H p with
  | none => rfl
  | some x =>
    rw [s p x n e] at h
    cases h
def spHouse : Sp := fun vs H Q _ => ∃ (b : Addr), vs = [.ref b] ∧ Bx H b ∧ ∀ p H' h, Bx H' b → SX b H H' → HseK true H' (.ref p) h → HseOk h → Sml h → Q (.ref p) H'
theorem ok_house (T : Tx P K mg) : Ok P w K mg base CX0 "_law_house" sHouse 3 ["_law_box_here"] spHouse := by
  obtain ⟨f, fd, D⟩ := T.d42
  obtain ⟨fT, fdT, DT, bT, GT⟩ := ok_take (P := P) (w := w) (base := base) T
  obtain ⟨fP, fdP, DP, bP, GP⟩ := ok_pick (P := P) (w := w) (base := base) T
  refine ⟨f, fd, D, D.fn.binds (fun _ _ _ _ _ _ us hl => match us, hl with | [_], _ => rfl), D.fn.ok scHouse (fun vs H Q E h => ?_) (fun cdv A outer s H vs Q E hr h => ?_)⟩
  · obtain ⟨_, rfl, _⟩ := h
    rfl
  · obtain ⟨b, rfl, hb, q⟩ := h
    have hr1 : Room 1 _ := hr.mono (by decide)
    refine ⟨_, pss_cons (ps_set (i := 1) scHouse.nd rfl (.inr rfl) (pe_op op_cat
        (pe_lc (own := [("_law_room", 9)]) (g := gName 9) (tt := tYes) rfl scHouse.nd (pi_range1 rfl T.bi.range (pa_cons (pe_op op_add pe_int (pe_call GT hr1 (by rfl) DT.gl DT.fn.kp bT .nil pass0 (pa_cons (pv 0) (pa_cons pe_int pa_nil)))) pa_nil))
          (blkOk_by (N := nHouse) (sc := defScope sHouse) (by decide +kernel)) (fun _ _ _ _ _ => pg_name (i := 9) scHouse.nd rfl (.inl rfl)) (fun _ _ _ _ _ => pts_nil)
          (fun _ _ _ _ _ => pe_call GP hr (by rfl) DP.gl DP.fn.kp bP .nil pass0 (pa_cons (pv 0) (pa_cons (pe_lst (pa_cons pe_int (pa_cons pe_int (pa_cons pe_int (pa_cons pe_int pa_nil))))) pa_nil))))
        (pe_lst (pa_cons (pe_call GP hr (by rfl) DP.gl DP.fn.kp bP .nil pass0 (pa_cons (pv 0) (pa_cons (pe_lst (pa_cons pe_int (pa_cons pe_int (pa_cons pe_int (pa_cons pe_int pa_nil))))) pa_nil))) pa_nil))))
      (pss_cons (ps_par (i := 2) (j := 3) rfl scHouse.nd rfl rfl (by decide) rfl rfl (pa_cons
        (pe_lc (own := [("_law_room", 9)]) (g := gName 9) (tt := tTest (tOp rEq (tOp rIxK (tVar 1) (tVar 9)) (tC (.int 0)))) rfl scHouse.nd (pi_range1 rfl T.bi.range (pa_cons (pe_callB call_lenOf (by rfl) T.bi.len PySem.boot_len (pa_cons (pv 1) pa_nil)) pa_nil))
          (blkOk_by (N := nHouse) (sc := defScope sHouse) (by decide +kernel)) (fun _ _ _ _ _ => pg_name (i := 9) scHouse.nd rfl (.inl rfl))
          (fun _ _ _ _ _ => pts_one (pt_cmpR op_eq (pe_ix ix_sq (pv 1) (pv 9) (fun _ _ => rfl)) pe_int (nomark _))) (fun _ _ _ _ _ => pv 9))
        (pa_cons (pe_lst pa_nil) pa_nil)) (by rfl))
      (pss_cons (ps_for PassesOwn.never rfl (pi_range1 rfl T.bi.range (pa_cons (pe_ifExp (PW.pt (pw_and (pt_cmpR (op_neNil hr.units) (pv 2) (pe_lst pa_nil) (nomark _))
            (pw_and1 (pt_cmpR op_gt (pe_callB call_lenOf (by rfl) T.bi.len PySem.boot_len (pa_cons (pv 1) pa_nil)) pe_int (nomark _)))))
            (pe_call GT hr1 (by rfl) DT.gl DT.fn.kp bT .nil pass0 (pa_cons (pv 0) (pa_cons pe_int pa_nil))) pe_int) pa_nil)) (pg_name (i := 4) scHouse.nd rfl (.inl rfl))
          (pss_cons (ps_set (i := 5) scHouse.nd rfl (.inr rfl) (pe_call GP hr (by rfl) DP.gl DP.fn.kp bP .nil pass0 (pa_cons (pv 0) (pa_cons (pv 2) pa_nil))))
          (pss_cons (ps_set (i := 6) scHouse.nd rfl (.inl rfl) (pe_call GP hr (by rfl) DP.gl DP.fn.kp bP .nil pass0 (pa_cons (pv 0) (pa_cons
            (pe_lc (own := [("_law_room", 9)]) (g := gName 9) (tt := tTest (tOp rNe (tVar 9) (tVar 5))) rfl scHouse.nd (pi_range1 rfl T.bi.range (pa_cons (pe_callB call_lenOf (by rfl) T.bi.len PySem.boot_len (pa_cons (pv 1) pa_nil)) pa_nil))
              (blkOk_by (N := nHouse) (sc := defScope sHouse) (by decide +kernel)) (fun _ _ _ _ _ => pg_name (i := 9) scHouse.nd rfl (.inl rfl))
              (fun _ _ _ _ _ => pts_one (pt_cmpR op_ne (pv 9) (pv 5) (nomark _))) (fun _ _ _ _ _ => pv 9)) pa_nil))))
          (pss_cons (ps_setLc (i := 7) (own := [("_law_beat", 10)]) (g := gName 10) (tt := tTest (tOp rEq (tCall spTake [] E0 (tCons (tVar 0) (tCons (tC (.int 5)) tNil))) (tC (.int 0)))) rfl scHouse.nd rfl rfl (sw_true rfl rfl rfl (by decide +kernel)) (pi_range1 rfl T.bi.range (pa_cons pe_int pa_nil))
              (blkOk_by (N := nHouse) (sc := defScope sHouse) (by decide +kernel)) (fun _ _ _ _ _ => pg_name (i := 10) scHouse.nd rfl (.inl rfl))
              (fun _ _ _ _ _ => pts_one (pt_cmpR op_eq (pe_call GT hr1 (by rfl) DT.gl DT.fn.kp bT .nil pass0 (pa_cons (pv 0) (pa_cons pe_int pa_nil))) pe_int (nomark _))) (fun _ _ _ _ _ => pv 10))
          (pss_one (ps_expr (pe_bm PySem.F.plainAttrs_list PySem.F.slot_list_append PySem.F.type_list_append mt_append (pv 3) (pa_cons (pe_tup (pa_cons (pv 5) (pa_cons (pv 6)
            (pa_cons (pe_call GP hr (by rfl) DP.gl DP.fn.kp bP .nil pass0 (pa_cons (pv 0) (pa_cons (pe_lst (pa_cons pe_int (pa_cons pe_int (pa_cons pe_int (pa_cons pe_int pa_nil))))) pa_nil)))
            (pa_cons (pe_call GP hr (by rfl) DP.gl DP.fn.kp bP .nil pass0 (pa_cons (pv 0) (pa_cons (pe_lst (pa_cons pe_int (pa_cons pe_int (pa_cons pe_int (pa_cons pe_int (pa_cons pe_int pa_nil)))))) pa_nil)))
            (pa_cons (pe_callTy call_tupOf (by rfl) T.bi.tuple (by decide +kernel) (pa_cons (pv 7) pa_nil)) pa_nil)))))) pa_nil))))))))
      (pss_cons (ps_setLc (i := 8) (own := [("_law_room", 9)]) (g := gName 9) (tt := tYes) rfl scHouse.nd rfl rfl (sw_true rfl rfl rfl (by decide +kernel)) (pi_sq (pv 1))
          (blkOk_by (N := nHouse) (sc := defScope sHouse) (by decide +kernel)) (fun _ _ _ _ _ => pg_name (i := 9) scHouse.nd rfl (.inl rfl)) (fun _ _ _ _ _ => pts_nil)
          (fun _ _ _ _ _ => pe_ifExp (pt_cmpR op_eq (pv 9) pe_int (nomark _)) (pe_call GP hr (by rfl) DP.gl DP.fn.kp bP .nil pass0 (pa_cons (pv 0) (pa_cons (pe_lst (pa_cons pe_non (pa_cons pe_non
            (pa_cons (pe_call GT hr1 (by rfl) DT.gl DT.fn.kp bT .nil pass0 (pa_cons (pv 0) (pa_cons pe_int pa_nil))) pa_nil)))) pa_nil))) pe_non))
      (pss_one (ps_ret (pe_tup (pa_cons (pe_callTy call_tupOf (by rfl) T.bi.tuple (by decide +kernel) (pa_cons (pv 1) pa_nil))
        (pa_cons (pe_callTy call_tupOf (by rfl) T.bi.tuple (by decide +kernel) (pa_cons (pv 3) pa_nil))
        (pa_cons (pe_callTy call_tupOf (by rfl) T.bi.tuple (by decide +kernel) (pa_cons (pv 8) pa_nil)) pa_nil))))))))), ?_⟩
    -- the rooms
    refine ⟨_, rfl, b, 4, rfl, hb, by decide, by decide, fun n H1 n0 n1 hb1 s1 => ⟨1, n, rfl, rfl, ?_⟩⟩
    refine ⟨1 + n, rfl, by omega, by omega, fun D hD => ?_⟩
    have nDb := hb1.ne hD
    refine lc_acc walk_range (fun a => a = b) (fun H => Bx H b) (fun i acc _ => ∃ rs : List Int, acc = rs.map V.int ∧ rs.length = i ∧ ∀ x ∈ rs, x = 0 ∨ x = 1) (by omega) hD nDb hb1 (fun H x r _ => r.upd nDb) ⟨[], rfl, rfl, (by intro x hx; cases hx)⟩ (fun _ _ _ => True.intro) (fun i x H H' acc Nk Ns hi s r eD hl ⟨rs, ea, el, ev⟩ y fin _ => ?_) fun H2 acc s2 hb2 eD hl ⟨rs, ea, el, ev⟩ => ?_
    · obtain ⟨rfl, rfl⟩ := y
      rw [yes_eq]
      refine ⟨rfl, _, rfl, by show 4 ≤ sizeLine; decide, fun p hp => ?_⟩
      have np := r.ne hp
      refine ⟨b, p, false, [.int 0, .int 0, .int 0, .int 1], rfl, r.upd np, np, upd_same, by decide, by decide, fun j v H4 hv hb4 s4 => fin v H4 (SB.trans (SX.new hp) s4) hb4 ?_⟩
      have hv2 : v = .int 0 ∨ v = .int 1 := by
        have hm := List.mem_of_getElem? hv
        simp only [List.mem_cons, List.not_mem_nil, or_false] at hm
        rcases hm with h | h | h | h
        · exact .inl h
        · exact .inl h
        · exact .inl h
        · exact .inr h
      rcases hv2 with rfl | rfl
      · exact ⟨rs ++ [0], by rw [ea, List.map_append]; rfl, by rw [List.length_append, el]; rfl, fun x hx => by
          rcases List.mem_append.mp hx with h | h
          · exact ev x h
          · exact .inl (List.mem_singleton.mp h)⟩
      · exact ⟨rs ++ [1], by rw [ea, List.map_append]; rfl, by rw [List.length_append, el]; rfl, fun x hx => by
          rcases List.mem_append.mp hx with h | h
          · exact ev x h
          · exact .inr (List.mem_singleton.mp h)⟩
    subst ea
    refine ⟨_, rfl, by show 4 ≤ sizeLine; decide, fun p hp => ?_⟩
    have np := hb2.ne hp
    refine ⟨b, p, false, [.int 1, .int 1, .int 1, .int 0], rfl, hb2.upd np, np, upd_same, by decide, by decide, fun j v H3 hv hb3 s3 => ?_⟩
    refine ⟨by show 1 ≤ sizeLine; decide, fun p2 hp2 => ?_⟩
    have s23 : SX b H2 H3 := SB.trans (SX.new hp) s3
    have g2 := Same.new (o := .lst [v]) hp2
    obtain ⟨rv, ev3, er⟩ : ∃ r : Int, v = .int r ∧ (r = 0 ∨ r = 1) := by
      have hm := List.mem_of_getElem? hv
      simp only [List.mem_cons, List.not_mem_nil, or_false] at hm
      rcases hm with h | h | h | h
      · exact ⟨1, h, .inr rfl⟩
      · exact ⟨1, h, .inr rfl⟩
      · exact ⟨1, h, .inr rfl⟩
      · exact ⟨0, h, .inl rfl⟩
    subst ev3
    refine ⟨D, p2, _, _, rfl, rfl, g2.get (s23 D _ nDb eD), upd_same, Nat.le_of_lt (small1000 (by simp; omega)), fun pR hpR => ?_⟩
    have hl5 : (rs ++ [rv]).length ≤ 5 ∧ 2 ≤ (rs ++ [rv]).length := by rw [List.length_append, el]; simp; omega
    have hv5 : ∀ x ∈ rs ++ [rv], x = 0 ∨ x = 1 := fun x hx => by
      rcases List.mem_append.mp hx with h | h
      · exact ev x h
      · rw [List.mem_singleton.mp h]; exact er
    have eR : upd (upd H3 p2 (.lst [.int rv])) pR (.lst (rs.map V.int ++ [.int rv])) pR = some (.lst ((rs ++ [rv]).map V.int)) := by rw [upd_same, List.map_append]; rfl
    have sR : SX b H (upd (upd H3 p2 (.lst [.int rv])) pR (.lst (rs.map V.int ++ [.int rv]))) := SB.trans (SB.trans (SB.trans (SB.trans s1 s2) s23) (SB.of g2)) (SB.of (Same.new hpR))
    have bR : Bx (upd (upd H3 p2 (.lst [.int rv])) pR (.lst (rs.map V.int ++ [.int rv]))) b := (hb3.same g2).same (Same.new hpR)
    have nRb : pR ≠ b := (hb3.same g2).ne hpR
    generalize upd (upd H3 p2 (.lst [.int rv])) pR (.lst (rs.map V.int ++ [.int rv])) = H5 at eR sR bR
    generalize rs ++ [rv] = rms at hl5 hv5 eR
    clear g2 s23 s3 hv hb3 hp2 hp np eD hl el ev er s2 hb2 hD nDb hb1 s1 n0 n1 hpR
    -- inside, passages
    refine ⟨_, rfl, pR, false, _, rfl, eR, _, rfl, by rw [List.length_map]; omega, by rw [List.length_map]; omega, fun pI hpI => ?_⟩
    have nIb := bR.ne hpI
    refine lc_acc walk_range B0 (fun _ => True) (fun i acc _ => ∃ is : List Int, acc = is.map V.int ∧ ∀ x ∈ is, 0 ≤ x ∧ rms[x.toNat]? = some 0) (by rw [List.length_map]; omega) hpI (fun z => z) True.intro (fun _ _ _ _ => True.intro) ⟨[], rfl, (by intro x hx; cases hx)⟩ (fun _ _ _ => True.intro) (fun i x H6 H' acc Nk Ns hi s _ eD hl ⟨is, ea, ev⟩ y fin skip => ?_) fun H6 acc s6 _ eI hl ⟨is, ea, ev⟩ => ?_
    · obtain ⟨rfl, rfl⟩ := y
      show gName 9 (.int (0 + (i : Int))) _ _ _
      rw [Int.zero_add]
      have hi2 : i < rms.length := by rw [List.length_map, Int.toNat_natCast] at hi; exact hi
      have hri : rms[i]? = some rms[i] := List.getElem?_eq_getElem hi2
      refine ⟨rfl, _, rfl, _, rfl, pR, false, _, i, .int rms[i], rfl, rfl, s.same.get eR, atI_nat (by rw [List.getElem?_map, hri]; rfl), rfl, _, rfl, ?_⟩
      by_cases hz : rms[i] = 0
      · refine iteDT (by rw [hz]) ⟨_, rfl, fin _ _ (SB.refl _ _) True.intro ⟨is ++ [(i : Int)], by rw [ea, List.map_append]; rfl, fun x hx => ?_⟩⟩
        rcases List.mem_append.mp hx with h | h
        · exact ev x h
        · rw [List.mem_singleton.mp h, Int.toNat_natCast, hri, hz]
          exact ⟨by omega, rfl⟩
      · exact iteDF (fun z => hz (V.int.inj z)) (skip _ (SB.refl _ _) True.intro ⟨is, ea, ev⟩)
    subst ea
    have eR6 := s6.same.get eR
    have b6 := bR.same s6.same
    have sR6 : SX b H H6 := SB.trans sR (SB.of s6.same)
    refine ⟨Nat.zero_le _, fun pq hpq => ⟨_, _, rfl, ?_⟩⟩
    have nqb := b6.ne hpq
    have gq := Same.new (o := .lst []) hpq
    have eq7 : upd H6 pq (.lst []) pq = some (.lst []) := upd_same
    have eR7 := gq.get eR6
    have eI7 : IL (upd H6 pq (.lst [])) pI is := gq.get eI
    have b7 := b6.same gq
    have sR7 : SX b H (upd H6 pq (.lst [])) := SB.trans sR6 (SB.of gq)
    have nRq : pR ≠ pq := ne_of_none eR6 hpq
    have nIq : pI ≠ pq := ne_of_none eI hpq
    have fq : H pq = none := SX.free sR6 nqb hpq
    have hlI : is.length ≤ 1000 := by rw [List.length_map] at hl; rw [List.length_map] at hl; omega
    generalize upd H6 pq (.lst []) = H7 at eq7 eR7 eI7 b7 sR7
    clear gq hpq sR6 b6 eR6 eI hl s6 hpI eR sR bR
    -- the passages
    refine turns_ok b7 eR7 eI7 _ fun m H8 m0 m8 mI b8 s8 => ?_
    have eq8 := s8 pq _ nqb eq7
    have eR8 := s8 pR _ nRb eR7
    have eI8 : IL H8 pI is := s8 pI _ nIb eI7
    have sR8 : SX b H H8 := SB.trans sR7 s8
    refine ⟨m, rfl, by omega, by omega, ?_⟩
    refine for_it walk_range (fun i σ G => ∃ (y4 y5 y6 y7 : Option V) (ws : List V) (ps : List Pas), σ = [some (.ref b), some (.ref pR), some (.ref pI), some (.ref pq), y4, y5, y6, y7, none, none, none] ∧ Bx G b ∧ SX b H G ∧
      G pR = some (.lst (rms.map V.int)) ∧ IL G pI is ∧ G pq = some (.lst ws) ∧ PsK true G ws ps ∧ (∀ p ∈ ps, PasOk rms p) ∧ ps.length ≤ i)
      ⟨none, none, none, none, [], [], rfl, b8, sR8, eR8, eI8, eq8, PsK.nil, (by intro x hx; cases hx), Nat.zero_le _⟩ (fun _ _ _ _ _ => True.intro) ?_ ?_
    · rintro i x σ G G' hi ⟨y4, y5, y6, y7, ws, ps, rfl, bG, sG, rG, iG, qG, pG, okG, lG⟩ ⟨rfl, rfl⟩
      have isne := mI (by omega)
      -- tail
      refine ⟨_, rfl, _, rfl, b, pI, false, _, rfl, bG, nIb, iG, by rw [List.length_map]; exact List.length_pos_iff.mpr isne, by rw [List.length_map]; exact hlI, fun jt vt G1 ht b1 t1 => ?_⟩
      rw [List.getElem?_map] at ht
      obtain ⟨t, ht2, rfl⟩ := Option.map_eq_some_iff.mp ht
      obtain ⟨tt0, tt1⟩ := ev t (List.mem_of_getElem? ht2)
      have tlt : t.toNat < rms.length := (List.getElem?_eq_some_iff.mp tt1).1
      have r1 := t1 pR _ nRb rG
      -- head
      refine ⟨_, rfl, _, rfl, pR, false, _, rfl, r1, _, rfl, by rw [List.length_map]; omega, by rw [List.length_map]; omega, fun pH hpH => ?_⟩
      have nHb := b1.ne hpH
      refine lc_acc walk_range B0 (fun _ => True) (fun i acc _ => acc = (oth t i).map V.int) (by rw [List.length_map]; omega) hpH (fun z => z) True.intro (fun _ _ _ _ => True.intro) rfl (fun _ _ _ => True.intro) (fun i x H6 H' acc Nk Ns hi s _ eD hl ea y fin skip => ?_) fun G2 acc s2 _ eH hl ea => ?_
      · obtain ⟨rfl, rfl⟩ := y
        show gName 9 (.int (0 + (i : Int))) _ _ _
        rw [Int.zero_add]
        refine ⟨rfl, _, rfl, _, rfl, rfl, _, rfl, ?_⟩
        by_cases hz : (i : Int) = t
        · refine iteNF (by rw [hz]) (skip _ (SB.refl _ _) True.intro ?_)
          rw [oth_succ, decide_eq_true hz, if_neg (by simp), List.append_nil]
          exact ea
        · refine iteNT (fun z => hz (V.int.inj z)) ⟨_, rfl, fin _ _ (SB.refl _ _) True.intro ?_⟩
          rw [oth_succ, decide_eq_false hz, if_pos (by simp), List.map_append, ea]
          rfl
      subst ea
      rw [List.length_map, Int.toNat_natCast] at eH
      have b2 := b1.same s2.same
      refine ⟨b, pH, false, _, rfl, b2, nHb, eH, by rw [List.length_map]; exact oth_pos hl5.2, by rw [List.length_map]; exact Nat.le_trans (oth_len _ _) (by omega), fun jh vh G3 hh b3 t3 => ?_⟩
      rw [List.getElem?_map] at hh
      obtain ⟨hd, hh2, rfl⟩ := Option.map_eq_some_iff.mp hh
      obtain ⟨⟨hd0, hd1⟩, hdt⟩ := oth_mem.mp (List.mem_of_getElem? hh2)
      -- shut
      refine ⟨10, rfl, by decide, by decide, fun pS hpS => ?_⟩
      have nSb := b3.ne hpS
      refine lc_acc walk_range (fun a => a = b) (fun H => Bx H b) (fun i acc _ => ∃ ss : List Int, acc = ss.map V.int ∧ Asc ss ∧ (∀ x ∈ ss, 0 ≤ x ∧ x < i) ∧ ss.length ≤ i) (by decide) hpS nSb b3 (fun H x r _ => r.upd nSb) ⟨[], rfl, Asc.nil, (by intro x hx; cases hx), Nat.le_refl _⟩ (fun _ _ _ => True.intro) (fun i x H6 H' acc Nk Ns hi s r eD hl ⟨ss, ea, e1, e2, e3⟩ y fin skip => ?_) fun G4 acc s4 b4 eS hl ⟨ss, ea, e1, e2, e3⟩ => ?_
      · obtain ⟨rfl, rfl⟩ := y
        show gName 10 (.int (0 + (i : Int))) _ _ _
        rw [Int.zero_add]
        refine ⟨rfl, _, rfl, b, 5, rfl, r, by decide, by decide, fun n H7 n0 n1 hb7 s7 => ⟨rfl, _, rfl, ?_⟩⟩
        refine iteB (fun _ => ⟨_, rfl, fin _ _ s7 hb7 ⟨ss ++ [(i : Int)], by rw [ea, List.map_append]; rfl, e1.snoc fun y hy => (e2 y hy).2, fun x hx => ?_, by rw [List.length_append]; exact Nat.succ_le_succ e3⟩⟩) fun _ => skip _ s7 hb7 ⟨ss, ea, e1, fun x hx => ?_, Nat.le_succ_of_le e3⟩
        · rcases List.mem_append.mp hx with h | h
          · have := e2 x h
            omega
          · rw [List.mem_singleton.mp h]
            omega
        · have := e2 x hx
          omega
      subst ea
      have nSq : pS ≠ pq := fun e => by
        have z := (SB.of (B := fun a => a = b) s2.same).trans t3 pq _ nqb (t1 pq _ nqb qG)
        rw [← e, hpS] at z
        cases z
      have s04 : SX b G' G4 := SB.trans (SB.trans (SB.trans t1 (SB.of s2.same)) t3) s4
      have q4 := s04 pq _ nqb qG
      -- the passage
      refine ⟨_, rfl, .inl ⟨rfl, _, .inl (.inl q4)⟩, _, rfl, _, rfl, ?_⟩
      refine ⟨_, rfl, by show 4 ≤ sizeLine; decide, fun p5 hp5 => ?_⟩
      have n5b := b4.ne hp5
      refine ⟨b, p5, false, [.int 1, .int 1, .int 2, .int 3], rfl, b4.upd n5b, n5b, upd_same, by decide, by decide, fun jl vl G5 hvl b5 t5 => ?_⟩
      refine ⟨_, rfl, by show 5 ≤ sizeLine; decide, fun p6 hp6 => ?_⟩
      have n6b := b5.ne hp6
      refine ⟨b, p6, false, [.int 0, .int 1, .int 1, .int 2, .int 9], rfl, b5.upd n6b, n6b, upd_same, by decide, by decide, fun jw vw G6 hvw b6 t6 => ?_⟩
      have s46 : SX b G4 G6 := SB.trans (SB.trans (SB.trans (SX.new hp5) t5) (SX.new hp6)) t6
      obtain ⟨l, rfl, l1, l9⟩ : ∃ l : Int, vl = .int l ∧ 1 ≤ l ∧ l ≤ 9 := by
        have hm := List.mem_of_getElem? hvl
        simp only [List.mem_cons, List.not_mem_nil, or_false] at hm
        rcases hm with h | h | h | h
        · exact ⟨1, h, by decide, by decide⟩
        · exact ⟨1, h, by decide, by decide⟩
        · exact ⟨2, h, by decide, by decide⟩
        · exact ⟨3, h, by decide, by decide⟩
      obtain ⟨wd, rfl, w0, w9⟩ : ∃ l : Int, vw = .int l ∧ 0 ≤ l ∧ l ≤ 9 := by
        have hm := List.mem_of_getElem? hvw
        simp only [List.mem_cons, List.not_mem_nil, or_false] at hm
        rcases hm with h | h | h | h | h
        · exact ⟨0, h, by decide, by decide⟩
        · exact ⟨1, h, by decide, by decide⟩
        · exact ⟨1, h, by decide, by decide⟩
        · exact ⟨2, h, by decide, by decide⟩
        · exact ⟨9, h, by decide, by decide⟩
      refine ⟨_, rfl, pS, false, _, rfl, s46 pS _ nSb eS, fun p7 G7 g7 e7 => ?_⟩
      refine ⟨by show 5 ≤ sizeLine; decide, fun p8 hp8 => ?_⟩
      have g8 := Same.new (o := .tup [.int t, .int hd, .int l, .int wd, .ref p7]) hp8
      have sA : SX b G' (upd G7 p8 (.tup [.int t, .int hd, .int l, .int wd, .ref p7])) := SB.trans (SB.trans (SB.trans s04 s46) (SB.of g7)) (SB.of g8)
      have q8 := sA pq _ nqb qG
      have b8 := (b6.same g7).same g8
      have wlen : ws.length ≤ 8 := by have := pG.1; omega
      refine ⟨pq, ws, _, rfl, rfl, q8, small1000 (by omega), ?_⟩
      have uL := TS.lst (o := .lst (ws ++ [.ref p8])) q8
      have tsA := (TS.sx sA bG).trans uL
      refine ⟨_, _, _, _, ws ++ [.ref p8], ps ++ [⟨t, hd, l, wd, ss⟩], rfl, b8.upd nqb, fun a x n e => ?_, ?_, ?_, upd_same, (pG.ts tsA).snoc ⟨p8, p7, rfl, uL _ _ upd_same, uL _ _ (g8.get e7)⟩, fun p hp => ?_, by rw [List.length_append]; exact Nat.succ_le_succ lG⟩
      · rw [upd_ne (ne_of_none e fq)]
        exact sA a x n (sG a x n e)
      · rw [upd_ne nRq]
        exact sA pR _ nRb rG
      · show upd _ pq _ pI = _
        rw [upd_ne nIq]
        exact sA pI _ nIb iG
      · rcases List.mem_append.mp hp with h | h
        · exact okG p h
        · rw [List.mem_singleton.mp h]
          exact ⟨tt0, (by show t < (rms.length : Int); omega), hd0, (by show hd < (rms.length : Int); omega), fun e => hdt e.symm, tt1, l1, l9, w0, w9, e1, fun i hi => ⟨(e2 i hi).1, by have := (e2 i hi).2; omega⟩, (by show ss.length ≤ 60; omega)⟩
    · rintro σ G ⟨y4, y5, y6, y7, ws, ps, rfl, bG, sG, rG, iG, qG, pG, okG, lG⟩
      -- smoke
      refine ⟨_, rfl, pR, false, _, rfl, rG, fun pM hpM => ?_⟩
      have nMb := bG.ne hpM
      have nMR : pM ≠ pR := fun e => by rw [e, rG] at hpM; cases hpM
      refine lc_acc walk_sq (fun a => a = b) (fun H => Bx H b) (fun i acc _ => ∃ sm : List (Option Int), acc = sm.map optV ∧ sm.length = i ∧ ∀ (j : Nat) x, sm[j]? = some (some x) → rms[j]? = some 0 ∧ 0 ≤ x ∧ x < 60) (by rw [List.length_map]; omega) hpM nMb bG (fun H x r _ => r.upd nMb) ⟨[], rfl, rfl, fun j x e => by simp at e⟩ (fun _ s _ => s pR _ nRb rG) (fun i x H6 H' acc Nk Ns hi s r eD hl ⟨sm, ea, e1, e2⟩ y fin _ => ?_) fun G1 acc s1 b1 eM hl ⟨sm, ea, e1, e2⟩ => ?_
      · obtain ⟨rfl, hx⟩ := y
        rw [List.getElem?_map] at hx
        obtain ⟨rm0, hrm, rfl⟩ := Option.map_eq_some_iff.mp hx
        rw [yes_eq]
        have ext : ∀ o : Option Int, (∀ x, o = some x → rms[i]? = some 0 ∧ 0 ≤ x ∧ x < 60) → ∃ sm' : List (Option Int), acc ++ [optV o] = sm'.map optV ∧ sm'.length = i + 1 ∧ ∀ (j : Nat) x, sm'[j]? = some (some x) → rms[j]? = some 0 ∧ 0 ≤ x ∧ x < 60 := fun o ho => by
          refine ⟨sm ++ [o], by rw [ea, List.map_append]; rfl, by rw [List.length_append, e1]; rfl, fun j x e => ?_⟩
          by_cases hj : j < sm.length
          · rw [List.getElem?_append_left hj] at e
            exact e2 j x e
          · rw [List.getElem?_append_right (Nat.le_of_not_lt hj)] at e
            have h0 : j - sm.length = 0 := by
              cases hh : j - sm.length with
              | zero => rfl
              | succ m => rw [hh] at e; simp at e
            rw [h0] at e
            have ej : j = i := by omega
            rw [ej]
            exact ho x (Option.some.inj e)
        refine ⟨rfl, _, rfl, rfl, _, rfl, ?_⟩
        by_cases hz : rm0 = 0
        · refine iteDT (by rw [hz]) ⟨_, rfl, _, rfl, b, 12, rfl, r, by decide, by decide, fun n H7 n0 n1 b7 s7 => ⟨by show 3 ≤ sizeLine; decide, fun p hp => ?_⟩⟩
          have npb := b7.ne hp
          refine ⟨b, p, false, [.non, .non, .int n], rfl, b7.upd npb, npb, upd_same, (by show 0 < 3; decide), (by show 3 ≤ 1000; decide), fun j v H8 hv b8 s8 => ?_⟩
          have sX : SX b H' H8 := SB.trans (SB.trans s7 (SX.new hp)) s8
          have hm := List.mem_of_getElem? hv
          simp only [List.mem_cons, List.not_mem_nil, or_false] at hm
          rcases hm with rfl | rfl | rfl
          · exact fin _ _ sX b8 (ext none fun x e => nomatch e)
          · exact fin _ _ sX b8 (ext none fun x e => nomatch e)
          · exact fin _ _ sX b8 (ext (some n) fun x e => by
              cases e
              rw [hrm, hz]
              exact ⟨rfl, n0, by omega⟩)
        · exact iteDF (fun z => hz (V.int.inj z)) (fin _ _ (SB.refl _ _) r (ext none fun x e => nomatch e))
      subst ea
      have q1 := s1 pq _ nqb qG
      have r1 := s1 pR _ nRb rG
      refine ⟨_, rfl, pR, false, _, rfl, r1, fun p1 F1 f1 e1' => ?_⟩
      refine ⟨_, rfl, pq, false, ws, rfl, f1.get q1, fun p2 F2 f2 e2' => ?_⟩
      refine ⟨_, rfl, pM, false, _, rfl, f2.get (f1.get eM), fun p3 F3 f3 e3' => ?_⟩
      refine ⟨by show 3 ≤ sizeLine; decide, fun p4 hp4 => ?_⟩
      have f4 := Same.new (o := .tup [.ref p1, .ref p2, .ref p3]) hp4
      have fA := ((f1.trans f2).trans f3).trans f4
      have tsA : TS G (upd F3 p4 (.tup [.ref p1, .ref p2, .ref p3])) := (TS.sx s1 bG).trans (TS.of fA)
      have lp := pG.1
      rw [List.length_map] at e1
      refine q p4 _ ⟨rms, ps, sm⟩ (b1.same fA) (SB.trans (SB.trans sG s1) (SB.of fA)) ⟨p4, p1, p2, p3, ws, rfl, upd_same, f4.get (f3.get (f2.get e1')), f4.get (f3.get e2'), pG.ts tsA, f4.get e3'⟩
        ⟨by show 1 ≤ rms.length; omega, by show rms.length ≤ 20; omega, hv5, by show ps.length ≤ 60; omega, okG, e1, e2⟩ ⟨hl5.1, by show ps.length ≤ 7; omega⟩
end
end K5
set_option Elab.async false
set_option linter.all false
set_option maxRecDepth 100000
set_option maxHeartbeats 2000000
namespace K5
open PySem PySem.Spec PyProof.Rows L2 PySem.K5X
abbrev sHanded : Stmt := top 43
abbrev nHanded : List Str := ["_law_house_here", "_law_tail", "_law_head", "_law_length", "_law_width", "_law_shut"]
theorem scHanded : FnScope nHanded ["_law_house_here"] (defScope sHanded) := ⟨rfl, rfl, rfl, by decide +kernel, rfl, by decide +kernel, by decide +kernel⟩
section
variable {P : Program} {w : World} {K : PySem.W.Frag} {mg : Str → Option Value} {base : Heap} {cR cP cB cF : Addr}
def spHanded : Sp := fun vs H Q _ => ∃ (v : V) (h : Hse), vs = [v] ∧ HseK true H v h ∧ h.pas.length ≤ 60 ∧ ∀ p H', Same H H' → HseK false H' (.ref p) h → Q (.ref p) H'
theorem ok_handed (T : Tx P K mg) : Ok P w K mg base CX0 "_law_handed" sHanded 1 ["_law_house_here"] spHanded := by
  obtain ⟨f, fd, D⟩ := T.d43
  refine ⟨f, fd, D, D.fn.binds (fun _ _ _ _ _ _ us hl => match us, hl with | [_], _ => rfl), D.fn.ok scHanded (fun vs H Q E h => ?_) (fun cdv A outer s H vs Q E hr h => ?_)⟩
  · obtain ⟨_, _, rfl, _⟩ := h
    rfl
  · obtain ⟨v, h, rfl, ⟨a, r, q, t, ws, rfl, ha, hR, hq, hP, hS⟩, p60, Qt⟩ := h
    refine ⟨_, pss_one (ps_ret (pe_lst (pa_cons (pe_callTy call_listOf (by rfl) T.bi.list (by decide +kernel) (pa_cons (pe_ix ix_sq (pv 0) pe_int (fun _ _ => rfl)) pa_nil))
      (pa_cons (pe_lc (own := [("_law_tail", 1), ("_law_head", 2), ("_law_length", 3), ("_law_width", 4), ("_law_shut", 5)]) (g := gSq 5 (gCons (gName 1) (gCons (gName 2) (gCons (gName 3) (gCons (gName 4) (gCons (gName 5) gNil)))))) (tt := tYes) rfl scHanded.nd
          (pi_sq (pe_ix ix_sq (pv 0) pe_int (fun _ _ => rfl))) (blkOk_by (N := nHanded) (sc := defScope sHanded) (by decide +kernel))
          (fun _ _ _ _ _ => pg_sq rfl (pgs_cons (pg_name (i := 1) scHanded.nd rfl (.inl rfl)) (pgs_cons (pg_name (i := 2) scHanded.nd rfl (.inl rfl)) (pgs_cons (pg_name (i := 3) scHanded.nd rfl (.inl rfl))
            (pgs_cons (pg_name (i := 4) scHanded.nd rfl (.inl rfl)) (pgs_cons (pg_name (i := 5) scHanded.nd rfl (.inl rfl)) pgs_nil))))))
          (fun _ _ _ _ _ => pts_nil) (fun _ _ _ _ _ => pe_lst (pa_cons (pv 1) (pa_cons (pv 2) (pa_cons (pv 3) (pa_cons (pv 4) (pa_cons (pe_callTy call_listOf (by rfl) T.bi.list (by decide +kernel) (pa_cons (pv 5) pa_nil)) pa_nil)))))))
      (pa_cons (pe_callTy call_listOf (by rfl) T.bi.list (by decide +kernel) (pa_cons (pe_ix ix_sq (pv 0) pe_int (fun _ _ => rfl)) pa_nil)) pa_nil))))), ?_⟩
    refine ⟨_, rfl, a, true, _, 0, _, rfl, rfl, ha, atI_nat (j := 0) rfl, r, true, _, rfl, hR, fun p1 hp1 => ?_⟩
    have f1 := Same.new (o := .lst (h.rooms.map V.int)) hp1
    have e1 : upd H p1 (.lst (h.rooms.map V.int)) p1 = some (.lst (h.rooms.map V.int)) := upd_same
    generalize upd H p1 (.lst (h.rooms.map V.int)) = H1 at f1 e1
    refine ⟨_, rfl, a, true, _, 1, _, rfl, rfl, f1.get ha, atI_nat (j := 1) rfl, q, true, ws, rfl, f1.get hq, fun D hD => ?_⟩
    have hP1 := hP.mono f1
    refine lc_map walk_sq (fun i v H => ∀ p, h.pas[i]? = some p → PasK false H v p) (fun i v H H' s z p hp => (z p hp).mono s) (by have := hP.1; omega) hD (fun H s => s.get (f1.get hq)) (fun i x H' _ N hi s ⟨acc, eD⟩ y fin => ?_) fun H5 ys s5 eD hl hys => ?_
    · obtain ⟨rfl, hv⟩ := y
      obtain ⟨p, hpi⟩ : ∃ p, h.pas[i]? = some p := ⟨h.pas[i]'(by have := hP.1; omega), List.getElem?_eq_getElem (by have := hP.1; omega)⟩
      obtain ⟨b, t', rfl, hb, ht⟩ := (hP1.2 i x p hv hpi).mono s
      refine ⟨b, true, _, rfl, hb, rfl, _, _, rfl, _, _, rfl, _, _, rfl, _, _, rfl, _, _, rfl, rfl, ?_⟩
      refine ⟨rfl, _, rfl, _, rfl, _, rfl, _, rfl, _, rfl, t', true, _, rfl, ht, fun p3 hp3 => ?_⟩
      have g3 := Same.new (o := .lst (p.sh.map V.int)) hp3
      refine ⟨by show 5 ≤ sizeLine; decide, fun p5 hp5 => ?_⟩
      have g5 := Same.new (o := .lst [.int p.t, .int p.h, .int p.l, .int p.w, .ref p3]) hp5
      refine fin _ _ (g3.trans g5) fun p' hp' => ?_
      have ep : p = p' := Option.some.inj (hpi.symm.trans hp')
      subst ep
      refine ⟨p5, p3, rfl, ?_, ?_⟩
      · rw [rm_ne (Ne.symm (ne_of_none (g3.get eD) hp5))]
        exact upd_same
      · rw [rm_ne (Ne.symm (ne_of_none eD hp3))]
        exact g5.get upd_same
    · have f15 := f1.trans s5
      refine ⟨_, rfl, a, true, _, 2, _, rfl, rfl, f15.get ha, atI_nat (j := 2) rfl, t, true, _, rfl, f15.get hS, fun p2 hp2 => ?_⟩
      have f2 := Same.new (o := .lst (h.smoke.map optV)) hp2
      refine ⟨by show 3 ≤ sizeLine; decide, fun p4 hp4 => ?_⟩
      have f4 := Same.new (o := .lst [.ref p1, .ref D, .ref p2]) hp4
      have fB := f2.trans f4
      refine Qt p4 _ (f15.trans fB) ⟨p4, p1, D, p2, ys, rfl, upd_same, fB.get (s5.get e1), fB.get eD, ⟨hl.trans hP.1, fun i v p hv hp => ?_⟩, f4.get upd_same⟩
      exact (hys i v hv p hp).mono (rm_le.trans fB)
end
end K5
set_option Elab.async false
set_option linter.all false
set_option maxRecDepth 100000
set_option maxHeartbeats 2000000
namespace K5
open PySem PySem.Spec PyProof.Rows L2 PySem.K5X
/-- f(k = v, ..), by names alone -/
theorem pe_callK0 {X : Cx} {CX : CXT} {k : Nat} {f : Addr} {fd : FuncData} {ps ks : List Str} {sp : Sp} {E : XK} {x : Str} {p pos : Pos} {kws : List Keyword} {tk : TA} {g : List Value → List Value → List Value} {gV : List V → List V → List V}
    (F : FnOk X.prog X.w X.K X.mg X.base CX k f fd ps sp) (hr : Room k X.A) (hg : Gl X x) (hm : X.mg x = some (.ref f)) (hk : PySem.W.keepIn X.K (.ref f) = true) (hb : KBinds X.K fd ps ks g gV) (hx : Passes CX X E)
    (hkw : PK X kws tk) (hall : (backToKw pos (keywordEach kws X.env)).all (·.1.isSome) = true := by rfl) (hks : (backToKw pos (keywordEach kws X.env)).filterMap (·.1) = ks := by rfl)
    (hdb : (x == ("__debug__" : Str)) = false := by decide) (hpl : ((backTo pos (starEach [] X.env)).any (·.1) || (backToKw pos (keywordEach kws X.env)).any (·.1.isNone)) = false := by rfl) :
    PE X (.Call (.Name x p) [] kws pos) (tCallK sp gV E tNil tk) := by
  refine ⟨fun pins s σ H Q I h => ?_⟩
  refine wpAny_Call_Name_kw (ld_glob I hg hm ?_ hdb)
  refine PySem.W.callWith_KW0 (h₀ := X.base) I.ok.mod.kin hk hall ?_ hpl
  refine thn (hkw.run pos pins s σ H _ I h) fun ws s2 ⟨zs, H2, I2, rz, q2⟩ => ⟨I2.kIn, ?_⟩
  rw [hks]
  exact run_fnk F hr hb hx I2 .nil rz q2
def gA1 {α : Type} : List α → List α → List α
  | [], [a] => [a]
  | _, _ => []
def gA2 {α : Type} : List α → List α → List α
  | [], [a, b] => [b, a]
  | _, _ => []
def gA3 {α : Type} : List α → List α → List α
  | [], [a, b, c] => [c, b, a]
  | _, _ => []
def gA4 {α : Type} : List α → List α → List α
  | [], [a, b, c, d] => [d, c, b, a]
  | _, _ => []
theorem gA1_rel {vs zs : List V} {us ws : List Value} (r : Vals vs us) (q : Vals zs ws) : Vals (gA1 vs zs) (gA1 us ws) := by
  cases r with
  | cons _ _ => exact .nil
  | nil =>
    cases q with
    | nil => exact .nil
    | cons a q => cases q with
      | nil => exact .cons a .nil
      | cons b q => exact .nil
theorem gA2_rel {vs zs : List V} {us ws : List Value} (r : Vals vs us) (q : Vals zs ws) : Vals (gA2 vs zs) (gA2 us ws) := by
  cases r with
  | cons _ _ => exact .nil
  | nil =>
    cases q with
    | nil => exact .nil
    | cons a q => cases q with
      | nil => exact .nil
      | cons b q => cases q with
        | nil => exact .cons b (.cons a .nil)
        | cons c q => exact .nil
theorem gA3_rel {vs zs : List V} {us ws : List Value} (r : Vals vs us) (q : Vals zs ws) : Vals (gA3 vs zs) (gA3 us ws) := by
  cases r with
  | cons _ _ => exact .nil
  | nil =>
    cases q with
    | nil => exact .nil
    | cons a q => cases q with
      | nil => exact .nil
      | cons b q => cases q with
        | nil => exact .nil
        | cons c q => cases q with
          | nil => exact .cons c (.cons b (.cons a .nil))
          | cons d q => exact .nil
theorem gA4_rel {vs zs : List V} {us ws : List Value} (r : Vals vs us) (q : Vals zs ws) : Vals (gA4 vs zs) (gA4 us ws) := by
  cases r with
  | cons _ _ => exact .nil
  | nil =>
    cases q with
    | nil => exact .nil
    | cons a q => cases q with
      | nil => exact .nil
      | cons b q => cases q with
        | nil => exact .nil
        | cons c q => cases q with
          | nil => exact .nil
          | cons d q => cases q with
            | nil => exact .cons d (.cons c (.cons b (.cons a .nil)))
            | cons e q => exact .nil
/-! edits -/
inductive Ed
  | smoke (r b : Int)
  | clear (r b : Int)
  | width (i m : Int)
  | shut (i a b : Int)
  | opn (i a b : Int)
  | non
def Ed.vals : Ed → List V
  | .smoke r b => [.str "smoke", .int r, .int b, .non]
  | .clear r b => [.str "clear", .int r, .int b, .non]
  | .width i m => [.str "width", .int i, .int m, .non]
  | .shut i a b => [.str "shut", .int i, .int a, .int b]
  | .opn i a b => [.str "open", .int i, .int a, .int b]
  | .non => [.str "none", .non, .non, .non]
/-- one passage changed by f -/
def onP (h : Hse) (i : Int) (f : Pas → Pas) : Hse := match h.pas[i.toNat]? with
  | some p => setPs h i (f p)
  | none => h
def Ed.on : Ed → Hse → Hse
  | .smoke r b, h => setSm h r (some b)
  | .clear r _, h => setSm h r none
  | .width i m, h => onP h i fun p => ⟨p.t, p.h, p.l, m, p.sh⟩
  | .shut i a b, h => onP h i fun p => ⟨p.t, p.h, p.l, p.w, shutB p.sh a b⟩
  | .opn i a b, h => onP h i fun p => ⟨p.t, p.h, p.l, p.w, openB p.sh a b⟩
  | .non, h => h
def EdOk (h : Hse) : Ed → Prop
  | .smoke r b => 0 ≤ r ∧ h.rooms[r.toNat]? = some 0 ∧ 0 ≤ b ∧ b < 60
  | .clear r _ => 0 ≤ r ∧ h.rooms[r.toNat]? = some 0
  | .width i m => 0 ≤ i ∧ i < h.pas.length ∧ 0 ≤ m ∧ m < 10
  | .shut i a b => 0 ≤ i ∧ i < h.pas.length ∧ 0 ≤ a ∧ a < 60 ∧ 0 ≤ b ∧ b < 60
  | .opn i a b => 0 ≤ i ∧ i < h.pas.length ∧ 0 ≤ a ∧ a < 60 ∧ 0 ≤ b ∧ b < 60
  | .non => True
def EdK (H : Hp) (v : V) (e : Ed) : Prop := ∃ a, v = .ref a ∧ H a = some (.tup e.vals)
theorem onP_some {h : Hse} {i : Int} {f : Pas → Pas} {p : Pas} (e : h.pas[i.toNat]? = some p) : onP h i f = setPs h i (f p) := by
  unfold onP
  rw [e]
theorem room_lt {h : Hse} {r : Int} {x : Int} (r0 : 0 ≤ r) (e : h.rooms[r.toNat]? = some x) : belQ h.rooms.length (.int r) = true := by
  have := (List.getElem?_eq_some_iff.mp e).1
  exact belT r0 (by omega)
abbrev sDone : Stmt := top 45
abbrev nDone : List Str := ["_law_house_here", "_law_edit_here", "_law_is_named", "_law_word", "_law_one", "_law_low", "_law_high"]
theorem scDone : FnScope nDone ["_law_house_here", "_law_edit_here", "_law_is_named"] (defScope sDone) := ⟨rfl, rfl, rfl, by decide +kernel, rfl, by decide +kernel, by decide +kernel⟩
section
variable {P : Program} {w : World} {K : PySem.W.Frag} {mg : Str → Option Value} {base : Heap} {cR cP cB cF : Addr}
theorem kb3 {x : Str} {st : Stmt} {f : Addr} {fd : FuncData} {ps ks : List Str} (F : Fun K x x st f fd) (hl : ps.length = 3)
    (h : ∀ (kV doc pm : Value) (an : Option Addr) (cdv ct : Value) (a b c : Value), bindArgs (PySem.W.fnOf x x (defArgs st) (defBody st) (defScope st) .none kV doc pm an cdv ct) ⟨[], ks.zip [a, b, c]⟩ = pure (ps.zip [c, b, a])) : KBinds K fd ps ks gA3 gA3 := by
  obtain ⟨oc, od, kV, doc, pm, an, cdv, ct, osl, rfl, lk, hcd⟩ := F.ex
  refine ⟨fun s us ws X hlen => ?_, gA3_rel⟩
  match us, ws, hlen with
  | [], [a, b, c], _ => exact .of_eq (h kV doc pm an cdv ct a b c)
  | _ :: _, _, hlen => exact absurd hlen (by rw [hl]; simp [gA3])
  | [], [], hlen => exact absurd hlen (by rw [hl]; simp [gA3])
  | [], [_], hlen => exact absurd hlen (by rw [hl]; simp [gA3])
  | [], [_, _], hlen => exact absurd hlen (by rw [hl]; simp [gA3])
  | [], _ :: _ :: _ :: _ :: _, hlen => exact absurd hlen (by rw [hl]; simp [gA3])
theorem kb2 {x : Str} {st : Stmt} {f : Addr} {fd : FuncData} {ps ks : List Str} (F : Fun K x x st f fd) (hl : ps.length = 2)
    (h : ∀ (kV doc pm : Value) (an : Option Addr) (cdv ct : Value) (a b : Value), bindArgs (PySem.W.fnOf x x (defArgs st) (defBody st) (defScope st) .none kV doc pm an cdv ct) ⟨[], ks.zip [a, b]⟩ = pure (ps.zip [b, a])) : KBinds K fd ps ks gA2 gA2 := by
  obtain ⟨oc, od, kV, doc, pm, an, cdv, ct, osl, rfl, lk, hcd⟩ := F.ex
  refine ⟨fun s us ws X hlen => ?_, gA2_rel⟩
  match us, ws, hlen with
  | [], [a, b], _ => exact .of_eq (h kV doc pm an cdv ct a b)
  | _ :: _, _, hlen => exact absurd hlen (by rw [hl]; simp [gA2])
  | [], [], hlen => exact absurd hlen (by rw [hl]; simp [gA2])
  | [], [_], hlen => exact absurd hlen (by rw [hl]; simp [gA2])
  | [], _ :: _ :: _ :: _, hlen => exact absurd hlen (by rw [hl]; simp [gA2])
theorem kb1 {x : Str} {st : Stmt} {f : Addr} {fd : FuncData} {ps ks : List Str} (F : Fun K x x st f fd) (hl : ps.length = 1)
    (h : ∀ (kV doc pm : Value) (an : Option Addr) (cdv ct : Value) (a : Value), bindArgs (PySem.W.fnOf x x (defArgs st) (defBody st) (defScope st) .none kV doc pm an cdv ct) ⟨[], ks.zip [a]⟩ = pure (ps.zip [a])) : KBinds K fd ps ks gA1 gA1 := by
  obtain ⟨oc, od, kV, doc, pm, an, cdv, ct, osl, rfl, lk, hcd⟩ := F.ex
  refine ⟨fun s us ws X hlen => ?_, gA1_rel⟩
  match us, ws, hlen with
  | [], [a], _ => exact .of_eq (h kV doc pm an cdv ct a)
  | _ :: _, _, hlen => exact absurd hlen (by rw [hl]; simp [gA1])
  | [], [], hlen => exact absurd hlen (by rw [hl]; simp [gA1])
  | [], _ :: _ :: _, hlen => exact absurd hlen (by rw [hl]; simp [gA1])
theorem kb4 {x : Str} {st : Stmt} {f : Addr} {fd : FuncData} {ps ks : List Str} (F : Fun K x x st f fd) (hl : ps.length = 4)
    (h : ∀ (kV doc pm : Value) (an : Option Addr) (cdv ct : Value) (a b c d : Value), bindArgs (PySem.W.fnOf x x (defArgs st) (defBody st) (defScope st) .none kV doc pm an cdv ct) ⟨[], ks.zip [a, b, c, d]⟩ = pure (ps.zip [d, c, b, a])) : KBinds K fd ps ks gA4 gA4 := by
  obtain ⟨oc, od, kV, doc, pm, an, cdv, ct, osl, rfl, lk, hcd⟩ := F.ex
  refine ⟨fun s us ws X hlen => ?_, gA4_rel⟩
  match us, ws, hlen with
  | [], [a, b, c, d], _ => exact .of_eq (h kV doc pm an cdv ct a b c d)
  | _ :: _, _, hlen => exact absurd hlen (by rw [hl]; simp [gA4])
  | [], [], hlen => exact absurd hlen (by rw [hl]; simp [gA4])
  | [], [_], hlen => exact absurd hlen (by rw [hl]; simp [gA4])
  | [], [_, _], hlen => exact absurd hlen (by rw [hl]; simp [gA4])
  | [], [_, _, _], hlen => exact absurd hlen (by rw [hl]; simp [gA4])
  | [], _ :: _ :: _ :: _ :: _ :: _, hlen => exact absurd hlen (by rw [hl]; simp [gA4])
def spDone : Sp := fun vs H Q _ => ∃ (v e : V) (n k : Bool) (h : Hse) (ed : Ed), vs = [v, e, .bl n] ∧ HseK k H v h ∧ HseOk h ∧ EdK H e ed ∧ EdOk h ed ∧ ∀ p H', Same H H' → HseK true H' (.ref p) (ed.on h) → Q (.ref p) H'
theorem ok_done (T : Tx P K mg) (X : Ex P K mg cR cP cB cF) : Ok P w K mg base CX0 "_law_done" sDone 9 ["_law_house_here", "_law_edit_here", "_law_is_named"] spDone := by
  obtain ⟨f, fd, D⟩ := T.d45
  obtain ⟨fS, fdS, DS, bS, GS⟩ := ok_WS (P := P) (w := w) (base := base) T X
  obtain ⟨fC, fdC, DC, bC, GC⟩ := ok_Cl (P := P) (w := w) (base := base) T X
  obtain ⟨fW, fdW, DW, bW, GW⟩ := ok_WW (P := P) (w := w) (base := base) T X
  obtain ⟨fH, fdH, DH, bH, GH⟩ := ok_WH (P := P) (w := w) (base := base) T X
  obtain ⟨fO, fdO, DO, bO, GO⟩ := ok_WO (P := P) (w := w) (base := base) T X
  obtain ⟨fK, fdK, DK, bK, GK⟩ := ok_chk (P := P) (w := w) (base := base) T
  have kS : KBinds K fdS ["house", "room", "beat"] ["beat", "room", "house"] gA3 gA3 := kb3 DS.fn rfl fun _ _ _ _ _ _ _ _ _ => rfl
  have kC : KBinds K fdC ["house", "room"] ["room", "house"] gA2 gA2 := kb2 DC.fn rfl fun _ _ _ _ _ _ _ _ => rfl
  have kW : KBinds K fdW ["house", "passage", "many"] ["many", "passage", "house"] gA3 gA3 := kb3 DW.fn rfl fun _ _ _ _ _ _ _ _ _ => rfl
  have kH : KBinds K fdH ["house", "passage", "low", "high"] ["high", "low", "passage", "house"] gA4 gA4 := kb4 DH.fn rfl fun _ _ _ _ _ _ _ _ _ _ => rfl
  have kO : KBinds K fdO ["house", "passage", "low", "high"] ["high", "low", "passage", "house"] gA4 gA4 := kb4 DO.fn rfl fun _ _ _ _ _ _ _ _ _ _ => rfl
  have kK : KBinds K fdK ["value"] ["value"] gA1 gA1 := kb1 DK.fn rfl fun _ _ _ _ _ _ _ => rfl
  refine ⟨f, fd, D, D.fn.binds (fun _ _ _ _ _ _ us hl => match us, hl with | [_, _, _], _ => rfl), D.fn.ok scDone (fun vs H Q E h => ?_) (fun cdv A outer s H vs Q E hr h => ?_)⟩
  · obtain ⟨_, _, _, _, _, _, rfl, _⟩ := h
    rfl
  · obtain ⟨v, e, n, k, h, ed, rfl, hh, ok, ⟨a, rfl, ha⟩, eo, q⟩ := h
    have hr7 : Room 7 _ := hr.mono (by decide)
    refine ⟨_, pss_cons (ps_asg (pv 1) (pg_tup (n := 4) rfl (pgs_cons (pg_name (i := 3) scDone.nd rfl (.inl rfl)) (pgs_cons (pg_name (i := 4) scDone.nd rfl (.inl rfl)) (pgs_cons (pg_name (i := 5) scDone.nd rfl (.inl rfl)) (pgs_cons (pg_name (i := 6) scDone.nd rfl (.inl rfl)) pgs_nil))))))
      (pss_cons (ps_if (pt_cmpR op_eq (pv 3) pe_str (nomark _)) (pss_one (ps_ret (pe_ifExp (pt_val (pv 2))
        (pe_callK0 GS hr (by rfl) DS.gl DS.fn.kp kS passL (pk_cons (pv 5) (pk_cons (pv 4) (pk_cons (pv 0) pk_nil)))) (pe_call GS hr (by rfl) DS.gl DS.fn.kp bS .nil passL (pa_cons (pv 0) (pa_cons (pv 4) (pa_cons (pv 5) pa_nil))))))) pss_nil)
      (pss_cons (ps_if (pt_cmpR op_eq (pv 3) pe_str (nomark _)) (pss_one (ps_ret (pe_ifExp (pt_val (pv 2))
        (pe_callK0 GC hr (by rfl) DC.gl DC.fn.kp kC passL (pk_cons (pv 4) (pk_cons (pv 0) pk_nil))) (pe_call GC hr (by rfl) DC.gl DC.fn.kp bC .nil passL (pa_cons (pv 0) (pa_cons (pv 4) pa_nil)))))) pss_nil)
      (pss_cons (ps_if (pt_cmpR op_eq (pv 3) pe_str (nomark _)) (pss_one (ps_ret (pe_ifExp (pt_val (pv 2))
        (pe_callK0 GW hr (by rfl) DW.gl DW.fn.kp kW passL (pk_cons (pv 5) (pk_cons (pv 4) (pk_cons (pv 0) pk_nil)))) (pe_call GW hr (by rfl) DW.gl DW.fn.kp bW .nil passL (pa_cons (pv 0) (pa_cons (pv 4) (pa_cons (pv 5) pa_nil))))))) pss_nil)
      (pss_cons (ps_if (pt_cmpR op_eq (pv 3) pe_str (nomark _)) (pss_one (ps_ret (pe_ifExp (pt_val (pv 2))
        (pe_callK0 GH hr (by rfl) DH.gl DH.fn.kp kH passL (pk_cons (pv 6) (pk_cons (pv 5) (pk_cons (pv 4) (pk_cons (pv 0) pk_nil))))) (pe_call GH hr (by rfl) DH.gl DH.fn.kp bH .nil passL (pa_cons (pv 0) (pa_cons (pv 4) (pa_cons (pv 5) (pa_cons (pv 6) pa_nil)))))))) pss_nil)
      (pss_cons (ps_if (pt_cmpR op_eq (pv 3) pe_str (nomark _)) (pss_one (ps_ret (pe_ifExp (pt_val (pv 2))
        (pe_callK0 GO hr (by rfl) DO.gl DO.fn.kp kO passL (pk_cons (pv 6) (pk_cons (pv 5) (pk_cons (pv 4) (pk_cons (pv 0) pk_nil))))) (pe_call GO hr (by rfl) DO.gl DO.fn.kp bO .nil passL (pa_cons (pv 0) (pa_cons (pv 4) (pa_cons (pv 5) (pa_cons (pv 6) pa_nil)))))))) pss_nil)
      (pss_one (ps_ret (pe_ifExp (pt_val (pv 2))
        (pe_callK0 GK hr7 (by rfl) DK.gl DK.fn.kp kK pass0 (pk_cons (pv 0) pk_nil)) (pe_call GK hr7 (by rfl) DK.gl DK.fn.kp bK .nil pass0 (pa_cons (pv 0) pa_nil)))))))))), ?_⟩
    have ne : ∀ {x y : Str}, x ≠ y → ¬ (V.str x = V.str y) := fun h z => h (V.str.inj z)
    cases ed with
    | smoke r b =>
      obtain ⟨r0, r1, b0, b1⟩ := eo
      have sp : ∀ {E : XK}, spWS cR cB cF [v, .int r, .int b] H Q E := ⟨v, .int r, .int b, k, h, rfl, hh, ok, .int r, .int b, fun z => (by rw [room_lt r0 r1] at z; cases z), fun i ei _ hi => (by cases ei; rw [r1] at hi; cases hi), fun i ei _ _ z => (by rw [belT b0 b1] at z; cases z), fun i j ei _ _ ej _ _ p H' s' hp => by cases ei; cases ej; exact q p H' s' hp⟩
      refine ⟨_, rfl, a, _, rfl, sqT ha, rfl, _, _, rfl, _, _, rfl, _, _, rfl, _, _, rfl, rfl, ?_⟩
      refine ⟨_, rfl, rfl, _, rfl, iteDT rfl ⟨_, rfl, n, rfl, iteB (fun _ => ⟨_, rfl, _, rfl, _, rfl, sp⟩) fun _ => ⟨_, rfl, _, rfl, _, rfl, sp⟩⟩⟩
    | clear r b =>
      obtain ⟨r0, r1⟩ := eo
      have sp : ∀ {E : XK}, spCl cR cF [v, .int r] H Q E := ⟨v, .int r, k, h, rfl, hh, ok, .int r, fun z => (by rw [room_lt r0 r1] at z; cases z), fun i ei _ hi => (by cases ei; rw [r1] at hi; cases hi), fun i ei _ _ p H' s' hp => by cases ei; exact q p H' s' hp⟩
      refine ⟨_, rfl, a, _, rfl, sqT ha, rfl, _, _, rfl, _, _, rfl, _, _, rfl, _, _, rfl, rfl, ?_⟩
      refine ⟨_, rfl, rfl, _, rfl, iteDF (ne (by decide)) ⟨_, rfl, rfl, _, rfl, iteDT rfl ⟨_, rfl, n, rfl, iteB (fun _ => ⟨_, rfl, _, rfl, sp⟩) fun _ => ⟨_, rfl, _, rfl, sp⟩⟩⟩⟩
    | width i m =>
      obtain ⟨i0, i1, m0, m1⟩ := eo
      have hp : h.pas[i.toNat]? = some h.pas[i.toNat] := List.getElem?_eq_getElem (by omega)
      have sp : ∀ {E : XK}, spWW cP cF [v, .int i, .int m] H Q E := ⟨v, .int i, .int m, k, h, rfl, hh, ok, .int i, .int m, fun z => (by rw [belT i0 i1] at z; cases z), fun _ _ _ _ _ z => (by rw [belT m0 m1] at z; cases z), fun i' p' j ei _ hp' ej _ _ p H' s' hh' => by cases ei; cases ej; exact q p H' s' (by rw [show (Ed.width i m).on h = _ from onP_some hp']; exact hh')⟩
      refine ⟨_, rfl, a, _, rfl, sqT ha, rfl, _, _, rfl, _, _, rfl, _, _, rfl, _, _, rfl, rfl, ?_⟩
      refine ⟨_, rfl, rfl, _, rfl, iteDF (ne (by decide)) ⟨_, rfl, rfl, _, rfl, iteDF (ne (by decide)) ⟨_, rfl, rfl, _, rfl, iteDT rfl ⟨_, rfl, n, rfl, iteB (fun _ => ⟨_, rfl, _, rfl, _, rfl, sp⟩) fun _ => ⟨_, rfl, _, rfl, _, rfl, sp⟩⟩⟩⟩⟩
    | shut i x y =>
      obtain ⟨i0, i1, x0, x1, y0, y1⟩ := eo
      have sp : ∀ {E : XK}, spWH shutB cP cB [v, .int i, .int x, .int y] H Q E := ⟨v, .int i, .int x, .int y, k, h, rfl, hh, ok, .int i, .int x, .int y, fun z => (by rw [belT i0 i1] at z; cases z), fun _ _ _ _ _ z => (by rw [belT x0 x1] at z; cases z), fun _ _ _ _ _ _ z => (by rw [belT y0 y1] at z; cases z),
        fun i' p' a' b' ei _ hp' ea eb _ _ _ _ p H' s' hh' => by cases ei; cases ea; cases eb; exact q p H' s' (by rw [show (Ed.shut i x y).on h = _ from onP_some hp']; exact hh')⟩
      refine ⟨_, rfl, a, _, rfl, sqT ha, rfl, _, _, rfl, _, _, rfl, _, _, rfl, _, _, rfl, rfl, ?_⟩
      refine ⟨_, rfl, rfl, _, rfl, iteDF (ne (by decide)) ⟨_, rfl, rfl, _, rfl, iteDF (ne (by decide)) ⟨_, rfl, rfl, _, rfl, iteDF (ne (by decide)) ⟨_, rfl, rfl, _, rfl, iteDT rfl ⟨_, rfl, n, rfl, iteB (fun _ => ⟨_, rfl, _, rfl, _, rfl, _, rfl, sp⟩) fun _ => ⟨_, rfl, _, rfl, _, rfl, _, rfl, sp⟩⟩⟩⟩⟩⟩
    | opn i x y =>
      obtain ⟨i0, i1, x0, x1, y0, y1⟩ := eo
      have sp : ∀ {E : XK}, spWH openB cP cB [v, .int i, .int x, .int y] H Q E := ⟨v, .int i, .int x, .int y, k, h, rfl, hh, ok, .int i, .int x, .int y, fun z => (by rw [belT i0 i1] at z; cases z), fun _ _ _ _ _ z => (by rw [belT x0 x1] at z; cases z), fun _ _ _ _ _ _ z => (by rw [belT y0 y1] at z; cases z),
        fun i' p' a' b' ei _ hp' ea eb _ _ _ _ p H' s' hh' => by cases ei; cases ea; cases eb; exact q p H' s' (by rw [show (Ed.opn i x y).on h = _ from onP_some hp']; exact hh')⟩
      refine ⟨_, rfl, a, _, rfl, sqT ha, rfl, _, _, rfl, _, _, rfl, _, _, rfl, _, _, rfl, rfl, ?_⟩
      refine ⟨_, rfl, rfl, _, rfl, iteDF (ne (by decide)) ⟨_, rfl, rfl, _, rfl, iteDF (ne (by decide)) ⟨_, rfl, rfl, _, rfl, iteDF (ne (by decide)) ⟨_, rfl, rfl, _, rfl, iteDF (ne (by decide)) ⟨_, rfl, rfl, _, rfl, iteDT rfl ⟨_, rfl, n, rfl, iteB (fun _ => ⟨_, rfl, _, rfl, _, rfl, _, rfl, sp⟩) fun _ => ⟨_, rfl, _, rfl, _, rfl, _, rfl, sp⟩⟩⟩⟩⟩⟩⟩
    | non =>
      have sp : spChk [v] H Q E0 := ⟨v, k, h, rfl, hh, ok, fun p H' s' hp => q p H' s' hp⟩
      refine ⟨_, rfl, a, _, rfl, sqT ha, rfl, _, _, rfl, _, _, rfl, _, _, rfl, _, _, rfl, rfl, ?_⟩
      refine ⟨_, rfl, rfl, _, rfl, iteDF (ne (by decide)) ⟨_, rfl, rfl, _, rfl, iteDF (ne (by decide)) ⟨_, rfl, rfl, _, rfl, iteDF (ne (by decide)) ⟨_, rfl, rfl, _, rfl, iteDF (ne (by decide)) ⟨_, rfl, rfl, _, rfl, iteDF (ne (by decide)) ⟨_, rfl, n, rfl, iteB (fun _ => ⟨_, rfl, sp⟩) fun _ => ⟨_, rfl, sp⟩⟩⟩⟩⟩⟩⟩
end
end K5
set_option Elab.async false
set_option linter.all false
set_option maxRecDepth 100000
set_option maxHeartbeats 4000000
namespace L2
open PySem PySem.Spec PyProof.Rows
section
variable {P : Program} {w : World} {A : Around} {E : Value → Shared → Prop} {s : Shared}
/-- set(xs), xs a list of ints -/
theorem set_of_list {l : Addr} {items : Array Value} (ns : List Int) {Q : Value → Shared → Prop} (hh : A.handled = none) (hl : s.heap.IsList l items) (hit : IntsAre items.toList ns) (hb : ns.length + 1 < scanBound)
    (h : ∀ (h' : Heap) (tk c : Nat), SetR w h' s.heap.objs.size (fun j => decide (j ∈ ns)) c → (∀ b o, s.heap.get? b = some o → h'.get? b = some o) → Q (.ref s.heap.objs.size) { s with heap := h', toks := tk }) :
    wpAny (model P w) A (call (.type "set") [.ref l]) Q E s := by
  have hisz : items.size = ns.length := by
    have q := IntsAre.length hit
    rw [Array.length_toList] at q
    exact q
  obtain ⟨c, tl, hmro⟩ := F.called_set.mro
  have hmade := F.called_set.made
  have hsub := F.called_set.sub
  refine wpAny_call (codeAny_of_tree ?_)
  show wpAny _ _ (callAny (.type "set") _) _ _ _
  refine wpAny_pure ⟨Code.quiet_builtin _ (by decide +kernel), codeAny_builtin F.entry_type_call ?_⟩
  rw [Around.under_plain (weight_type_call_type "set" [.ref l] []) rfl]
  have h1 := F.called_set.notType
  have h2 := F.called_set.canCreate
  have hct := F.typeCall_set_1 (.ref l)
  repeat (any_goals (first | assumption | wp_step))
  refine codeAny_mono (code_set_led1 (.ref l) (E := E) (Q₁ := fun obj s₁ => obj = .ref s.heap.objs.size ∧ s₁ = { s with heap := s.heap.push { cls := .type "set", dict := none, data := .set #[] 0 (.fresh 0 0 (!w.params.followText "set-order")) } }) ⟨rfl, rfl⟩) fun r s₁ hr => ?_
  cases r with
  | error e => exact hr
  | ok fl =>
    cases fl with
    | ret obj =>
      obtain ⟨rfl, rfl⟩ := hr
      have hS : (s.heap.push { cls := .type "set", dict := none, data := .set #[] 0 (.fresh 0 0 (!w.params.followText "set-order")) }).get? s.heap.objs.size = some { cls := .type "set", dict := none, data := .set #[] 0 (.fresh 0 0 (!w.params.followText "set-order")) } := Heap.get?_push_size _ rfl
      have hT : Shared.TypeIs { s with heap := s.heap.push { cls := .type "set", dict := none, data := .set #[] 0 (.fresh 0 0 (!w.params.followText "set-order")) } } (.ref s.heap.objs.size) "set" := ⟨_, hS, rfl⟩
      have hli := F.called_set.init.lookup
      have hbi := F.called_set.init.bind (.ref s.heap.objs.size)
      repeat (any_goals (first | assumption | wp_step))
      refine codeAny_mono (codeAny_call_builtin (R := wants (fun r s₂ => r = .none ∧ ∃ h' tk c, s₂ = { s with heap := h', toks := tk } ∧ SetR w h' s.heap.objs.size (fun j => decide (j ∈ ns)) c ∧
          (∀ b o, s.heap.get? b = some o → h'.get? b = some o)) E) F.called_set.init.plain F.entry_set_init (check_set_init_1 hT ?_)) fun r₂ s₂ hr₂ => ?_
      · obtain ⟨ol, hol, hcl, nl, hdl⟩ := hl
        obtain ⟨ocls, odict, odata, oslots⟩ := ol
        simp only at hcl hdl
        subst hcl; subst hdl
        have hol' : (s.heap.push { cls := .type "set", dict := none, data := .set #[] 0 (.fresh 0 0 (!w.params.followText "set-order")) }).get? l = some { cls := .type "list", dict := odict, data := .seq items nl, slots := oslots } := Heap.get?_push_of_some _ hol
        have hsls := F.sub_list_set
        have hslf := F.sub_list_frozenset
        have hne : (Value.type "list" == Value.type "dict") = false := by decide
        have hl1 : (s.heap.push { cls := .type "set", dict := none, data := .set #[] 0 (.fresh 0 0 (!w.params.followText "set-order")) }).IsList l items := ⟨_, hol', rfl, nl, rfl⟩
        unfold Builtin.«set.__init__» noKeywords Builtin.Frozenset.updateFrom
        generalize hPI : pyIter = PI
        wp_walk
        subst hPI
        refine wpAny_pyIter_list hl1 ?_
        refine wpAny_bind (wpAny_runValue ?_)
        have hlS : l < s.heap.objs.size := Heap.lt_size hol
        have hh3 : A.in1.in1.in1.handled = none := by simp [hh]
        have hneI : l ≠ (s.heap.push { cls := .type "set", dict := none, data := .set #[] 0 (.fresh 0 0 (!w.params.followText "set-order")) }).objs.size := by
          rw [Heap.size_push]; exact Nat.ne_of_lt (Nat.lt_succ_of_lt hlS)
        have hSf : s.heap.objs.size ∉ [(s.heap.push { cls := .type "set", dict := none, data := .set #[] 0 (.fresh 0 0 (!w.params.followText "set-order")) }).objs.size, l] := by
          rw [Heap.size_push]; simp only [List.mem_cons, List.mem_singleton, List.not_mem_nil, or_false, not_or]
          exact ⟨Nat.ne_of_lt (Nat.lt_succ_self _), Nat.ne_of_gt hlS⟩
        have hval : ∀ (i : Nat) (v : Value), items[i]? = some v → ∃ k t, ns[i]? = some k ∧ v = .int k t := fun i v hv => by
          have hi : i < ns.length := by rw [← hisz]; exact (Array.getElem?_eq_some_iff.mp hv).1
          obtain ⟨t, e⟩ := PyProof.Rows.IntsAre.int_at hit i v (by rw [Array.getElem?_toList]; exact hv)
          refine ⟨ns[i], t, List.getElem?_eq_getElem hi, ?_⟩
          rw [e, List.getD_eq_getElem?_getD, List.getElem?_eq_getElem hi] <;> rfl
        refine set_update_ints ((Walks.list hh3 _ l hneI items).toS) s.heap.objs.size
          hSf ns hisz hb hval (items.size - 0) 0 _ (by omega) (Nat.zero_le _)
          ⟨⟨_, Heap.get?_push_size _ rfl, rfl, rfl⟩, (hl1.push _)⟩ ?hS0 ?hR
        case hS0 =>
          have hget : ((s.heap.push { cls := .type "set", dict := none, data := .set #[] 0 (.fresh 0 0 (!w.params.followText "set-order")) }).push { cls := .type "list_iterator", data := .fields #[.ref l, .int 0 0] }).get? s.heap.objs.size
              = some { cls := .type "set", dict := none, data := .set #[] 0 (.fresh 0 0 (!w.params.followText "set-order")) } := Heap.get?_push_of_some _ hS
          exact ⟨0, Nat.le_refl 0, setR_new_at hget⟩
        case hR =>
          intro s' c' hm hc' hS'
          obtain ⟨h', g2, d', tk', os'⟩ := s'
          have eg : g2 = s.gens := hm.gens
          have ed : d' = s.drawn := hm.drawn
          have eo : os' = s.os := hm.os
          subst eg; subst ed; subst eo
          show wpAny _ _ _ _ _ _
          refine wpAny_pure ?_
          show wpAny _ _ (ret Value.none) _ _ _
          refine wpAny_pure ⟨rfl, h', tk', c', rfl, hS', fun b o e => ?_⟩
          have hb0 : b < s.heap.objs.size := Heap.lt_size e
          have hb1 : b ≠ s.heap.objs.size := Nat.ne_of_lt hb0
          have hb2 : b ≠ (s.heap.push { cls := .type "set", dict := none, data := .set #[] 0 (.fresh 0 0 (!w.params.followText "set-order")) }).objs.size := by
            rw [Heap.size_push]; exact Nat.ne_of_lt (Nat.lt_succ_of_lt hb0)
          exact hm.heap b o (by simp only [List.mem_cons, List.mem_singleton, List.not_mem_nil, or_false, not_or]; exact ⟨hb1, hb2⟩) (Heap.get?_push_of_some _ (Heap.get?_push_of_some _ e))
      · cases r₂ with
        | error e => exact hr₂
        | ok fl₂ =>
          cases fl₂ with
          | ret r =>
            obtain ⟨rfl, h', tk, c', rfl, hS', hk'⟩ := hr₂
            repeat (any_goals (first | assumption | wp_step))
            exact h _ _ _ hS' hk'
          | _ => exact hr₂.elim
    | _ => exact hr.elim
end
/-- set(xs): its size is told by a bound of its members -/
def rSetLI (w : World) : List V → Hp → VK → Prop := fun vs H Q => ∃ (a : Addr) (ns : List Int), vs = [V.ref a] ∧ H a = some (.lst (ns.map V.int)) ∧ ns.length ≤ 1000 ∧
  ∀ p n, H p = none → (∀ m : Nat, (∀ j ∈ ns, 0 ≤ j ∧ j < m) → n ≤ m) → Q (.ref p) (upd H p (SetO w p (fun j => decide (j ∈ ns)) n))
theorem call_setL {X : Cx} (hc : X.calm = true) : CallR X (.type "set") (rSetLI X.w) := by
  intro pins s σ H vs us Q I r h
  obtain ⟨a, ns, rfl, ha, hl, q⟩ := h
  obtain ⟨u, rfl, r1⟩ := vals1 r
  cases (show u = Value.ref a from r1)
  obtain ⟨its, rv, pl, _⟩ := I.list (.inl (.inl ha))
  refine set_of_list ns (I.ok.hd hc) pl.isList (by simpa using rv.ints) (by unfold scanBound; omega) fun h' tk c R k => ?_
  have hn : H s.heap.objs.size = none := I.hok.fresh (Nat.le_refl _)
  refine ⟨.ref s.heap.objs.size, _, I.laid (t' := tk) k (Nat.le_refl _) (setO_new R), rfl, q _ c hn fun m hm => ?_⟩
  obtain ⟨o, es, ep, t, ho, hx, hd, g, nd, hs, hb, hf, en, _⟩ := R
  have hsub : ∀ x ∈ es.toList.map keyOf, x ∈ (List.range m).map (fun (i : Nat) => (i : Int)) := fun x hx => by
    have h1 := of_decide_eq_true ((hs x).mpr hx)
    obtain ⟨h2, h3⟩ := hm x h1
    exact List.mem_map.mpr ⟨x.toNat, List.mem_range.mpr (by omega), by omega⟩
  have := nd.length_le_of_subset hsub
  rw [List.length_map, List.length_map, List.length_range, Array.length_toList] at this
  omega
end L2
set_option Elab.async false
set_option linter.all false
set_option maxRecDepth 100000
set_option maxHeartbeats 2000000
namespace K5
open PySem PySem.Spec PyProof.Rows L2 PySem.K5X
/-! plain laws of beats -/
theorem mem_upTo {sh : List Int} {a b x : Int} {n : Nat} : x ∈ upTo sh a b n ↔ (0 ≤ x ∧ x < n) ∧ (x ∈ sh ∨ (a ≤ x ∧ x ≤ b)) := by
  unfold upTo
  rw [List.mem_filter, List.mem_map, Bool.or_eq_true, Bool.and_eq_true, decide_eq_true_eq, decide_eq_true_eq, decide_eq_true_eq]
  constructor
  · rintro ⟨⟨k, hk, rfl⟩, h2⟩
    rw [List.mem_range] at hk
    exact ⟨⟨by omega, by omega⟩, h2⟩
  · rintro ⟨⟨h0, h1⟩, h2⟩
    exact ⟨⟨x.toNat, List.mem_range.mpr (by omega), by omega⟩, h2⟩
theorem upTo_sorted (sh : List Int) (a b : Int) : ∀ n, (upTo sh a b n).Pairwise (· < ·)
  | 0 => List.Pairwise.nil
  | n + 1 => by
    rw [upTo_succ]
    refine List.pairwise_append.mpr ⟨upTo_sorted sh a b n, ?_, fun x hx y hy => ?_⟩
    · split
      · exact List.pairwise_singleton _ _
      · exact List.Pairwise.nil
    · have h1 := (mem_upTo.mp hx).1.2
      split at hy
      · rw [List.mem_singleton.mp hy]
        exact h1
      · cases hy
theorem lt_nodup {l : List Int} (h : l.Pairwise (· < ·)) : l.Nodup := h.imp fun hab e => by omega
theorem sorted_eq {l m : List Int} (hl : l.Pairwise (· < ·)) (hm : m.Pairwise (· < ·)) (h : ∀ x, x ∈ l ↔ x ∈ m) : l = m :=
  List.Perm.eq_of_pairwise (le := fun a b : Int => a < b) (fun a b _ _ h1 h2 => by omega) hl hm ((List.perm_ext_iff_of_nodup (lt_nodup hl) (lt_nodup hm)).mpr h)
theorem asc_pairwise : ∀ {l : List Int}, Asc l → l.Pairwise (· < ·)
  | [], _ => List.Pairwise.nil
  | [x], _ => List.pairwise_singleton _ _
  | x :: y :: r, h => by
    have ih := asc_pairwise (l := y :: r) fun i a b e1 e2 => h (i + 1) a b e1 e2
    have hxy : x < y := h 0 x y rfl rfl
    refine List.pairwise_cons.mpr ⟨fun z hz => ?_, ih⟩
    rcases List.mem_cons.mp hz with rfl | hz
    · exact hxy
    · have := (List.pairwise_cons.mp ih).1 z hz
      omega
theorem pairwise_asc {l : List Int} (h : l.Pairwise (· < ·)) : Asc l := fun i a b e1 e2 => by
  obtain ⟨h1, rfl⟩ := List.getElem?_eq_some_iff.mp e1
  obtain ⟨h2, rfl⟩ := List.getElem?_eq_some_iff.mp e2
  exact List.pairwise_iff_getElem.mp h i (i + 1) h1 h2 (Nat.lt_succ_self i)
theorem openB_len (sh : List Int) (a b : Int) : (openB sh a b).length ≤ sh.length := List.length_filter_le _ _
theorem mem_openB {sh : List Int} {a b x : Int} : x ∈ openB sh a b ↔ x ∈ sh ∧ ¬ (a ≤ x ∧ x ≤ b) := by
  unfold openB
  rw [List.mem_filter, Bool.not_eq_true', Bool.and_eq_false_iff, decide_eq_false_iff_not, decide_eq_false_iff_not]
  constructor
  · rintro ⟨h1, h2⟩
    exact ⟨h1, fun h => by rcases h2 with h2 | h2 <;> omega⟩
  · rintro ⟨h1, h2⟩
    refine ⟨h1, ?_⟩
    by_cases h : a ≤ x
    · exact .inr fun h3 => h2 ⟨h, h3⟩
    · exact .inl h
theorem openB_sorted {sh : List Int} {a b : Int} (h : sh.Pairwise (· < ·)) : (openB sh a b).Pairwise (· < ·) := h.filter _
/-! edits keep a house -/
theorem PasOk.sh {rooms : List Int} {p : Pas} (h : PasOk rooms p) {s : List Int} (h1 : Asc s) (h2 : ∀ i ∈ s, 0 ≤ i ∧ i < 60) (h3 : s.length ≤ 60) : PasOk rooms ⟨p.t, p.h, p.l, p.w, s⟩ :=
  ⟨h.t0, h.t1, h.h0, h.h1, h.ne, h.ins, h.l1, h.l9, h.w0, h.w9, h1, h2, h3⟩
theorem PasOk.shut {rooms : List Int} {p : Pas} (h : PasOk rooms p) (a b : Int) : PasOk rooms ⟨p.t, p.h, p.l, p.w, shutB p.sh a b⟩ :=
  h.sh (pairwise_asc (upTo_sorted _ _ _ _)) (fun i hi => by have := (mem_upTo.mp hi).1; omega) (upTo_len _ _ _ _)
theorem PasOk.opn {rooms : List Int} {p : Pas} (h : PasOk rooms p) (a b : Int) : PasOk rooms ⟨p.t, p.h, p.l, p.w, openB p.sh a b⟩ :=
  h.sh (pairwise_asc (openB_sorted (asc_pairwise h.asc))) (fun i hi => h.bd i (mem_openB.mp hi).1) (Nat.le_trans (openB_len _ _ _) h.len)
theorem PasOk.wid {rooms : List Int} {p : Pas} (h : PasOk rooms p) {m : Int} (h0 : 0 ≤ m) (h1 : m < 10) : PasOk rooms ⟨p.t, p.h, p.l, m, p.sh⟩ :=
  ⟨h.t0, h.t1, h.h0, h.h1, h.ne, h.ins, h.l1, h.l9, h0, by show m ≤ 9; omega, h.asc, h.bd, h.len⟩
theorem HseOk.setPs {h : Hse} (x : HseOk h) {i : Int} {p : Pas} (hp : PasOk h.rooms p) : HseOk (setPs h i p) :=
  ⟨x.r1, x.r20, x.rv, by rw [show (K5.setPs h i p).pas = h.pas.set i.toNat p from rfl, List.length_set]; exact x.p60, fun q hq => by
    rcases List.mem_or_eq_of_mem_set hq with h1 | h1
    · exact x.pk q h1
    · rw [h1]; exact hp, x.sl, x.sk⟩
theorem HseOk.setSm {h : Hse} (x : HseOk h) {r : Int} {o : Option Int} (hr : h.rooms[r.toNat]? = some 0) (ho : ∀ b, o = some b → 0 ≤ b ∧ b < 60) : HseOk (setSm h r o) :=
  ⟨x.r1, x.r20, x.rv, x.p60, x.pk, by rw [show (K5.setSm h r o).smoke = h.smoke.set r.toNat o from rfl, List.length_set]; exact x.sl, fun i b e => by
    rw [show (K5.setSm h r o).smoke = h.smoke.set r.toNat o from rfl] at e
    by_cases ei : i = r.toNat
    · subst ei
      have hl : r.toNat < h.smoke.length := by rw [x.sl]; exact (List.getElem?_eq_some_iff.mp hr).1
      rw [List.getElem?_set_self hl] at e
      exact ⟨hr, ho b (Option.some.inj e)⟩
    · rw [List.getElem?_set_ne (Ne.symm ei)] at e
      exact x.sk i b e⟩
theorem HseOk.on {h : Hse} (x : HseOk h) {e : Ed} (he : EdOk h e) : HseOk (e.on h) := by
  have key : ∀ {i : Int} {f : Pas → Pas}, (∀ p, PasOk h.rooms p → PasOk h.rooms (f p)) → HseOk (onP h i f) := fun {i f} hf => by
    unfold onP
    split
    · rename_i p hp
      exact x.setPs (hf p (x.pk p (List.mem_of_getElem? hp)))
    · exact x
  cases e with
  | smoke r b => exact x.setSm he.2.1 fun c hc => by cases hc; exact he.2.2
  | clear r b => exact x.setSm he.2 fun c hc => nomatch hc
  | width i m => exact key fun p hp => hp.wid he.2.2.1 he.2.2.2
  | shut i a b => exact key fun p hp => hp.shut a b
  | opn i a b => exact key fun p hp => hp.opn a b
  | non => exact x
theorem onP_sml {h : Hse} {i : Int} {f : Pas → Pas} : (onP h i f).rooms = h.rooms ∧ (onP h i f).pas.length = h.pas.length ∧ (onP h i f).smoke = h.smoke := by
  unfold onP
  split
  · exact ⟨rfl, List.length_set .., rfl⟩
  · exact ⟨rfl, rfl, rfl⟩
theorem Ed.rooms (e : Ed) (h : Hse) : (e.on h).rooms = h.rooms ∧ (e.on h).pas.length = h.pas.length := by
  cases e with
  | smoke r b => exact ⟨rfl, rfl⟩
  | clear r b => exact ⟨rfl, rfl⟩
  | width i m => exact ⟨onP_sml.1, onP_sml.2.1⟩
  | shut i a b => exact ⟨onP_sml.1, onP_sml.2.1⟩
  | opn i a b => exact ⟨onP_sml.1, onP_sml.2.1⟩
  | non => exact ⟨rfl, rfl⟩
theorem Sml.on {h : Hse} (x : Sml h) (e : Ed) : Sml (e.on h) := by
  obtain ⟨h1, h2⟩ := e.rooms h
  unfold Sml
  rw [h1, h2]
  exact x
theorem EdOk.on {h : Hse} {e f : Ed} (x : EdOk h e) : EdOk (f.on h) e := by
  obtain ⟨h1, h2⟩ := f.rooms h
  cases e with
  | smoke r b => exact ⟨x.1, by rw [h1]; exact x.2.1, x.2.2⟩
  | clear r b => exact ⟨x.1, by rw [h1]; exact x.2⟩
  | width i m => exact ⟨x.1, by rw [h2]; exact x.2.1, x.2.2⟩
  | shut i a b => exact ⟨x.1, by rw [h2]; exact x.2.1, x.2.2⟩
  | opn i a b => exact ⟨x.1, by rw [h2]; exact x.2.1, x.2.2⟩
  | non => exact True.intro
/-! an edit done twice; edits of unlike parts -/
theorem upTo_again (sh : List Int) (a b : Int) : shutB (shutB sh a b) a b = shutB sh a b := by
  refine sorted_eq (upTo_sorted _ _ _ _) (upTo_sorted _ _ _ _) fun x => ?_
  unfold shutB
  rw [mem_upTo, mem_upTo]
  constructor
  · rintro ⟨h0, h1 | h1⟩
    · exact ⟨h0, h1.2⟩
    · exact ⟨h0, .inr h1⟩
  · rintro ⟨h0, h1⟩
    exact ⟨h0, .inl ⟨h0, h1⟩⟩
theorem openB_again (sh : List Int) (a b : Int) : openB (openB sh a b) a b = openB sh a b := by
  unfold openB
  rw [List.filter_filter]
  congr 1
  funext x
  exact Bool.and_self _
theorem setPs_twice {h : Hse} {i : Int} {p q : Pas} : setPs (setPs h i p) i q = setPs h i q := by
  unfold setPs
  rw [List.set_set]
theorem onP_twice {h : Hse} {i : Int} {f : Pas → Pas} (hf : ∀ p, f (f p) = f p) : onP (onP h i f) i f = onP h i f := by
  cases e : h.pas[i.toNat]? with
  | none =>
    have e1 : onP h i f = h := by unfold onP; rw [e]
    rw [e1, e1]
  | some p =>
    have hl := (List.getElem?_eq_some_iff.mp e).1
    have e1 : onP h i f = setPs h i (f p) := onP_some e
    have e2 : (setPs h i (f p)).pas[i.toNat]? = some (f p) := List.getElem?_set_self hl
    rw [e1, onP_some e2, setPs_twice, hf]
theorem Ed.twice (e : Ed) (h : Hse) : e.on (e.on h) = e.on h := by
  cases e with
  | smoke r b =>
    show setSm (setSm h r (some b)) r (some b) = setSm h r (some b)
    unfold setSm
    rw [List.set_set]
  | clear r b =>
    show setSm (setSm h r none) r none = setSm h r none
    unfold setSm
    rw [List.set_set]
  | width i m => exact onP_twice fun p => rfl
  | shut i a b => exact onP_twice fun p => by show (⟨p.t, p.h, p.l, p.w, shutB (shutB p.sh a b) a b⟩ : Pas) = _; rw [upTo_again]
  | opn i a b => exact onP_twice fun p => by show (⟨p.t, p.h, p.l, p.w, openB (openB p.sh a b) a b⟩ : Pas) = _; rw [openB_again]
  | non => rfl
def Ed.air : Ed → Bool
  | .smoke _ _ => true
  | .clear _ _ => true
  | _ => false
def Ed.way : Ed → Bool
  | .width _ _ => true
  | .shut _ _ _ => true
  | .opn _ _ _ => true
  | _ => false
theorem onP_sm {h : Hse} {i r : Int} {f : Pas → Pas} {o : Option Int} : onP (setSm h r o) i f = setSm (onP h i f) r o := by
  cases e : h.pas[i.toNat]? with
  | none =>
    have e2 : (setSm h r o).pas[i.toNat]? = none := e
    unfold onP
    rw [e, e2]
  | some p =>
    have e2 : (setSm h r o).pas[i.toNat]? = some p := e
    rw [onP_some e, onP_some e2]
    rfl
theorem Ed.comm {e o : Ed} (he : e.way = true) (ho : o.air = true) (h : Hse) : e.on (o.on h) = o.on (e.on h) := by
  cases o with
  | smoke r b =>
    cases e with
    | width i m => exact onP_sm
    | shut i a b => exact onP_sm
    | opn i a b => exact onP_sm
    | _ => cases he
  | clear r b =>
    cases e with
    | width i m => exact onP_sm
    | shut i a b => exact onP_sm
    | opn i a b => exact onP_sm
    | _ => cases he
  | _ => cases ho
/-- what was shut and opened again is not shut -/
theorem open_shut {sh : List Int} {a b : Int} (h : sh.Pairwise (· < ·)) (hb : ∀ i ∈ sh, 0 ≤ i ∧ i < 60) : openB (shutB sh a b) a b = openB sh a b := by
  refine sorted_eq (openB_sorted (upTo_sorted _ _ _ _)) (openB_sorted h) fun x => ?_
  rw [mem_openB, mem_openB]
  unfold shutB
  rw [mem_upTo]
  constructor
  · rintro ⟨⟨h0, h1 | h1⟩, h2⟩
    · exact ⟨h1, h2⟩
    · exact absurd h1 h2
  · rintro ⟨h1, h2⟩
    exact ⟨⟨hb x h1, .inl h1⟩, h2⟩
theorem shut_none {sh : List Int} {a b : Int} (h : sh.Pairwise (· < ·)) (hb : ∀ i ∈ sh, 0 ≤ i ∧ i < 60) (hab : b < a) : shutB sh a b = sh := by
  refine sorted_eq (upTo_sorted _ _ _ _) h fun x => ?_
  unfold shutB
  rw [mem_upTo]
  constructor
  · rintro ⟨h0, h1 | h1⟩
    · exact h1
    · omega
  · intro h1
    exact ⟨hb x h1, .inl h1⟩
end K5
set_option Elab.async false
set_option linter.all false
set_option maxRecDepth 100000
set_option maxHeartbeats 0
namespace K5
open PySem PySem.Spec PyProof.Rows L2 PySem.K5X
abbrev sEdit : Stmt := top 46
abbrev nEdit : List Str := ["_law_box_here", "_law_house_here", "_law_rooms", "_law_passages", "_law_smoke", "_law_inside", "_law_way", "_law_room", "_law_beat", "_law_later", "_law_at", "_law_tail", "_law_head", "_law_length", "_law_width", "_law_shut", "_law_low", "_law_high", "_law_many", "_law_edit_here", "_law_entry", "_law_beats"]
theorem scEdit : FnScope nEdit ["_law_box_here", "_law_house_here"] (defScope sEdit) := ⟨rfl, rfl, rfl, by decide +kernel, rfl, by decide +kernel, by decide +kernel⟩
theorem SX.il {H H' : Hp} {b a : Addr} {xs : List V} (s : SX b H H') (n : a ≠ b) (h : H a = some (.lst xs)) : H' a = some (.lst xs) := s a _ n h
section
variable {P : Program} {w : World} {K : PySem.W.Frag} {mg : Str → Option Value} {base : Heap} {cR cP cB cF : Addr}
/-- whether a room is edited -/
theorem choose_ok {K : PySem.W.Frag} {b a r q t pI : Addr} {way : Int} {ys : List (Option V)} {ws : List V} {ps : List Pas} {H : Hp} {is : List Int} (hb : Bx H b) (eI : IL H pI is) (hq : H q = some (.tup ws)) (hP : PsK true H ws ps) (Q : Bool → Hp → Prop)
    (k : ∀ c H', (c = true → is ≠ []) → Bx H' b → Same H H' → Q c H') :
    tAnd (tTest (tOp (rNil K true) (tVar 5) (tLst tNil))) (tOr (tTest (tOp (rI0 fun i j => .bl (decide (i < j))) (tVar 6) (tC (.int 2)))) (tTest (tOp (rNil K false) (tVar 3) (tTup tNil))))
      (some (.ref b) :: some (.ref a) :: some (.ref r) :: some (.ref q) :: some (.ref t) :: some (.ref pI) :: some (.int way) :: ys) H Q := by
  refine ⟨_, rfl, Nat.zero_le _, fun p hp => ?_⟩
  have g := Same.new (o := .lst []) hp
  refine ⟨pI, p, false, _, _, 0, rfl, rfl, g.get eI, upd_same, dpAll_ints is, gd_ints is, by decide, _, rfl, ?_⟩
  cases is with
  | nil => exact iteF (k _ _ (fun z => nomatch z) (hb.same g) g)
  | cons i is =>
    refine iteT ⟨_, rfl, way, 2, rfl, rfl, _, rfl, iteB (fun _ => k _ _ (fun _ z => nomatch z) (hb.same g) g) fun _ => ?_⟩
    refine ⟨_, rfl, Nat.zero_le _, fun p2 hp2 => ?_⟩
    have g2 := Same.new (o := .tup []) hp2
    exact ⟨q, p2, true, ws, _, 2, rfl, rfl, g2.get (g.get hq), upd_same, dpAll_ps ((hP.mono g).mono g2), (fun d hd => by
      obtain ⟨p, _, rfl⟩ := List.mem_map.mp hd
      exact gd_pas true p), by decide, _, rfl, k _ _ (fun _ z => nomatch z) ((hb.same g).same g2) (g.trans g2)⟩
theorem word_ok {σ : L2.St} {H : Hp} {Q : VK} {way : Int} (hs : σ[6]? = some (some (.int way))) (q : Q (.str (if way = 1 then "clear" else "smoke")) H) :
    tIf (tTest (tOp rEq (tVar 6) (tC (.int 1)))) (tC (.str "clear")) (tC (.str "smoke")) σ H Q := by
  refine ⟨_, hs, rfl, _, rfl, ?_⟩
  by_cases h : way = 1
  · rw [if_pos h] at q
    exact iteDT (by rw [h]) q
  · rw [if_neg h] at q
    exact iteDF (fun z => h (V.int.inj z)) q
theorem later_ok {σ : L2.St} {H : Hp} {Q : VK} {way beat : Int} (hs : σ[6]? = some (some (.int way))) (hb : σ[8]? = some (some (.int beat))) (q : Q (optV (if way = 1 then none else some beat)) H) :
    tIf (tTest (tOp rEq (tVar 6) (tC (.int 1)))) (tC .non) (tVar 8) σ H Q := by
  refine ⟨_, hs, rfl, _, rfl, ?_⟩
  by_cases h : way = 1
  · rw [if_pos h] at q
    exact iteDT (by rw [h]) q
  · rw [if_neg h] at q
    exact iteDF (fun z => h (V.int.inj z)) ⟨_, hb, q⟩
/-- a beat that is drawn -/
theorem beat_mem {n x0 : Int} {j : Nat} {v : V} (hv : ([V.int x0, .int 59, .int n])[j]? = some v) (h0 : 0 ≤ x0 ∧ x0 < 60) (hn : 0 ≤ n ∧ n < 60) : ∃ x, v = .int x ∧ 0 ≤ x ∧ x < 60 := by
  have hm := List.mem_of_getElem? hv
  simp only [List.mem_cons, List.not_mem_nil, or_false] at hm
  rcases hm with h | h | h
  · exact ⟨x0, h, h0⟩
  · exact ⟨59, h, by decide, by decide⟩
  · exact ⟨n, h, hn⟩
theorem two_mem {n x0 : Int} {j : Nat} {v : V} (hv : ([V.int x0, .int n])[j]? = some v) (h0 : 0 ≤ x0 ∧ x0 < 60) (hn : 0 ≤ n ∧ n < 60) : ∃ x, v = .int x ∧ 0 ≤ x ∧ x < 60 := by
  have hm := List.mem_of_getElem? hv
  simp only [List.mem_cons, List.not_mem_nil, or_false] at hm
  rcases hm with h | h
  · exact ⟨x0, h, h0⟩
  · exact ⟨n, h, hn⟩
def spEdit : Sp := fun vs H Q _ => ∃ (b : Addr) (v : V) (h : Hse), vs = [.ref b, v] ∧ Bx H b ∧ HseK true H v h ∧ HseOk h ∧ Sml h ∧
  ∀ p H' ed (e u : V), Bx H' b → SX b H H' → H' p = some (.tup [e, u]) → EdK H' e ed → EdOk h ed → HseK true H' u (ed.on h) → Q (.ref p) H'
theorem ok_edit (T : Tx P K mg) : Ok P w K mg base CX0 "_law_edit" sEdit 3 ["_law_box_here", "_law_house_here"] spEdit := by
  obtain ⟨f, fd, D⟩ := T.d46
  obtain ⟨fT, fdT, DT, bT, GT⟩ := ok_take (P := P) (w := w) (base := base) T
  obtain ⟨fP, fdP, DP, bP, GP⟩ := ok_pick (P := P) (w := w) (base := base) T
  refine ⟨f, fd, D, D.fn.binds (fun _ _ _ _ _ _ us hl => match us, hl with | [_, _], _ => rfl), D.fn.ok scEdit (fun vs H Q E h => ?_) (fun cdv A outer s H vs Q E hr h => ?_)⟩
  · obtain ⟨_, _, _, rfl, _⟩ := h
    rfl
  · obtain ⟨b, v, h, rfl, hb, ⟨a, r, q, t, ws, rfl, ha, hR, hq, hP, hS⟩, ok, sml, Qt⟩ := h
    have hr1 : Room 1 _ := hr.mono (by decide)
    refine ⟨_, pss_cons (ps_asg (pv 1) (pg_tup (n := 3) rfl (pgs_cons (pg_name (i := 2) scEdit.nd rfl (.inr rfl)) (pgs_cons (pg_name (i := 3) scEdit.nd rfl (.inl rfl)) (pgs_cons (pg_name (i := 4) scEdit.nd rfl (.inl rfl)) pgs_nil)))))
      (pss_cons (ps_setLc (i := 5) (own := [("_law_room", 7)]) (g := gName 7) (tt := tTest (tOp rEq (tOp rIxK (tVar 2) (tVar 7)) (tC (.int 0)))) rfl scEdit.nd rfl rfl (sw_true rfl rfl rfl (by decide +kernel)) (pi_range1 rfl T.bi.range (pa_cons (pe_callB call_lenOf (by rfl) T.bi.len PySem.boot_len (pa_cons (pv 2) pa_nil)) pa_nil))
          (blkOk_by (N := nEdit) (sc := defScope sEdit) (by decide +kernel)) (fun _ _ _ _ _ => pg_name (i := 7) scEdit.nd rfl (.inl rfl))
          (fun _ _ _ _ _ => pts_one (pt_cmpR op_eq (pe_ix ix_sq (pv 2) (pv 7) (fun _ _ => rfl)) pe_int (nomark _))) (fun _ _ _ _ _ => pv 7))
      (pss_cons (ps_set (i := 6) scEdit.nd rfl (.inl rfl) (pe_call GT hr1 (by rfl) DT.gl DT.fn.kp bT .nil pass0 (pa_cons (pv 0) (pa_cons pe_int pa_nil))))
      (C8.pss_cut (ps_if (PW.pt (pw_and (pt_cmpR (op_neNil hr.units) (pv 5) (pe_lst pa_nil) (nomark _)) (pw_and1 (PW.pt (pw_or (pt_cmpR op_lt (pv 6) pe_int (nomark _)) (pw_or1 (pt_cmpR (op_eqNil hr.units) (pv 3) (pe_tup pa_nil) (nomark _))))))))
          (pss_cons (ps_par (i := 7) (j := 8) rfl scEdit.nd rfl rfl (by decide) rfl rfl (pa_cons (pe_call GP hr (by rfl) DP.gl DP.fn.kp bP .nil pass0 (pa_cons (pv 0) (pa_cons (pv 5) pa_nil)))
              (pa_cons (pe_call GP hr (by rfl) DP.gl DP.fn.kp bP .nil pass0 (pa_cons (pv 0) (pa_cons (pe_lst (pa_cons pe_int (pa_cons pe_int (pa_cons (pe_call GT hr1 (by rfl) DT.gl DT.fn.kp bT .nil pass0 (pa_cons (pv 0) (pa_cons pe_int pa_nil))) pa_nil)))) pa_nil))) pa_nil)) (by rfl))
          (pss_cons (ps_set (i := 9) scEdit.nd rfl (.inl rfl) (pe_ifExp (pt_cmpR op_eq (pv 6) pe_int (nomark _)) pe_non (pv 8)))
          (pss_one (ps_ret (pe_tup (pa_cons (pe_tup (pa_cons (pe_ifExp (pt_cmpR op_eq (pv 6) pe_int (nomark _)) pe_str pe_str) (pa_cons (pv 7) (pa_cons (pv 8) (pa_cons pe_non pa_nil)))))
            (pa_cons (pe_tup (pa_cons (pv 2) (pa_cons (pv 3) (pa_cons (pe_op op_catK (pe_op op_catK (pe_slice sl_sq (pv 4) po_none (po_some (pv 7))) (pe_tup (pa_cons (pv 9) pa_nil)))
              (pe_slice sl_sq (pv 4) (po_some (pe_op op_add (pv 7) pe_int)) po_none)) pa_nil)))) pa_nil))))))) pss_nil)
      (pss_cons (ps_if (pt_cmpR (op_eqNil hr.units) (pv 3) (pe_tup pa_nil) (nomark _))
          (pss_one (ps_ret (pe_tup (pa_cons (pe_tup (pa_cons pe_str (pa_cons pe_non (pa_cons pe_non (pa_cons pe_non pa_nil))))) (pa_cons (pv 1) pa_nil))))) pss_nil)
      (pss_cons (ps_set (i := 10) scEdit.nd rfl (.inl rfl) (pe_call GT hr1 (by rfl) DT.gl DT.fn.kp bT .nil pass0 (pa_cons (pv 0) (pa_cons (pe_callB call_lenOf (by rfl) T.bi.len PySem.boot_len (pa_cons (pv 3) pa_nil)) pa_nil))))
      (pss_cons (ps_asg (pe_ix ix_sq (pv 3) (pv 10) (fun _ _ => rfl)) (pg_tup (n := 5) rfl (pgs_cons (pg_name (i := 11) scEdit.nd rfl (.inl rfl)) (pgs_cons (pg_name (i := 12) scEdit.nd rfl (.inl rfl)) (pgs_cons (pg_name (i := 13) scEdit.nd rfl (.inl rfl))
          (pgs_cons (pg_name (i := 14) scEdit.nd rfl (.inl rfl)) (pgs_cons (pg_name (i := 15) scEdit.nd rfl (.inl rfl)) pgs_nil)))))))
      (pss_cons (ps_asg (pe_tup (pa_cons (pe_call GP hr (by rfl) DP.gl DP.fn.kp bP .nil pass0 (pa_cons (pv 0) (pa_cons (pe_lst (pa_cons pe_int (pa_cons (pe_call GT hr1 (by rfl) DT.gl DT.fn.kp bT .nil pass0 (pa_cons (pv 0) (pa_cons pe_int pa_nil))) pa_nil))) pa_nil)))
          (pa_cons (pe_call GP hr (by rfl) DP.gl DP.fn.kp bP .nil pass0 (pa_cons (pv 0) (pa_cons (pe_lst (pa_cons pe_int (pa_cons (pe_call GT hr1 (by rfl) DT.gl DT.fn.kp bT .nil pass0 (pa_cons (pv 0) (pa_cons pe_int pa_nil))) pa_nil))) pa_nil)))
          (pa_cons (pe_call GT hr1 (by rfl) DT.gl DT.fn.kp bT .nil pass0 (pa_cons (pv 0) (pa_cons pe_int pa_nil))) pa_nil))))
          (pg_tup (n := 3) rfl (pgs_cons (pg_name (i := 16) scEdit.nd rfl (.inr rfl)) (pgs_cons (pg_name (i := 17) scEdit.nd rfl (.inr rfl)) (pgs_cons (pg_name (i := 18) scEdit.nd rfl (.inl rfl)) pgs_nil)))))
      (pss_cons (ps_par (i := 19) (j := 20) rfl scEdit.nd rfl rfl (by decide) rfl rfl (pa_cons (pe_tup (pa_cons pe_str (pa_cons (pv 10) (pa_cons (pv 18) (pa_cons pe_non pa_nil)))))
          (pa_cons (pe_tup (pa_cons (pv 11) (pa_cons (pv 12) (pa_cons (pv 13) (pa_cons (pv 18) (pa_cons (pv 15) pa_nil)))))) pa_nil)) (by rfl))
      (C8.pss_cut (ps_if (pt_cmpR op_eq (pv 6) pe_int (nomark _))
          (pss_cons (ps_par (i := 19) (j := 21) rfl scEdit.nd rfl rfl (by decide) rfl rfl (pa_cons (pe_tup (pa_cons pe_str (pa_cons (pv 10) (pa_cons (pv 16) (pa_cons (pv 17) pa_nil)))))
            (pa_cons (pe_callTy call_tupOf (by rfl) T.bi.tuple (by decide +kernel) (pa_cons (pe_callB (cr_sortedSet rfl) (by rfl) T.bi.sorted (by decide +kernel) (pa_cons (pe_callTy (call_setL rfl) (by rfl) T.bi.set (by decide +kernel) (pa_cons
              (pe_op op_cat (pe_callTy call_listOf (by rfl) T.bi.list (by decide +kernel) (pa_cons (pv 15) pa_nil)) (pe_listRg rfl (by rfl) T.bi.list (prg_2 (by rfl) T.bi.range (pv 16) (pe_op op_add (pv 17) pe_int)))) pa_nil)) pa_nil)) pa_nil)) pa_nil)) (by rfl))
          (pss_one (ps_set (i := 20) scEdit.nd rfl (.inl rfl) (pe_tup (pa_cons (pv 11) (pa_cons (pv 12) (pa_cons (pv 13) (pa_cons (pv 14) (pa_cons (pv 21) pa_nil)))))))))
          (pss_one (ps_if (pt_cmpR op_ne (pv 6) pe_int (nomark _))
            (pss_cons (ps_par (i := 19) (j := 21) rfl scEdit.nd rfl rfl (by decide) rfl rfl (pa_cons (pe_tup (pa_cons pe_str (pa_cons (pv 10) (pa_cons (pv 16) (pa_cons (pv 17) pa_nil)))))
              (pa_cons (pe_callTy call_tupOf (by rfl) T.bi.tuple (by decide +kernel) (pa_cons
                (pe_lc (own := [("_law_beat", 8)]) (g := gName 8) (tt := tOr (tTest (tOp (rI0 fun i j => .bl (decide (i < j))) (tVar 8) (tVar 16))) (tTest (tOp (rI0 fun i j => .bl (decide (j < i))) (tVar 8) (tVar 17)))) rfl scEdit.nd (pi_sq (pv 15))
                  (blkOk_by (N := nEdit) (sc := defScope sEdit) (by decide +kernel)) (fun _ _ _ _ _ => pg_name (i := 8) scEdit.nd rfl (.inl rfl))
                  (fun _ _ _ _ _ => pts_one (PW.pt (pw_or (pt_cmpR op_lt (pv 8) (pv 16) (nomark _)) (pw_or1 (pt_cmpR op_gt (pv 8) (pv 17) (nomark _)))))) (fun _ _ _ _ _ => pv 8)) pa_nil)) pa_nil)) (by rfl))
            (pss_one (ps_set (i := 20) scEdit.nd rfl (.inl rfl) (pe_tup (pa_cons (pv 11) (pa_cons (pv 12) (pa_cons (pv 13) (pa_cons (pv 14) (pa_cons (pv 21) pa_nil))))))))) pss_nil)))
      (pss_one (ps_ret (pe_tup (pa_cons (pv 19) (pa_cons (pe_tup (pa_cons (pv 2) (pa_cons (pe_op op_catK (pe_op op_catK (pe_slice sl_sq (pv 3) po_none (po_some (pv 10))) (pe_tup (pa_cons (pv 20) pa_nil)))
          (pe_slice sl_sq (pv 3) (po_some (pe_op op_add (pv 10) pe_int)) po_none)) (pa_cons (pv 4) pa_nil)))) pa_nil)))))))))))))), ?_⟩
    have wl := hP.1
    -- the house, inside
    refine ⟨_, rfl, a, _, rfl, sqT ha, rfl, _, _, rfl, _, _, rfl, _, _, rfl, rfl, ?_⟩
    refine ⟨_, rfl, r, true, _, rfl, hR, _, rfl, by rw [List.length_map]; have := ok.r20; omega, by rw [List.length_map]; have := ok.r20; omega, fun pI hpI => ?_⟩
    have nIb := hb.ne hpI
    refine lc_acc walk_range B0 (fun _ => True) (fun i acc _ => ∃ is : List Int, acc = is.map V.int ∧ ∀ x ∈ is, 0 ≤ x ∧ h.rooms[x.toNat]? = some 0) (by rw [List.length_map]; have := ok.r20; omega) hpI (fun z => z) True.intro (fun _ _ _ _ => True.intro) ⟨[], rfl, (by intro x hx; cases hx)⟩ (fun _ _ _ => True.intro) (fun i x H6 H' acc Nk Ns hi s _ eD hl ⟨is, ea, ev⟩ y fin skip => ?_) fun H1 acc s1' _ eI hl ⟨is, ea, ev⟩ => ?_
    · obtain ⟨rfl, rfl⟩ := y
      show gName 7 (.int (0 + (i : Int))) _ _ _
      rw [Int.zero_add]
      have hi2 : i < h.rooms.length := by rw [List.length_map, Int.toNat_natCast] at hi; exact hi
      have hri : h.rooms[i]? = some h.rooms[i] := List.getElem?_eq_getElem hi2
      refine ⟨rfl, _, rfl, _, rfl, r, true, _, i, .int h.rooms[i], rfl, rfl, s.same.get hR, atI_nat (by rw [List.getElem?_map, hri]; rfl), rfl, _, rfl, ?_⟩
      by_cases hz : h.rooms[i] = 0
      · refine iteDT (by rw [hz]) ⟨_, rfl, fin _ _ (SB.refl _ _) True.intro ⟨is ++ [(i : Int)], by rw [ea, List.map_append]; rfl, fun x hx => ?_⟩⟩
        rcases List.mem_append.mp hx with h1 | h1
        · exact ev x h1
        · rw [List.mem_singleton.mp h1, Int.toNat_natCast, hri, hz]
          exact ⟨by omega, rfl⟩
      · exact iteDF (fun z => hz (V.int.inj z)) (skip _ (SB.refl _ _) True.intro ⟨is, ea, ev⟩)
    subst ea
    have s1 := s1'.same
    have hlI : is.length ≤ 1000 := by rw [List.length_map, List.length_map] at hl; have := ok.r20; omega
    -- way
    refine ⟨_, rfl, b, 5, rfl, hb.same s1, by decide, by decide, fun way H2 w0 w1 b2 s2 => ?_⟩
    have S2 : SX b H H2 := SB.trans (SB.of s1) s2
    have eI2 : IL H2 pI is := s2 pI _ nIb eI
    have T2 : TS H H2 := TS.sx S2 hb
    refine ⟨fun σ' H' => σ' = [some (.ref b), some (.ref a), some (.ref r), some (.ref q), some (.ref t), some (.ref pI), some (.int way), none, none, none, none, none, none, none, none, none, none, none, none, none, none, none] ∧ Bx H' b ∧ SX b H H', ?_, ?_⟩
    · refine choose_ok b2 eI2 (T2 _ _ hq) (hP.ts T2) _ fun c H3 hc b3 s3 => iteB (fun e => ?_) fun _ => ⟨rfl, b3, SB.trans S2 (SB.of s3)⟩
      have S3 : SX b H H3 := SB.trans S2 (SB.of s3)
      refine ⟨_, rfl, _, rfl, b, pI, false, _, rfl, b3, nIb, s3.get eI2, by rw [List.length_map]; exact List.length_pos_iff.mpr (hc e), by rw [List.length_map]; exact hlI, fun jr vr H4 hvr b4 s4 => ?_⟩
      rw [List.getElem?_map] at hvr
      obtain ⟨room, hr2, rfl⟩ := Option.map_eq_some_iff.mp hvr
      obtain ⟨r0, r1⟩ := ev room (List.mem_of_getElem? hr2)
      refine ⟨_, rfl, _, rfl, b, 60, rfl, b4, by decide, by decide, fun n H5 n0 n1 b5 s5 => ⟨by show 3 ≤ sizeLine; decide, fun p hp => ?_⟩⟩
      have npb := b5.ne hp
      refine ⟨b, p, false, [.int 0, .int 59, .int n], rfl, b5.upd npb, npb, upd_same, (by show 0 < 3; decide), (by show 3 ≤ 1000; decide), fun jb vb H6 hvb b6 s6 => ?_⟩
      obtain ⟨beat, rfl, bt0, bt1⟩ := beat_mem hvb ⟨by decide, by decide⟩ ⟨n0, n1⟩
      have S6 : SX b H H6 := SB.trans (SB.trans (SB.trans (SB.trans S3 s4) s5) (SX.new hp)) s6
      have T6 : TS H H6 := TS.sx S6 hb
      refine ⟨_, _, rfl, ?_⟩
      refine later_ok (way := way) (beat := beat) rfl rfl ?_
      refine word_ok (way := way) rfl ?_
      refine ⟨_, rfl, _, rfl, by show 4 ≤ sizeLine; decide, fun p1 hp1 => ?_⟩
      have g1 := Same.new (o := .tup [.str (if way = 1 then "clear" else "smoke"), .int room, .int beat, .non]) hp1
      have T7 : TS H _ := T6.trans (TS.of g1)
      refine ⟨_, rfl, _, rfl, _, rfl, _, rfl, _, rfl, t, true, _, rfl, T7 _ _ hS, fun p3 G3 g3 e3 => ?_⟩
      rw [cut_to r0] at e3
      refine ⟨_, rfl, by show 1 ≤ sizeLine; decide, fun p4 n4 => ?_⟩
      have g4 := Same.new (o := .tup [optV (if way = 1 then none else some beat)]) n4
      have il : room.toNat < h.smoke.length := by
        rw [ok.sl]
        exact (List.getElem?_eq_some_iff.mp r1).1
      have sz : h.smoke.length ≤ 20 := by rw [ok.sl]; exact ok.r20
      refine ⟨p3, p4, _, _, rfl, rfl, g4.get e3, upd_same, Nat.le_of_lt (small1000 (by simp; omega)), fun p5 G5 g5 e5 => ?_⟩
      refine ⟨_, rfl, _, rfl, room, 1, rfl, rfl, _, rfl, t, true, _, rfl, g5.get (g4.get (g3.get (T7 _ _ hS))), fun p6 G6 g6 e6 => ?_⟩
      rw [cut_from (by omega), toN1 r0] at e6
      refine ⟨p5, p6, _, _, rfl, rfl, g6.get e5, e6, Nat.le_of_lt (small1000 (by simp; omega)), fun p7 G7 g7 e7 => ?_⟩
      rw [set_cut (by rw [List.length_map]; exact il), map_set'] at e7
      refine ⟨by show 3 ≤ sizeLine; decide, fun p8 n8 => ?_⟩
      have g8 := Same.new (o := .tup [.ref r, .ref q, .ref p7]) n8
      refine ⟨by show 2 ≤ sizeLine; decide, fun p9 n9 => ?_⟩
      have g9 := Same.new (o := .tup [.ref p1, .ref p8]) n9
      have gA := (((((g3.trans g4).trans g5).trans g6).trans g7).trans g8).trans g9
      have S9 : SX b H _ := SB.trans S6 (SB.of (g1.trans gA))
      have T9 : TS H _ := T7.trans (TS.of gA)
      refine Qt p9 _ (if way = 1 then .clear room beat else .smoke room beat) (.ref p1) (.ref p8) (b6.same (g1.trans gA)) S9 upd_same ⟨p1, rfl, ?_⟩ ?_ ⟨p8, r, q, p7, ws, rfl, g9.get upd_same, ?_, ?_, ?_, ?_⟩
      · rw [show (if way = 1 then Ed.clear room beat else Ed.smoke room beat).vals = [.str (if way = 1 then "clear" else "smoke"), .int room, .int beat, .non] by split <;> rfl]
        exact gA.get upd_same
      · split
        · exact ⟨r0, r1⟩
        · exact ⟨r0, r1, bt0, bt1⟩
      · rw [show ((if way = 1 then Ed.clear room beat else Ed.smoke room beat).on h).rooms = h.rooms from (Ed.rooms _ h).1]
        exact T9 _ _ hR
      · exact T9 _ _ hq
      · rw [show ((if way = 1 then Ed.clear room beat else Ed.smoke room beat).on h).pas = h.pas by split <;> rfl]
        exact hP.ts T9
      · rw [show ((if way = 1 then Ed.clear room beat else Ed.smoke room beat).on h).smoke = h.smoke.set room.toNat (if way = 1 then none else some beat) by split <;> rfl]
        exact g9.get (g8.get e7)
    · rintro σ' H3 ⟨rfl, b3, S3⟩
      have T3 : TS H H3 := TS.sx S3 hb
      have q3 := T3 _ _ hq
      have P3 := hP.ts T3
      refine ⟨_, rfl, Nat.zero_le _, fun p0 hp0 => ?_⟩
      have g0 := Same.new (o := .tup []) hp0
      refine ⟨q, p0, true, ws, _, 2, rfl, rfl, g0.get q3, upd_same, dpAll_ps (P3.mono g0), (fun d hd => by
        obtain ⟨p, _, rfl⟩ := List.mem_map.mp hd
        exact gd_pas true p), by decide, _, rfl, iteB (fun _ => ?_) fun hne => ?_⟩
      · -- no passages
        refine ⟨by show 4 ≤ sizeLine; decide, fun p hp => ?_⟩
        have g1 := Same.new (o := .tup [.str "none", .non, .non, .non]) hp
        refine ⟨_, rfl, by show 2 ≤ sizeLine; decide, fun p2 hp2 => ?_⟩
        have g2 := Same.new (o := .tup [.ref p, .ref a]) hp2
        have gA := (g0.trans g1).trans g2
        have TA : TS H _ := T3.trans (TS.of gA)
        exact Qt p2 _ .non (.ref p) (.ref a) (b3.same gA) (SB.trans S3 (SB.of gA)) upd_same ⟨p, rfl, g2.get upd_same⟩ True.intro ⟨a, r, q, t, ws, rfl, TA _ _ ha, TA _ _ hR, TA _ _ hq, hP.ts TA, TA _ _ hS⟩
      have wne : ws ≠ [] := fun e => by rw [e] at hne; cases hne
      have wpos : 0 < ws.length := List.length_pos_iff.mpr wne
      -- at
      refine ⟨_, rfl, _, rfl, q, true, ws, rfl, g0.get q3, b, _, rfl, b3.same g0, by omega, by have := ok.p60; omega, fun at_ H4 a0 a1 b4 s4 => ?_⟩
      have S4 : SX b H H4 := SB.trans S3 (SB.trans (SB.of g0) s4)
      have T4 : TS H H4 := TS.sx S4 hb
      have al : at_.toNat < h.pas.length := by omega
      have hpi : h.pas[at_.toNat]? = some h.pas[at_.toNat] := List.getElem?_eq_getElem al
      generalize h.pas[at_.toNat] = pa at hpi
      have pk := ok.pk pa (List.mem_of_getElem? hpi)
      have hwi : ws[at_.toNat]? = some ws[at_.toNat] := List.getElem?_eq_getElem (by omega)
      obtain ⟨bp, sh, eb, hb5, hsh⟩ := hP.2 _ _ _ hwi hpi
      rw [eb] at hwi
      refine ⟨_, rfl, _, rfl, q, true, ws, at_, _, rfl, rfl, T4 _ _ hq, atI_int a0 hwi, ?_⟩
      refine ⟨bp, _, rfl, sqT (T4 _ _ hb5), rfl, _, _, rfl, _, _, rfl, _, _, rfl, _, _, rfl, _, _, rfl, rfl, ?_⟩
      -- low, high, many
      refine ⟨_, rfl, _, rfl, b, 20, rfl, b4, by decide, by decide, fun n1 H5 n10 n11 b5 s5 => ⟨by show 2 ≤ sizeLine; decide, fun p5 hp5 => ?_⟩⟩
      have n5b := b5.ne hp5
      refine ⟨b, p5, false, [.int 0, .int n1], rfl, b5.upd n5b, n5b, upd_same, (by show 0 < 2; decide), (by show 2 ≤ 1000; decide), fun j1 v1 H6 hv1 b6 s6 => ?_⟩
      obtain ⟨lo, rfl, lo0, lo1⟩ := two_mem hv1 ⟨by decide, by decide⟩ ⟨n10, by omega⟩
      refine ⟨_, rfl, _, rfl, b, 20, rfl, b6, by decide, by decide, fun n2 H7 n20 n21 b7 s7 => ⟨by show 2 ≤ sizeLine; decide, fun p7 hp7 => ?_⟩⟩
      have n7b := b7.ne hp7
      refine ⟨b, p7, false, [.int 59, .int n2], rfl, b7.upd n7b, n7b, upd_same, (by show 0 < 2; decide), (by show 2 ≤ 1000; decide), fun j2 v2 H8 hv2 b8 s8 => ?_⟩
      obtain ⟨hi, rfl, hi0, hi1⟩ := two_mem hv2 ⟨by decide, by decide⟩ ⟨n20, by omega⟩
      refine ⟨_, rfl, b, 10, rfl, b8, by decide, by decide, fun many H9 m0 m1 b9 s9 => ⟨by show 3 ≤ sizeLine; decide, fun p9 hp9 => ?_⟩⟩
      have g9 := Same.new (o := .tup [.int lo, .int hi, .int many]) hp9
      refine ⟨p9, _, rfl, sqT upd_same, rfl, _, _, rfl, _, _, rfl, _, _, rfl, rfl, ?_⟩
      have S9 : SX b H H9 := SB.trans S4 (SB.trans s5 (SB.trans (SX.new hp5) (SB.trans s6 (SB.trans s7 (SB.trans (SX.new hp7) (SB.trans s8 s9))))))
      have SA : SX b H _ := SB.trans S9 (SB.of g9)
      have bA := b9.same g9
      generalize upd H9 p9 (.tup [.int lo, .int hi, .int many]) = HA at SA bA
      clear g9 S9 hp9 s9 hp7 n7b s8 s7 s6 hp5 n5b s5 b9 b8 b7 b6 b5 s4 b4 S4 T4 g0 hp0
      -- the edit, the entry
      refine ⟨_, rfl, _, rfl, by show 4 ≤ sizeLine; decide, fun pe hpe => ?_⟩
      have ge := Same.new (o := .tup [.str "width", .int at_, .int many, .non]) hpe
      refine ⟨_, rfl, _, rfl, _, rfl, _, rfl, _, rfl, by show 5 ≤ sizeLine; decide, fun pn hpn => ?_⟩
      have gn := Same.new (o := .tup [.int pa.t, .int pa.h, .int pa.l, .int many, .ref sh]) hpn
      refine ⟨_, _, rfl, ?_⟩
      have SB1 : SX b H _ := SB.trans SA (SB.of (ge.trans gn))
      have bB := bA.same (ge.trans gn)
      have TB : TS H _ := TS.sx SB1 hb
      refine ⟨fun σ' H' => ∃ (pe pn : Addr) (y21 : Option V) (ed : Ed) (p' : Pas), σ' = [some (.ref b), some (.ref a), some (.ref r), some (.ref q), some (.ref t), some (.ref pI), some (.int way), none, none, none, some (.int at_), some (.int pa.t), some (.int pa.h), some (.int pa.l), some (.int pa.w), some (.ref sh), some (.int lo), some (.int hi), some (.int many), some (.ref pe), some (.ref pn), y21] ∧
        Bx H' b ∧ SX b H H' ∧ EdK H' (.ref pe) ed ∧ EdOk h ed ∧ ed.on h = setPs h at_ p' ∧ PasK true H' (.ref pn) p', ?_, ?_⟩
      · refine ⟨_, rfl, rfl, _, rfl, ?_⟩
        have ha1 : at_ < h.pas.length := by omega
        by_cases hw3 : way = 3
        · -- shut
          refine iteDT (by rw [hw3]) ⟨_, rfl, _, rfl, _, rfl, by show 4 ≤ sizeLine; decide, fun pe2 hpe2 => ?_⟩
          have ge2 := Same.new (o := .tup [.str "shut", .int at_, .int lo, .int hi]) hpe2
          refine ⟨_, rfl, sh, true, _, rfl, ge2.get (TB _ _ hsh), fun pl hpl => ?_⟩
          have gl := Same.new (o := .lst (pa.sh.map V.int)) hpl
          refine ⟨_, rfl, _, rfl, hi, 1, rfl, rfl, lo, _, rfl, rfl, RgOk.of_le (by omega) (by omega) (by omega) (by omega), fun pr hpr => ?_⟩
          have gr := Same.new (o := .lst (rgV lo (hi + 1))) hpr
          have lsh := pk.len
          refine ⟨pl, pr, _, _, rfl, rfl, gr.get upd_same, upd_same, Nat.le_of_lt (small1000 (by rw [List.length_map, rgV_length]; omega)), fun pc hpc => ?_⟩
          have gc := Same.new (o := .lst (pa.sh.map V.int ++ rgV lo (hi + 1))) hpc
          have erg : pa.sh.map V.int ++ rgV lo (hi + 1) = (pa.sh ++ (List.range (hi + 1 - lo).toNat).map fun (i : Nat) => lo + (i : Int)).map V.int := by
            rw [List.map_append, List.map_map]
            rfl
          refine ⟨pc, _, rfl, by rw [upd_same, erg], by rw [List.length_append, List.length_map, List.length_range]; omega, fun ps n hps hn => ?_⟩
          have gs := Same.new (o := SetO w ps (fun j => decide (j ∈ pa.sh ++ (List.range (hi + 1 - lo).toNat).map fun (i : Nat) => lo + (i : Int))) n) hps
          have n60 : n ≤ 60 := hn 60 fun j hj => by
            rcases List.mem_append.mp hj with h1 | h1
            · exact pk.bd j h1
            · obtain ⟨k, hk, rfl⟩ := List.mem_map.mp h1
              rw [List.mem_range] at hk
              omega
          refine ⟨ps, _, n, rfl, upd_same, by omega, fun ns po pw mem len hpo => ?_⟩
          have go := Same.new (o := .lst (ns.map V.int)) hpo
          have ens : ns = shutB pa.sh lo hi := by
            refine sorted_eq pw (upTo_sorted _ _ _ _) fun x => ?_
            unfold shutB
            rw [mem x, decide_eq_true_eq, List.mem_append, mem_upTo, List.mem_map]
            constructor
            · rintro (h1 | ⟨k, hk, rfl⟩)
              · exact ⟨pk.bd x h1, .inl h1⟩
              · rw [List.mem_range] at hk
                exact ⟨⟨by omega, by omega⟩, .inr ⟨by omega, by omega⟩⟩
            · rintro ⟨h0, h1 | h1⟩
              · exact .inl h1
              · exact .inr ⟨(x - lo).toNat, List.mem_range.mpr (by omega), by omega⟩
          refine ⟨po, false, _, rfl, upd_same, fun pt Ht st et => ⟨_, _, rfl, ?_⟩⟩
          refine ⟨_, rfl, _, rfl, _, rfl, _, rfl, _, rfl, by show 5 ≤ sizeLine; decide, fun p6 hp6 => ?_⟩
          have g6 := Same.new (o := .tup [.int pa.t, .int pa.h, .int pa.l, .int pa.w, .ref pt]) hp6
          have gA := ((((((ge2.trans gl).trans gr).trans gc).trans gs).trans go).trans st).trans g6
          refine ⟨pe2, p6, _, .shut at_ lo hi, ⟨pa.t, pa.h, pa.l, pa.w, shutB pa.sh lo hi⟩, rfl, bB.same gA, SB.trans SB1 (SB.of gA), ⟨pe2, rfl, ?_⟩, ⟨a0, ha1, lo0, lo1, hi0, hi1⟩, onP_some hpi, ⟨p6, pt, rfl, upd_same, by rw [← ens]; exact g6.get et⟩⟩
          exact (((((gl.trans gr).trans gc).trans gs).trans go).trans (st.trans g6)).get upd_same
        · refine iteDF (fun z => hw3 (V.int.inj z)) ⟨_, rfl, rfl, _, rfl, ?_⟩
          by_cases hw2 : way = 2
          · refine iteNF (by rw [hw2]) ⟨pe, pn, none, .width at_ many, ⟨pa.t, pa.h, pa.l, many, pa.sh⟩, rfl, bB, SB1, ⟨pe, rfl, gn.get upd_same⟩, ⟨a0, ha1, m0, m1⟩, onP_some hpi, ⟨pn, sh, rfl, upd_same, TB _ _ hsh⟩⟩
          · -- open
            refine iteNT (fun z => hw2 (V.int.inj z)) ⟨_, rfl, _, rfl, _, rfl, by show 4 ≤ sizeLine; decide, fun pe2 hpe2 => ?_⟩
            have ge2 := Same.new (o := .tup [.str "open", .int at_, .int lo, .int hi]) hpe2
            have hsh2 := ge2.get (TB _ _ hsh)
            refine ⟨_, rfl, sh, true, _, rfl, hsh2, fun D hD => ?_⟩
            refine lc_acc walk_sq B0 (fun _ => True) (fun n acc _ => acc = (openB (pa.sh.take n) lo hi).map V.int) (by rw [List.length_map]; have := pk.len; omega) hD (fun z => z) True.intro (fun _ _ _ _ => True.intro) rfl (fun _ s _ => s.same.get hsh2) (fun n x H H' acc Nk Ns hn s _ eD hl hacc y fin skip => ?_) fun H2 acc s2 _ eD hl hacc => ?_
            · obtain ⟨rfl, hv⟩ := y
              rw [List.getElem?_map] at hv
              obtain ⟨z, hz, rfl⟩ := Option.map_eq_some_iff.mp hv
              have stp : openB (pa.sh.take (n + 1)) lo hi = openB (pa.sh.take n) lo hi ++ (if (!(decide (lo ≤ z) && decide (z ≤ hi))) = true then [z] else []) := by
                unfold openB
                rw [List.take_add_one, hz, List.filter_append]
                congr 1
                show List.filter _ [z] = _
                rw [List.filter_cons]
                split <;> rfl
              refine ⟨rfl, _, rfl, _, rfl, z, lo, rfl, rfl, _, rfl, ?_⟩
              by_cases h1 : z < lo
              · refine iteDT h1 (iteT ⟨_, rfl, fin _ _ (SB.refl _ _) True.intro ?_⟩)
                rw [hacc, stp, decide_eq_false (show ¬ lo ≤ z by omega), if_pos (by simp), List.map_append]
                rfl
              · refine iteDF h1 ⟨_, rfl, _, rfl, z, hi, rfl, rfl, _, rfl, ?_⟩
                by_cases h2 : hi < z
                · refine iteDT h2 ⟨_, rfl, fin _ _ (SB.refl _ _) True.intro ?_⟩
                  rw [hacc, stp, decide_eq_false (show ¬ z ≤ hi by omega), if_pos (by simp), List.map_append]
                  rfl
                · refine iteDF h2 (skip _ (SB.refl _ _) True.intro ?_)
                  rw [hacc, stp, decide_eq_true (show lo ≤ z by omega), decide_eq_true (show z ≤ hi by omega), if_neg (by simp), List.append_nil]
            · have s2' := s2.same
              refine ⟨D, false, _, rfl, eD, fun pt Ht st et => ⟨_, _, rfl, ?_⟩⟩
              refine ⟨_, rfl, _, rfl, _, rfl, _, rfl, _, rfl, by show 5 ≤ sizeLine; decide, fun p6 hp6 => ?_⟩
              have g6 := Same.new (o := .tup [.int pa.t, .int pa.h, .int pa.l, .int pa.w, .ref pt]) hp6
              have gA := ((ge2.trans s2').trans st).trans g6
              rw [hacc, List.length_map, List.take_length] at et
              exact ⟨pe2, p6, _, .opn at_ lo hi, ⟨pa.t, pa.h, pa.l, pa.w, openB pa.sh lo hi⟩, rfl, bB.same gA, SB.trans SB1 (SB.of gA), ⟨pe2, rfl, ((s2'.trans st).trans g6).get upd_same⟩, ⟨a0, ha1, lo0, lo1, hi0, hi1⟩, onP_some hpi, ⟨p6, pt, rfl, upd_same, g6.get et⟩⟩
      · rintro σ' H5 ⟨pe2, pn2, y21, ed, p', rfl, b5, S5, eK, eO, eon, pK⟩
        have T5 : TS H H5 := TS.sx S5 hb
        refine ⟨_, rfl, _, rfl, _, rfl, _, rfl, _, rfl, q, true, _, rfl, T5 _ _ hq, fun p3 G3 g3 e3 => ?_⟩
        rw [cut_to a0] at e3
        refine ⟨_, rfl, by show 1 ≤ sizeLine; decide, fun p4 n4 => ?_⟩
        have g4 := Same.new (o := .tup [.ref pn2]) n4
        have w60 : ws.length ≤ 60 := by rw [wl]; exact ok.p60
        refine ⟨p3, p4, _, _, rfl, rfl, g4.get e3, upd_same, Nat.le_of_lt (small1000 (by simp; omega)), fun p5 G5 g5 e5 => ?_⟩
        refine ⟨_, rfl, _, rfl, at_, 1, rfl, rfl, _, rfl, q, true, _, rfl, g5.get (g4.get (g3.get (T5 _ _ hq))), fun p6 G6 g6 e6 => ?_⟩
        rw [cut_from (by omega), toN1 a0] at e6
        refine ⟨p5, p6, _, _, rfl, rfl, g6.get e5, e6, Nat.le_of_lt (small1000 (by simp; omega)), fun p7 G7 g7 e7 => ?_⟩
        rw [set_cut (by omega)] at e7
        refine ⟨_, rfl, by show 3 ≤ sizeLine; decide, fun p8 n8 => ?_⟩
        have g8 := Same.new (o := .tup [.ref r, .ref p7, .ref t]) n8
        refine ⟨by show 2 ≤ sizeLine; decide, fun p9 n9 => ?_⟩
        have g9 := Same.new (o := .tup [.ref pe2, .ref p8]) n9
        have gA := (((((g3.trans g4).trans g5).trans g6).trans g7).trans g8).trans g9
        have T9 : TS H _ := T5.trans (TS.of gA)
        obtain ⟨pe3, epe, ePe⟩ := eK
        refine Qt p9 _ ed (.ref pe2) (.ref p8) (b5.same gA) (SB.trans S5 (SB.of gA)) upd_same ⟨pe3, epe, gA.get ePe⟩ eO ?_
        rw [eon]
        refine ⟨p8, r, p7, t, _, rfl, g9.get upd_same, T9 _ _ hR, g9.get (g8.get e7), ⟨?_, fun j v pj hv hj => ?_⟩, T9 _ _ hS⟩
        · rw [List.length_set, wl]
          exact (List.length_set ..).symm
        · by_cases ej : j = at_.toNat
          · subst ej
            rw [List.getElem?_set_self (by omega)] at hv
            rw [show (setPs h at_ p').pas = h.pas.set at_.toNat p' from rfl, List.getElem?_set_self al] at hj
            cases hv
            cases hj
            exact pK.mono gA
          · rw [List.getElem?_set_ne (Ne.symm ej)] at hv
            rw [show (setPs h at_ p').pas = h.pas.set at_.toNat p' from rfl, List.getElem?_set_ne (Ne.symm ej)] at hj
            exact (hP.2 j v pj hv hj).ts T9
end
end K5
set_option Elab.async false
set_option linter.all false
set_option maxRecDepth 100000
set_option maxHeartbeats 4000000
namespace K5
open PySem PySem.Spec PyProof.Rows L2 PySem.K5X LamX
/-- the cells of a def, as they stand in a heap: N, sc its names and scope, σ its slots -/
structure CellsAt (N : List Str) (sc : Scope) (cells : List (Str × Addr)) (σ : L2.St) (H : Hp) (h : Heap) : Prop where
  inj : ∀ x y c, cells.lookup x = some c → cells.lookup y = some c → x = y
  has : ∀ x, (sc.names.lookup x = some .cell ∨ sc.names.lookup x = some .free) → ∃ c, cells.lookup x = some c
  len : σ.length = N.length
  at_ : ∀ y c, cells.lookup y = some c → (∃ v, h.IsCell c v) ∧ H c = none
  val : ∀ (i : Nat) y v, N[i]? = some y → σ[i]? = some (some v) → (sc.names.lookup y = some .cell ∨ sc.names.lookup y = some .free) → ∃ u c, RelV v u ∧ cells.lookup y = some c ∧ h.IsCell c (some u)
theorem cellsAt_of {X : Cx} {pins : List (Addr × Obj)} {σ : L2.St} {H : Hp} {s : Shared} (I : Inv X pins σ H s) : CellsAt X.N X.env.scope X.env.cells σ H s.heap :=
  ⟨I.ok.inj, fun x h => I.ok.has x h, I.len, fun y c e => ⟨I.cell y c e, I.freeC y c e⟩, fun i y v e1 e2 e3 => by
    obtain ⟨m, hn, hl⟩ := I.loc
    obtain ⟨u, r, q⟩ := hl i y v e1 e2 (e3.elim (fun k => .inr (.inl k)) fun k => .inr (.inr k))
    rcases q with ⟨k, _⟩ | ⟨_, c, e, z⟩
    · have k : X.env.scope.names.lookup y = some .local := k
      rcases e3 with e3 | e3 <;> rw [e3] at k <;> cases k
    · exact ⟨u, c, r, e, z⟩⟩
theorem CellsAt.un {N : List Str} {sc : Scope} {cells : List (Str × Addr)} {σ : L2.St} {H H' : Hp} {h h' : Heap} {fs ex : List Addr} (C : CellsAt N sc cells σ H h) (u : Un fs ex H H' h h') (hx : ∀ y c, cells.lookup y = some c → c ∉ ex) : CellsAt N sc cells σ H' h' := by
  have cellK : ∀ {y : Str} {c : Addr} {v : Option Value}, cells.lookup y = some c → h.IsCell c v → h'.IsCell c v := fun {y c v} e ⟨o, ho, hd⟩ => by
    obtain ⟨sl, q⟩ := u.any ho (C.at_ y c e).2 (hx y c e)
    exact ⟨_, q, hd⟩
  refine ⟨C.inj, C.has, C.len, fun y c e => ?_, fun i y v e1 e2 e3 => ?_⟩
  · obtain ⟨⟨v, z⟩, n⟩ := C.at_ y c e
    refine ⟨⟨v, cellK e z⟩, ?_⟩
    obtain ⟨o, ho, _⟩ := z
    exact u.free c o ho n (hx y c e)
  · obtain ⟨w', c, r, e, z⟩ := C.val i y v e1 e2 e3
    exact ⟨w', c, r, e, cellK e z⟩
/-- a lambda without parameters: tb its reading, by what is wanted of errors -/
structure LamI where
  params : Arguments
  body : Expr
  scope : Scope
  tb : XK → TE
/-- the lambda's function object at f, its code object at c' -/
def LamO (cells : List (Str × Addr)) (q : Str) (l : LamI) (c' f : Addr) : HO := .ext fun h => ∃ pm ctv : Value, h.get? f = some (PySem.W.kla_obj "<lambda>" q l.params l.body l.scope (cloFrom cells l.scope.names []) pm c' ctv)
theorem lamO_tbl {cells : List (Str × Addr)} {q : Str} {l : LamI} {c' f : Addr} (ps : Array Value) : LamO cells q l c' f ≠ .tbl ps := fun z => by
  unfold LamO at z
  cases z
def tLamE (cells : List (Str × Addr)) (T : List (Addr × Str)) (q : Str) (l : LamI) : TE := fun σ H Q => Tabs T H ∧ ∀ f c' H1, ExtN H H1 → Tabs T H1 → H f = none → H1 f = some (LamO cells q l c' f) → H1 c' = some (CodeO c' q) → Q (.ref f) H1
/-- lambda: body, as a value -/
theorem pe_lam {X : Cx} {T : List (Addr × Str)} {c P : Addr} {l : LamI} {pos : Pos} (TB : TabB X.base X.mg c P) (hcode : X.env.code = .ref c)
    (hm : (P, X.env.qual ++ "<lambda>") ∈ T) (hu : ∀ p ∈ T, p.1 = P → p.2 = X.env.qual ++ "<lambda>") (L : LamS X.env.scope l.scope) (hdef : defaultsOf l.params X.env = ([], [])) :
    PE X (.Lambda l.params l.body l.scope pos) (tLamE X.env.cells T (X.env.qual ++ "<lambda>") l) := by
  refine ⟨fun pins s σ H Q I h => ?_⟩
  obtain ⟨hT, hq⟩ := h
  have hfree := L.has I.ok
  obtain ⟨ps, hP, ht, ha⟩ := hT _ hm
  refine PySem.W.kla_eval hdef ?_
  have bP : s.heap.BuiltinsAt X.mg P := TB.bm.keeps I.bk
  have hP' : s.heap.get? P = some { cls := .none, data := .fields ps } := I.hok P _ hP
  have new : ∀ {h' : Heap} {c' : Addr} {pm ctv : Value} (H2 : Hp), ObjOk X.prog X.w H2 (h'.push (PySem.W.kla_obj "<lambda>" (X.env.qual ++ "<lambda>") l.params l.body l.scope (cloFrom X.env.cells l.scope.names []) pm c' ctv)) h'.objs.size (LamO X.env.cells (X.env.qual ++ "<lambda>") l c' h'.objs.size) := fun {h' c' pm ctv} H2 =>
    ⟨⟨pm, ctv, Heap.get?_push_size _ rfl⟩, ⟨_, Heap.get?_push_size _ rfl⟩, fun h1 h2 ⟨a, b, e⟩ st => ⟨a, b, st _ e⟩⟩
  cases hc : codeAmong pos ps.toList with
  | none =>
    refine PySem.W.kla_makeFunction (mg := X.mg) (c := c) (P := P) (ps := ps) (closure_ok hfree) I.ok.glob (I.mod.glob.keeps I.bk) hcode (TB.code.keeps I.bk) hP' ht hc TB.gP bP fun c' ctv h' tk hx hge hlt hrec htb => ?_
    obtain ⟨c2, oc, vs, t, e2, hoc, hd, hv⟩ := hrec
    cases e2
    have hsz : s.heap.objs.size ≤ h'.objs.size := Nat.le_trans hge (Nat.le_of_lt hlt)
    have nC : H c' = none := I.hok.fresh hge
    have I1 := inv_table (t' := tk) (more := #[rawInt pos.line, rawInt pos.col, .ref c']) (h' := h') I hP (fun b o hb e => hx b o hb e) htb hge ⟨oc, vs, t, hoc, hd, hv⟩
    have I2 := I1.laid (t' := tk) (a := h'.objs.size) (o := LamO X.env.cells (X.env.qual ++ "<lambda>") l c' h'.objs.size) (h' := h'.push (PySem.W.kla_obj "<lambda>" (X.env.qual ++ "<lambda>") l.params l.body l.scope (cloFrom X.env.cells l.scope.names []) ((X.mg "__name__").getD .none) c' ctv))
      (fun b o e => Heap.get?_push_of_some _ e) (Nat.le_refl _) (new _)
    have n1 : h'.objs.size ≠ c' := Nat.ne_of_gt hlt
    have n2 : h'.objs.size ≠ P := Nat.ne_of_gt (Nat.lt_of_lt_of_le (Heap.lt_size hP') hsz)
    have nF : H h'.objs.size = none := I.hok.fresh hsz
    have hE : ExtN H (upd (upd H P (.tbl (ps ++ #[rawInt pos.line, rawInt pos.col, .ref c']))) c' (CodeO c' (X.env.qual ++ "<lambda>"))) := fun b o e n => by
      rw [upd_ne (ne_of_none e nC), upd_ne (fun z => n ps (Option.some.inj (e.symm.trans (by rw [z]; exact hP))))]
      exact e
    have nF1 : upd (upd H P (.tbl (ps ++ #[rawInt pos.line, rawInt pos.col, .ref c']))) c' (CodeO c' (X.env.qual ++ "<lambda>")) h'.objs.size = none := by rw [upd_ne n1, upd_ne n2]; exact nF
    have sF := L2.Same.new (o := LamO X.env.cells (X.env.qual ++ "<lambda>") l c' h'.objs.size) nF1
    have eL : (ps ++ #[rawInt pos.line, rawInt pos.col, .ref c']).toList = ps.toList ++ [rawInt pos.line, rawInt pos.col, .ref c'] := by simp
    have T1 : Tabs T (upd (upd H P (.tbl (ps ++ #[rawInt pos.line, rawInt pos.col, .ref c']))) c' (CodeO c' (X.env.qual ++ "<lambda>"))) := fun p hp => by
      by_cases hb : p.1 = P
      · rw [hu p hp hb, hb]
        refine ⟨_, by rw [upd_ne (ne_of_none hP nC), upd_same], by rw [eL]; exact PySem.TriplesOk_snoc _ _ _ _ ht, fun p' cv hcv => ?_⟩
        rw [eL] at hcv
        rcases among_app _ ht hcv with z | z
        · obtain ⟨c0, e1, e2⟩ := ha p' cv z
          exact ⟨c0, e1, hE _ _ e2 codeO_ne⟩
        · exact ⟨c', z, upd_same⟩
      · obtain ⟨ps', a1, a2, a3⟩ := hT p hp
        refine ⟨ps', by rw [upd_ne (ne_of_none a1 nC), upd_ne hb]; exact a1, a2, fun p' cv hcv => ?_⟩
        obtain ⟨c0, e1, e2⟩ := a3 p' cv hcv
        exact ⟨c0, e1, hE _ _ e2 codeO_ne⟩
    exact ⟨.ref h'.objs.size, _, I2, rfl, hq h'.objs.size c' _ (hE.trans (ExtN.of sF)) (T1.ext sF) nF upd_same (sF _ _ upd_same)⟩
  | some cv =>
    obtain ⟨c', e, hco⟩ := ha pos cv hc
    subst e
    refine PySem.W.kla_makeFunctionHit (mg := X.mg) (c := c) (P := P) (ps := ps) (closure_ok hfree) I.ok.glob (I.mod.glob.keeps I.bk) hcode (TB.code.keeps I.bk) hP' ht hc bP fun ctv h' tk hx hsz => ?_
    have I1 : Inv X pins σ H { s with heap := h', toks := tk } := I.kept hx
    have I2 := I1.laid (t' := tk) (a := h'.objs.size) (o := LamO X.env.cells (X.env.qual ++ "<lambda>") l c' h'.objs.size) (h' := h'.push (PySem.W.kla_obj "<lambda>" (X.env.qual ++ "<lambda>") l.params l.body l.scope (cloFrom X.env.cells l.scope.names []) ((X.mg "__name__").getD .none) c' ctv))
      (fun b o e => Heap.get?_push_of_some _ e) (Nat.le_refl _) (new _)
    have nF : H h'.objs.size = none := I.hok.fresh hsz
    have sF := L2.Same.new (o := LamO X.env.cells (X.env.qual ++ "<lambda>") l c' h'.objs.size) nF
    exact ⟨.ref h'.objs.size, _, I2, rfl, hq h'.objs.size c' _ (ExtN.of sF) (hT.ext sF) nF upd_same (sF _ _ hco)⟩
/-! the lambda called -/
abbrev lamE (cells : List (Str × Addr)) (q : Str) (scope : Scope) (L f c' : Addr) : Env := PySem.W.envX q scope L f (.ref c') (cloFrom cells scope.names [])
/-- the context of the lambda's body, entered at s from the frames outer -/
def lamC (P : Program) (w : World) (K : PySem.W.Frag) (mg : Str → Option Value) (base : Heap) (N : List Str) (cells : List (Str × Addr)) (q : Str) (A : Around) (outer : List Env) (s : Shared) (H : Hp) (E : XK) (scope : Scope) (f c' : Addr) : Cx where
  prog := P
  w := w
  K := K
  mg := mg
  base := base
  A := A.deeper (lamE cells q scope s.heap.objs.size f c')
  N := N
  s_0 := s
  H_0 := H
  env := lamE cells q scope s.heap.objs.size f c'
  outer := outer
  stack := lamE cells q scope s.heap.objs.size f c' :: outer
  ex := []
  fn := fun _ => false
  calm := true
  pn := []
  xe := fun e s' => wpAny (model P w) (A.deeper (lamE cells q scope s.heap.objs.size f c')) (leaving (lamE cells q scope s.heap.objs.size f c') e) (fun _ s'' => L2.CX P w outer H s E e s'') (fun e' s'' => L2.CX P w outer H s E e' s'') s'
structure GoodL (P : Program) (w : World) (K : PySem.W.Frag) (mg : Str → Option Value) (base : Heap) (N : List Str) (sc : Scope) (q : Str) (k : Nat) (l : LamI) : Prop where
  ls : LamS sc l.scope
  bind : ∀ (q : Str) (cl : List (Str × Addr)) (pm cv ctv : Value), bindArgs (PySem.W.kla_fn "<lambda>" q l.params l.body l.scope cl pm cv ctv) ⟨[], []⟩ = pure []
  body : ∀ (cells : List (Str × Addr)) (A : Around) (outer : List Env) (s : Shared) (H : Hp) (E : XK) (f c' : Addr), Room k (A.deeper (lamE cells q l.scope s.heap.objs.size f c')) → PE (lamC P w K mg base N cells q A outer s H E l.scope f c') l.body (l.tb E)
section
variable {P : Program} {w : World} {K : PySem.W.Frag} {mg : Str → Option Value} {base : Heap} {N : List Str} {sc : Scope} {cells : List (Str × Addr)} {σ : L2.St} {H HZ : Hp} {s s1 : Shared} {q : Str}
theorem lam_start3 {A : Around} {outer : List Env} {E : XK} {scope : Scope} {f c' : Addr} {h₁ : Heap} {tk : Nat} (C : CellsAt N sc cells σ HZ s1.heap) (L : LamS sc scope) (e0 : Env0 P w K mg base A outer s1 HZ) (hd : A.handled = none)
    (hns : h₁.Ns s1.heap.objs.size fun y => ([] : List (Str × Value)).reverse.lookup y) (kp : ∀ b o, s1.heap.get? b = some o → h₁.get? b = some o) :
    Inv (lamC P w K mg base N cells q A outer s1 HZ E scope f c') [] σ HZ { s1 with heap := h₁, toks := tk } := by
  have hfree : ∀ y ∈ scope.names, y.2 = .free → ∃ c, cells.lookup y.1 = some c := fun y hy e => C.has _ (L.free y hy e)
  have cm : ∀ {y c}, (cloFrom cells scope.names []).lookup y = some c → cells.lookup y = some c := fun {y c} e => by
    rcases cloFrom_mem (PySem.mem_of_lookup e) with hm | ⟨h1, h2⟩
    · cases hm
    · obtain ⟨c1, hc⟩ := hfree _ h1 rfl
      have hc : cells.lookup y = some c1 := hc
      have e2 : c = c1 := by
        rw [h2, hc] <;> rfl
      rw [e2]
      exact hc
  have look : ∀ {y}, scope.names.lookup y = some .free → ∃ c, (cloFrom cells scope.names []).lookup y = some c := fun {y} hl => by
    have hy : (y, NameKind.free) ∈ scope.names := PySem.mem_of_lookup hl
    exact mem_lookup (cloFrom_has (cells := cells) (acc := []) hy)
  have cellK : ∀ {c : Addr} {v : Option Value}, s1.heap.IsCell c v → h₁.IsCell c v := fun {c v} ⟨o, ho, hd⟩ => ⟨_, kp _ _ ho, hd⟩
  have noA : ∀ b : Addr, b ∉ (lamC P w K mg base N cells q A outer s1 HZ E scope f c').ex := fun b z => absurd (show b ∈ ([] : List Addr) from z) (by simp)
  refine ⟨⟨e0.mod, L.kind, rfl, rfl, Nat.le_refl _, fun y z c e1 e2 => C.inj y z c (cm e1) (cm e2), fun y hy => ?_, fun y c z _ => ?_, fun _ => hd, Around.frames_deeper e0.frames, .inr ⟨rfl, rfl⟩, fun b z => absurd z (noA b), e0.bs, e0.bsz, fun b _ _ => noA b,
      fun b z => absurd z (noA b), e0.funs, e0.frf⟩,
    rfl, e0.bare, Un.kept kp, ⟨_, hns, fun i y v e1 e2 e3 => ?_⟩, fun y c e => ?_, e0.hok.fresh (Nat.le_refl _), fun y c e => ?_, fun q hq => absurd (show q ∈ ([] : List (Addr × Obj)) ++ [] from hq) (by simp), e0.hok.kept kp, C.len⟩
  · have hy : scope.names.lookup y = some .cell ∨ scope.names.lookup y = some .free := hy
    rcases hy with hy | hy
    · exact absurd rfl (L.own _ (PySem.mem_of_lookup hy)).2
    · exact look hy
  · have z : false = true := z
    cases z
  · have e3 : Vis scope y := e3
    rcases e3 with k | k | k
    · exact absurd rfl (L.own _ (PySem.mem_of_lookup k)).1
    · exact absurd rfl (L.own _ (PySem.mem_of_lookup k)).2
    · obtain ⟨w', c, r, e, z⟩ := C.val i y v e1 e2 (L.free _ (PySem.mem_of_lookup k) rfl)
      obtain ⟨c2, h2⟩ := look k
      have c1 := cm h2
      rw [e] at c1
      cases c1
      exact ⟨w', r, .inr ⟨.inr k, c, h2, cellK z⟩⟩
  · obtain ⟨⟨w', z⟩, _⟩ := C.at_ y c (cm e)
    exact ⟨w', cellK z⟩
  · exact (C.at_ y c (cm e)).2
/-- what calling the lambda in slot 0 asks, W being wished of errors -/
def tAct (G : LamI → Prop) (cells : List (Str × Addr)) (q : Str) (σ : L2.St) (W : WX) : TE := fun σZ HZ Q => ∃ (f c' : Addr) (l : LamI) (E : XK), σZ[0]? = some (some (.ref f)) ∧ G l ∧ HZ f = some (LamO cells q l c' f) ∧ HZ c' = some (CodeO c' q) ∧
  (∀ cls d H', E cls d H' → W cls d σZ H') ∧ l.tb E σ HZ Q
theorem pe_act3 {CXg : CXT} {Eg : XK} {Ng : List Str} {qg : Str} {sg : Scope} {g : Addr} {cdg : Value} {A : Around} {outer : List Env} {k : Nat} {a : Str} {pn : List (Addr × Obj)} {xe : Value → Shared → Prop} {W : WX} {p1 p2 : Pos}
    (C : CellsAt N sc cells σ H s.heap) (tk : Takes ((cxOf CXg P w K mg base Ng qg sg g cdg A outer s H Eg).tr pn xe) W) (hr : Room (k + 1) (A.deeper (envOfC qg sg s.heap.objs.size g cdg)))
    (hN : Ng[0]? = some a) (hv : Vis sg a) (hd : (a == ("__debug__" : Str)) = false := by decide) (hcd : (a == ("__classdict__" : Str)) = false := by decide) :
    PE ((cxOf CXg P w K mg base Ng qg sg g cdg A outer s H Eg).tr pn xe) (.Call (.Name a p1) [] [] p2) (tAct (GoodL P w K mg base N sc q k) cells q σ W) := by
  refine ⟨fun pinsZ sZ σZ HZ Q IZ h => ?_⟩
  obtain ⟨f, c', l, E, hs, G, hf, hc, hW, ht⟩ := h
  refine wpAny_Call_Name_kw (thn ((pe_var (pos := p1) (i := 0) hN hv hd hcd).run pinsZ sZ σZ HZ (fun v H1 => v = .ref f ∧ H1 = HZ) IZ ⟨.ref f, hs, rfl, rfl⟩) fun u s1 ⟨v, H1, I1, r1, q1⟩ => ?_)
  obtain ⟨ev, eH⟩ := q1
  subst ev
  rw [eH] at I1
  obtain rfl : u = Value.ref f := r1
  have C1 : CellsAt N sc cells σ HZ s1.heap := C.un (show Un (frs outer) [] H HZ s.heap s1.heap from I1.base) (fun _ _ _ z => nomatch z)
  obtain ⟨pm, ctv, of1⟩ := (I1.hok f _ hf).1
  refine PySem.W.callWith_F0 ⟨_, _, _, _, of1⟩ ?_
  obtain ⟨⟨oc, vs, t, hoc, hdc, hvc⟩, _, _⟩ := I1.hok c' _ hc
  have rc : codeAny (model P w) (A.deeper (envOfC qg sg s.heap.objs.size g cdg)) (.call (.ref f) ⟨[], []⟩) (CR (L2.CX P w) (envOfC qg sg s.heap.objs.size g cdg :: outer) P w HZ s1 Q E) s1 := by
    refine PySem.W.kla_callFunE hr.depth of1 rfl G.ls.co G.ls.gen rfl ⟨c', oc, vs, t, rfl, hoc, hdc, hvc⟩ ?_
    rw [G.bind]
    refine wpAny_pure (wpAny_newFunctionEnv (fun y hy => (G.ls.own y hy).2) (fun y hy => absurd hy (by simp)) (fun h₁ hns hsb => ⟨I1.nolimit.fresh _ hsb, ?_⟩) G.ls.kind)
    show codeAny _ _ (.expr l.body (lamE cells q l.scope s1.heap.objs.size f c')) _ _
    have kp : ∀ b o, s1.heap.get? b = some o → h₁.get? b = some o := fun b o e => hsb.extBut b o (Nat.ne_of_lt (Heap.lt_size e)) (Heap.get?_push_of_some _ e)
    have J : Inv (lamC P w K mg base N cells q (A.deeper (envOfC qg sg s.heap.objs.size g cdg)) (envOfC qg sg s.heap.objs.size g cdg :: outer) s1 HZ E l.scope f c') [] σ HZ { s1 with heap := h₁, toks := s1.toks + ([] : List (Str × Value)).length } :=
      lam_start3 C1 G.ls I1.env0 hr.hd hns kp
    refine PySem.W.kla_codeExpr (wpAny_mono ((G.body _ _ _ s1 HZ E f c' (hr.deeper _)).run [] _ _ HZ Q J ht) (fun v s' hq => ?_) fun e s' hq => hq)
    obtain ⟨w', H', J', rv, qq⟩ := hq
    exact ⟨w', H', J'.os, J'.bare, J'.base, J'.hok, rv, qq⟩
  refine wpAny_call (codeAny_mono rc fun r s' hq => ?_)
  cases r with
  | error e => exact tk e s' (XE.of_call I1 (fun cls d H' h => hW cls d H' h) hq)
  | ok fl =>
    cases fl with
    | ret u => exact I1.after hq
    | next => exact False.elim hq
    | brk => exact False.elim hq
    | cont => exact False.elim hq
end
end K5
set_option Elab.async false
set_option linter.all false
set_option maxRecDepth 100000
set_option maxHeartbeats 4000000
namespace K5
open PySem PySem.Spec PyProof.Rows L2 PySem.K5X LamX
/-! repr of values that are no object -/
def rep : V → Str
  | .int i => toString i
  | .bl b => if b then "True" else "False"
  | .non => "None"
  | .str x => reprText x
  | _ => ""
inductive RepOk : V → Prop
  | int (i : Int) (h : i.natAbs.log2 < 1920) : RepOk (.int i)
  | bl (b : Bool) : RepOk (.bl b)
  | non : RepOk .non
  | str (x : Str) (h : (reprText x).length ≤ sizeLine) : RepOk (.str x)
def rRep : List V → Hp → VK → Prop := fun xs H Q => ∃ v, xs = [v] ∧ RepOk v ∧ Q (.str (rep v)) H
theorem call_rep {X : Cx} : CallR X (.builtin "repr") rRep := by
  intro pins s σ H xs us Q I r h
  obtain ⟨v, rfl, hv, q⟩ := h
  cases hv with
  | int i hz =>
    obtain ⟨u, rfl, t, rfl⟩ := vals1 r
    exact PySem.P.repr_of_int hz ⟨.str _, H, I.tok _, ⟨_, rfl⟩, q⟩
  | bl b =>
    obtain ⟨u, rfl, ru⟩ := vals1 r
    obtain rfl : u = Value.bool b := ru
    exact PySem.P.repr_of_bool ⟨.str _, H, I.tok _, ⟨_, rfl⟩, q⟩
  | non =>
    obtain ⟨u, rfl, ru⟩ := vals1 r
    obtain rfl : u = Value.none := ru
    exact PySem.P.repr_of_none ⟨.str _, H, I.tok _, ⟨_, rfl⟩, q⟩
  | str x hz =>
    obtain ⟨u, rfl, t, rfl⟩ := vals1 r
    exact PySem.P.repr_of_str ⟨.str _, H, I.tok _, ⟨_, rfl⟩, q⟩ hz
/-- isinstance(e, c), the class of e told in the reading -/
def rIsE (K : PySem.W.Frag) (C a : Addr) (cls : Value) (d : Option Addr) : List V → Hp → VK → Prop := fun xs H Q => cls = .ref C ∧ rIsD K C a d xs H Q
theorem call_isE {X : Cx} {a C : Addr} {cls : Value} {d : Option Addr} {oe : Obj} {pn : List (Addr × Obj)} (T : ExcD X.K C) (hz : Zc cls d oe) (hf : ∃ vs, oe.data = .fields vs) : CallR (X.suite a ((a, oe) :: pn)) (.builtin "isinstance") (rIsE X.K C a cls d) := by
  intro pins s σ H xs us Q I r h
  obtain ⟨e, h⟩ := h
  subst e
  exact call_isD T hz hf pins s σ H xs us Q I r h
/-- what _law_heard asks of the module -/
structure Hx (P : Program) (K : PySem.W.Frag) (mg : Str → Option Value) (cR cP cB cF cO : Addr) : Prop where
  x : Ex P K mg cR cP cB cF
  dR : ExcD K cR
  dP : ExcD K cP
  dB : ExcD K cB
  dF : ExcD K cF
  rr : PySem.W.exmOne K (.ref cR) (.ref cR) = some true
  pr : PySem.W.exmOne K (.ref cP) (.ref cR) = some false
  pp : PySem.W.exmOne K (.ref cP) (.ref cP) = some true
  br : PySem.W.exmOne K (.ref cB) (.ref cR) = some false
  bp : PySem.W.exmOne K (.ref cB) (.ref cP) = some false
  bb : PySem.W.exmOne K (.ref cB) (.ref cB) = some true
  fr : PySem.W.exmOne K (.ref cF) (.ref cR) = some false
  fp : PySem.W.exmOne K (.ref cF) (.ref cP) = some false
  fb : PySem.W.exmOne K (.ref cF) (.ref cB) = some false
  ff : PySem.W.exmOne K (.ref cF) (.ref cF) = some true
  kR : PySem.W.kitOne K (.ref cR) (.type "KeyError") = some true
  kP : PySem.W.kitOne K (.ref cP) (.type "KeyError") = some true
  kB : PySem.W.kitOne K (.ref cB) (.type "KeyError") = some true
  kF : PySem.W.kitOne K (.ref cF) (.ref cO) = some true
  gO : mg "OutError" = some (.ref cO)
/-- an error heard: its word, its value's repr, True -/
def Hd1 (c : Addr) (f : Str) (w : Str) (Q : VK) : XK := fun cls d H => cls = .ref c ∧ ∃ dd v, d = some dd ∧ H dd = some (.xd [(f, v)]) ∧ RepOk v ∧ ∀ p H', Same H H' → H' p = some (.tup [.str w, .str (rep v), .bl true]) → Q (.ref p) H'
def Hd (cR cP cB cF : Addr) (Q : VK) : XK := fun cls d H => Hd1 cR "room" "room" Q cls d H ∨ Hd1 cP "passage" "passage" Q cls d H ∨ Hd1 cB "beat" "beat" Q cls d H ∨ Hd1 cF "at" "refused" Q cls d H
abbrev sHe : Stmt := top 44
abbrev nHe : List Str := ["_law_ask", "fault"]
theorem scHe : FnScope nHe ["_law_ask"] (defScope sHe) := ⟨rfl, rfl, rfl, by decide +kernel, rfl, by decide +kernel, by decide +kernel⟩
/-- _law_heard(e): e a lambda of the def whose cells these are; fs: its slots, read from ours -/
def tHeard (G : LamI → Prop) (cells : List (Str × Addr)) (q : Str) (fs : L2.St → L2.St) (cR cP cB cF : Addr) (te : TA) : TE := fun σ H Q => te σ H fun vs H1 => ∃ (f c' : Addr) (l : LamI), vs = [.ref f] ∧ G l ∧ H1 f = some (LamO cells q l c' f) ∧ H1 c' = some (CodeO c' q) ∧
  l.tb (Hd cR cP cB cF Q) (fs σ) H1 fun u H2 => [V.str "told", u].length ≤ sizeLine ∧ ∀ p, H2 p = none → Q (.ref p) (upd H2 p (.tup [.str "told", u]))
section
variable {Y : Cx} {N : List Str} {sc : Scope} {cells : List (Str × Addr)} {q : Str} {cR cP cB cF cO : Addr}
theorem pe_heard (T : Tx Y.prog Y.K Y.mg) (HX : Hx Y.prog Y.K Y.mg cR cP cB cF cO) {e : Expr} {te : TA} {k : Nat} {p1 p2 : Pos} {fs : L2.St → L2.St} (hr : Room (k + 2) Y.A)
    (hC : ∀ pins σ H s, Inv Y pins σ H s → CellsAt N sc cells (fs σ) H s.heap) (hg : Gl Y "_law_heard") (he : PA Y [e] te)
    (hs : starEach [e] Y.env = (false, eval e Y.env) :: starEach [] Y.env := by rfl) (hpl : (backTo p2 (starEach [] Y.env)).any (·.1) = false := by rfl) :
    PE Y (.Call (.Name "_law_heard" p1) [e] [] p2) (tHeard (GoodL Y.prog Y.w Y.K Y.mg Y.base N sc q k) cells q fs cR cP cB cF te) := by
  obtain ⟨g, fd, D⟩ := T.d44
  have hb : Binds Y.K fd ["_law_ask"] [] := D.fn.binds (fun _ _ _ _ _ _ us hl => match us, hl with | [_], _ => rfl)
  obtain ⟨oc, od, kV, doc, pm, an, cdv, ct, osl, rfl, lk, hcd⟩ := D.fn.ex
  obtain ⟨f1, E1⟩ := HX.x.r
  obtain ⟨f2, E2⟩ := HX.x.p
  obtain ⟨f3, E3⟩ := HX.x.b
  obtain ⟨f4, E4⟩ := HX.x.f
  refine ⟨fun pins s σ H Q I h => ?_⟩
  refine wpAny_Call_Name_kw (ld_glob I hg D.gl ?_ (by decide))
  refine PySem.W.callWith_K (h₀ := Y.base) I.ok.mod.kin D.fn.kp (thn (he.run p2 pins s σ H _ I h) fun us s1 hh => ?_) hs hpl
  obtain ⟨vs, H1, I1, r1, f, c', l, ev, G, hf, hc, ht⟩ := hh
  subst ev
  refine ⟨I1.kIn, ?_⟩
  have C1 := hC _ _ _ _ I1
  have rc : codeAny (model Y.prog Y.w) Y.A (.call (.ref g) ⟨us, []⟩) (CR CX0 Y.stack Y.prog Y.w H1 s1 Q E0) s1 := by
    have ul : us.length = 1 := by cases r1 with | cons _ r => cases r; rfl
    have hbb := hb s1 us I1.kIn (by rw [List.append_nil, ul]; rfl)
    rw [List.append_nil] at hbb
    refine run_ofS (N := nHe) (ps := ["_law_ask"]) (vs := [.ref f]) lk hcd scHe hr I1.env0 hbb r1 rfl fun hr' => ?_
    refine ⟨_, (pss_one (ps_try_manyAs (n := "fault") (i := 1) (X := (cxOf CX0 Y.prog Y.w Y.K Y.mg Y.base nHe "_law_heard" (defScope sHe) g cdv Y.A Y.stack s1 H1 E0).nox) rfl rfl scHe.nd rfl rfl L2.takes0
      (fun W pn xe tk _ => pss_one (ps_ret (pe_tup (pa_cons pe_str (pa_cons (pe_act3 (q := q) (k := k) (CXg := CX0) (Eg := E0) C1 tk hr' rfl (.inl rfl)) pa_nil)))))
      (.cons ⟨by rfl, by decide, .inl E1.gC⟩ (fun a oe cls d pn hz hf => pss_one (ps_ret (pe_tup (pa_cons pe_str (pa_cons (pe_callB call_rep (by rfl) T.bi.repr (by decide +kernel) (pa_cons (pe_fldE E1 hz hf (pv 1)) pa_nil))
        (pa_cons (pe_callB (call_isE HX.dR hz hf) (by rfl) T.bi.isinstance (by decide +kernel) (pa_cons (pv 1) (pa_cons (pe_bltn (v := .ty "KeyError") (by rfl) T.bi.KeyError (by decide +kernel) rfl) pa_nil))) pa_nil))))))
      (.cons ⟨by rfl, by decide, .inl E2.gC⟩ (fun a oe cls d pn hz hf => pss_one (ps_ret (pe_tup (pa_cons pe_str (pa_cons (pe_callB call_rep (by rfl) T.bi.repr (by decide +kernel) (pa_cons (pe_fldE E2 hz hf (pv 1)) pa_nil))
        (pa_cons (pe_callB (call_isE HX.dP hz hf) (by rfl) T.bi.isinstance (by decide +kernel) (pa_cons (pv 1) (pa_cons (pe_bltn (v := .ty "KeyError") (by rfl) T.bi.KeyError (by decide +kernel) rfl) pa_nil))) pa_nil))))))
      (.cons ⟨by rfl, by decide, .inl E3.gC⟩ (fun a oe cls d pn hz hf => pss_one (ps_ret (pe_tup (pa_cons pe_str (pa_cons (pe_callB call_rep (by rfl) T.bi.repr (by decide +kernel) (pa_cons (pe_fldE E3 hz hf (pv 1)) pa_nil))
        (pa_cons (pe_callB (call_isE HX.dB hz hf) (by rfl) T.bi.isinstance (by decide +kernel) (pa_cons (pv 1) (pa_cons (pe_bltn (v := .ty "KeyError") (by rfl) T.bi.KeyError (by decide +kernel) rfl) pa_nil))) pa_nil))))))
      (.cons ⟨by rfl, by decide, .inl E4.gC⟩ (fun a oe cls d pn hz hf => pss_one (ps_ret (pe_tup (pa_cons pe_str (pa_cons (pe_callB call_rep (by rfl) T.bi.repr (by decide +kernel) (pa_cons (pe_fldE E4 hz hf (pv 1)) pa_nil))
        (pa_cons (pe_callB (call_isE HX.dF hz hf) (by rfl) T.bi.isinstance (by decide +kernel) (pa_cons (pv 1) (pa_cons (pe_glob (v := .ref cO) (by rfl) HX.gO rfl) pa_nil))) pa_nil))))))
      .nil)))))).nox, ?_⟩
    refine ⟨f, c', l, Hd cR cP cB cF Q, rfl, G, hf, hc, fun cls d H' x => ?_, ?_⟩
    · rcases x with x | x | x | x
      all_goals obtain ⟨rfl, dd, v, rfl, hx, rk, fin⟩ := x
      · refine ⟨true, HX.rr, fun _ a ha => ?_, fun z => nomatch z⟩
        exact ⟨_, rfl, rfl, rfl, dd, v, rfl, hx, v, rfl, rk, _, rfl, rfl, .ty "KeyError", _, true, dd, _, rfl, .ty _, rfl, hx, HX.kR, Nat.le_of_lt (small1000 (by show 3 ≤ 1000; decide)), fun p hp => fin p _ (Same.new hp) upd_same⟩
      · refine ⟨false, HX.pr, (fun z => nomatch z), fun _ => ⟨true, HX.pp, fun _ a ha => ?_, fun z => nomatch z⟩⟩
        exact ⟨_, rfl, rfl, rfl, dd, v, rfl, hx, v, rfl, rk, _, rfl, rfl, .ty "KeyError", _, true, dd, _, rfl, .ty _, rfl, hx, HX.kP, Nat.le_of_lt (small1000 (by show 3 ≤ 1000; decide)), fun p hp => fin p _ (Same.new hp) upd_same⟩
      · refine ⟨false, HX.br, (fun z => nomatch z), fun _ => ⟨false, HX.bp, (fun z => nomatch z), fun _ => ⟨true, HX.bb, fun _ a ha => ?_, fun z => nomatch z⟩⟩⟩
        exact ⟨_, rfl, rfl, rfl, dd, v, rfl, hx, v, rfl, rk, _, rfl, rfl, .ty "KeyError", _, true, dd, _, rfl, .ty _, rfl, hx, HX.kB, Nat.le_of_lt (small1000 (by show 3 ≤ 1000; decide)), fun p hp => fin p _ (Same.new hp) upd_same⟩
      · refine ⟨false, HX.fr, (fun z => nomatch z), fun _ => ⟨false, HX.fp, (fun z => nomatch z), fun _ => ⟨false, HX.fb, (fun z => nomatch z), fun _ => ⟨true, HX.ff, fun _ a ha => ?_, fun z => nomatch z⟩⟩⟩⟩
        exact ⟨_, rfl, rfl, rfl, dd, v, rfl, hx, v, rfl, rk, _, rfl, rfl, .ref cO, _, true, dd, _, rfl, .own _, rfl, hx, HX.kF, Nat.le_of_lt (small1000 (by show 3 ≤ 1000; decide)), fun p hp => fin p _ (Same.new hp) upd_same⟩
    · exact ht
  refine wpAny_call (codeAny_mono rc fun r s2 hq => ?_)
  cases r with
  | error e => exact (show False from hq).elim
  | ok fl =>
    cases fl with
    | ret u => exact I1.after hq
    | next => exact False.elim hq
    | brk => exact False.elim hq
    | cont => exact False.elim hq
end
end K5
set_option Elab.async false
set_option linter.all false
set_option maxRecDepth 100000
set_option maxHeartbeats 4000000
namespace K5
open PySem PySem.Spec PyProof.Rows L2 PySem.K5X LamX
/-- what a block of X, entered where X's slots are σ, may know of X's cells -/
def Homes (X : Cx) (σ : L2.St) (Y : Cx) : Prop := ∀ pins σ' H s, Inv Y pins σ' H s → CellsAt X.N X.env.scope X.env.cells σ H s.heap
theorem homes_blk {X : Cx} {pins : List (Addr × Obj)} {σ : L2.St} {H : Hp} {s : Shared} {scope : Scope} {ce : Env} {fp : List Addr} (I : Inv X pins σ H s) (hf : ∀ b ∈ fp, FpOk X pins H b) : Homes X σ (X.blk s H scope ce fp) := fun pins' σ' H' s' I' =>
  (cellsAt_of I).un (show Un _ fp H H' s.heap s'.heap from I'.base) fun y c e hb => (hf c hb).2.2.2.2.1 y c e rfl
section
variable {X : Cx} {elt tg iter : Expr} {ifs : List Expr} {scope : Scope} {own : List (Str × Nat)} {pos : Pos} {wi : TI} {g : TG} {te : TE}
/-- [elt for tg in iter if ..], its parts read in a block that knows the cells of the def around it -/
theorem pe_lcH {tt : L2.St → TT} (hc : X.calm = true) (hN : X.N.Nodup) (hi : PI X tg iter wi) (ok : BlkOk X.N X.env.scope scope own)
    (hb : ∀ (σ : L2.St) (s : Shared) (H : Hp) (C : Addr) (cl : List (Str × Addr)) (fp : List Addr), Homes X σ (X.blk s H scope (compEnvC scope cl C X.env) fp) →
      PG (X.blk s H scope (compEnvC scope cl C X.env) fp) tg g ∧ PTs (X.blk s H scope (compEnvC scope cl C X.env) fp) ifs (tt σ) ∧ PE (X.blk s H scope (compEnvC scope cl C X.env) fp) elt te)
    (hs : ∀ x, foldedSetIterable iter X.env x = pure x := by intro _; rfl) :
    PE X (.ListComp elt [⟨tg, iter, ifs, 0⟩] scope pos) (fun σ H Q => tLc wi g (tt σ) te (own.map (·.2)) σ H Q) := by
  refine ⟨fun pins s σ H Q I h => ?_⟩
  rw [eval_ListComp]
  have hfree : ∀ y ∈ scope.names, y.2 = .free → ∃ c, X.env.cells.lookup y.1 = some c := fun y hy e => I.ok.has _ (ok.free y hy e)
  refine wpAny_comprehension_free (use := none) rfl hs (closure_ok hfree) ok.kind (fun y hy e => by rw [ok.uniq y hy, e])
    (thn (hi.run pins s σ H _ I h) fun xv s1 hx => thn hx fun itv s2 h2 => ?_)
  obtain ⟨it, fp, tn, J, H2, e, I2, T, st2, f2, q⟩ := h2
  subst e
  refine wpAny_newObj_type (newEnv_comp ?_) (by show 0 ≤ sizeLine; decide)
  have hDn : H2 s2.heap.objs.size = none := I2.hok.fresh (Nat.le_refl _)
  obtain ⟨W, ⟨m0, w0⟩, turn⟩ := q _ hDn
  -- the state with the new list
  let s3 : Shared := { s2 with heap := s2.heap.push { cls := .type "list", data := .seq ([] : List Value).toArray } }
  let H3 : Hp := upd H2 s2.heap.objs.size (.lst [])
  have I3 : Inv X pins σ H3 s3 := I2.laid (t' := s2.toks) (fun b o e => Heap.get?_push_of_some _ e) (Nat.le_refl _) ⟨Nat.zero_le _, [], 0, .nil, Heap.get?_push_size _ rfl⟩
  have f3 : ∀ b ∈ fp, FpOk X pins H3 b ∧ b < s3.heap.objs.size := fun b hb => by
    obtain ⟨o, e, _⟩ := T.obj _ _ st2 b hb
    have lt := Heap.lt_size e
    refine ⟨⟨?_, (f2 b hb).2⟩, by show b < (s2.heap.push _).objs.size; rw [Heap.size_push]; exact Nat.lt_succ_of_lt lt⟩
    show upd H2 _ _ b = none
    rw [upd_ne (Nat.ne_of_lt lt)]
    exact (f2 b hb).1
  have st3 : tn 0 s3.heap := T.keep _ _ _ st2 fun b _ o e => Heap.get?_push_of_some _ e
  have I4 := block_start I3 ok hN f3
  have bk := hb σ s3 H3 s3.heap.objs.size (cellsFrom (s3.heap.objs.size + 1) scope.names (cloFrom X.env.cells scope.names [])) fp (homes_blk I3 fun b h => (f3 b h).1)
  show codeAny _ _ (.compStart (.ListComp elt [⟨tg, iter, ifs, 0⟩] scope pos) 0 (.ref it) (.ref s2.heap.objs.size) (compEnvC scope (cellsFrom (s3.heap.objs.size + 1) scope.names (cloFrom X.env.cells scope.names [])) s3.heap.objs.size X.env)) (compPost (model X.prog X.w) X.A X.xe none _ (.ref s2.heap.objs.size) s3.heap.objs.size) { s3 with heap := pushCells (s3.heap.push { cls := .type "dict", data := .dict #[] }) scope.names }
  change W 0 m0 H3 at w0
  clear_value s3 H3
  generalize hce : compEnvC scope (cellsFrom (s3.heap.objs.size + 1) scope.names (cloFrom X.env.cells scope.names [])) s3.heap.objs.size X.env = ce at I4 bk ⊢
  have cL : ce.locals = s3.heap.objs.size := by subst hce; rfl
  have st4 : tn 0 (pushCells (s3.heap.push { cls := .type "dict", data := .dict #[] }) scope.names) := T.keep _ _ _ st3 fun b _ o e => pushCells_keeps _ _ _ _ (Heap.get?_push_of_some _ e)
  generalize hs4 : ({ s3 with heap := pushCells (s3.heap.push { cls := .type "dict", data := .dict #[] }) scope.names } : Shared) = s4 at I4 ⊢
  have st4 : tn 0 s4.heap := by rw [← hs4]; exact st4
  obtain ⟨pg, pt, pe⟩ := bk
  have stat : ∀ {σ' : L2.St} {H' : Hp} {s' : Shared}, Inv (X.blk s3 H3 scope ce fp) [] σ' H' s' → (∀ b ∈ fp, H' b = none) → ∀ b ∈ fp, FpOk (X.blk s3 H3 scope ce fp) [] H' b := fun I' hn b hb =>
    ⟨hn b hb, (I'.ok.exf b hb).1, I'.ok.exfs b hb, .inl hb, fun x c e => (I'.ok.exf b hb).2 x c e, fun p hp => absurd (show p ∈ ([] : List (Addr × Obj)) ++ [] from hp) (by simp)⟩
  refine (fun loop => codeAny_compStart_list loop (T.self X.A 0 _ _ _ st4 loop)) ?_
  refine compLoop_any (fun n s' => ∃ i H', Inv (X.blk s3 H3 scope ce fp) [] (wipe σ (own.map (·.2))) H' s' ∧ tn i s'.heap ∧ (∀ b ∈ fp, H' b = none) ∧ W i n H') ?_ m0 ⟨0, H3, I4, st4, fun b hb => (f3 b hb).1.1, w0⟩
  rintro n s5 ⟨i, H5, I5, st5, n5, w5⟩
  rcases turn i n H5 w5 with ⟨stop, qq⟩ | ⟨go, Nx, hNx, step⟩
  · refine thnF (T.done (X.blk s3 H3 scope ce fp) rfl rfl rfl hc i [] s5 _ H5 (fun _ _ => False) I5 (stat I5 n5) st5 stop) fun r s6 ⟨hr, I6⟩ => ?_
    subst hr
    have I7 : Inv X pins σ H5 s6 := I3.call' (ch := fp) I6.os I6.base I6.hok I6.bare fun b hb => ⟨(f3 b hb).1.2.2.2.1, (f3 b hb).1.2.1, (f3 b hb).1.2.2.2.2.1, (f3 b hb).1.2.2.2.2.2⟩
    have nC : H5 s3.heap.objs.size = none := by rw [← cL]; exact I6.free
    obtain ⟨m, hn, _⟩ := I6.loc
    obtain ⟨z0, z1, z2, z3, z4, z5⟩ := I3.fpOk (Nat.le_refl _) nC
    exact ⟨m, by rw [← cL]; exact hn, fun h'' sb => ⟨.ref s2.heap.objs.size, H5, I7.turned (t' := s6.toks) (fun b o hb e => (sb.2 b hb).trans e) z0 z1 z3 z4 z5, rfl, qq⟩⟩
  · refine thnF (T.item (X.blk s3 H3 scope ce fp) rfl rfl rfl hc i [] s5 _ H5 (fun _ _ => False) I5 (stat I5 n5) st5 go) fun r s6 ⟨u, hr, h6⟩ => ?_
    subst hr
    refine thnF h6 fun _ s7 ⟨x, H7, I7, r7, y7, st7, n7⟩ => ?_
    have ends : ∀ {σ8 : L2.St} {s' : Shared} {H' : Hp}, wipe σ8 (own.map (·.2)) = wipe σ (own.map (·.2)) → Inv (X.blk s3 H3 scope ce fp) ([] ++ pinsAt fp s7.heap) σ8 H' s' → Nx H' →
        ∃ m, m < n ∧ ∃ i H', Inv (X.blk s3 H3 scope ce fp) [] (wipe σ (own.map (·.2))) H' s' ∧ tn i s'.heap ∧ (∀ b ∈ fp, H' b = none) ∧ W i m H' := fun {σ8 s' H'} hw I' nx => by
      obtain ⟨m', hm, w'⟩ := hNx H' nx
      have pin' : ∀ b ∈ fp, ∀ o, s7.heap.get? b = some o → s'.heap.get? b = some o ∧ H' b = none := fun b hb o e =>
        let z := I'.pin (b, o) (List.mem_append_right _ (List.mem_append_right _ (mem_pinsAt hb e)))
        ⟨z.1, z.2.1⟩
      refine ⟨m', hm, i + 1, H', (I'.unpinned (pins := [])).weak (by rw [← hw, wipe_length]) (fun j v e => (wipe_some (by rw [hw]; exact e)).1), T.keep _ _ _ st7 fun b hb o e => (pin' b hb o e).1, fun b hb => ?_, w'⟩
      obtain ⟨o, e, _⟩ := T.obj _ _ st7 b hb
      exact (pin' b hb o e).2
    refine thnF (pg.run _ s7 _ H7 x u _ (I7.pinned (stat I7 n7) (T.obj _ _ st7)) r7 (step x H7 y7)) fun _ s8 ⟨σ8, H8, I8, hw8, q8⟩ => ?_
    refine thnF (pt.run _ s8 σ8 H8 _ I8 q8) fun b s9 ⟨H9, I9, q9⟩ => ?_
    cases b with
    | false =>
      simp only [Bool.false_eq_true, if_false] at q9 ⊢
      exact ends hw8 I9 q9
    | true =>
      simp only [if_true] at q9 ⊢
      refine thnF (pe.run _ s9 σ8 H9 _ I9 q9) fun z s10 ⟨yv, H10, I10, r10, acc, hD10, hz10, nx⟩ => ?_
      exact app_ok (X := X.blk s3 H3 scope ce fp) I10 hD10 hz10 r10 fun s11 I11 => ends hw8 I11 nx
end
end K5
set_option Elab.async false
set_option linter.all false
set_option maxRecDepth 100000
set_option maxHeartbeats 2000000
namespace K5
open PySem PySem.Spec PyProof.Rows L2 PySem.K5X LamX
/-! values that no edit takes -/
structure Rv (v : V) : Prop where
  sc : Sc v
  rk : RepOk v
  so : PyData.strOk (rep v) = true
theorem rep_int {i : Int} (h0 : -1 ≤ i) (h1 : i ≤ 60) : PyData.strOk (rep (.int i)) = true := by
  have all : ∀ n : Fin 62, PyData.strOk (rep (.int ((n.1 : Int) - 1))) = true := by decide +kernel
  have e := all ⟨(i + 1).toNat, by omega⟩
  rw [show (((i + 1).toNat : Nat) : Int) - 1 = i by omega] at e
  exact e
theorem rv_int {i : Int} (h0 : -1 ≤ i) (h1 : i ≤ 60) : Rv (.int i) := ⟨.int i, .int i (by
    have h : i.natAbs < 2 ^ 64 := by omega
    by_cases z : i.natAbs = 0
    · rw [z]; decide
    · exact Nat.lt_of_lt_of_le ((Nat.log2_lt z).mpr h) (by decide)), rep_int h0 h1⟩
theorem rv_non : Rv .non := ⟨.non, .non, by decide +kernel⟩
theorem rv_bl (b : Bool) : Rv (.bl b) := ⟨.bl b, .bl b, by cases b <;> decide +kernel⟩
theorem rv_0 : Rv (.str "0") := ⟨.str _, .str _ (Nat.le_of_lt (small1000 (by decide +kernel))), by decide +kernel⟩
theorem rv_1 : Rv (.str "1") := ⟨.str _, .str _ (Nat.le_of_lt (small1000 (by decide +kernel))), by decide +kernel⟩
/-- one that is drawn -/
theorem bad_mem {n : Int} {j : Nat} {v x : V} (hx : Rv x) (xq : ∀ m, belQ m x = false) (hv : ([V.int n, .int (0 - 1), .non, .bl true, x])[j]? = some v) (h0 : 0 ≤ n) (h1 : n ≤ 60) : Rv v ∧ belQ n v = false := by
  have hm := List.mem_of_getElem? hv
  simp only [List.mem_cons, List.not_mem_nil, or_false] at hm
  rcases hm with rfl | rfl | rfl | rfl | rfl
  · refine ⟨rv_int (by omega) h1, ?_⟩
    show (decide (0 ≤ n) && decide (n < n)) = false
    rw [decide_eq_false (Int.lt_irrefl n), Bool.and_false]
  · exact ⟨rv_int (by decide) (by decide), rfl⟩
  · exact ⟨rv_non, rfl⟩
  · exact ⟨rv_bl true, rfl⟩
  · exact ⟨hx, xq n⟩
theorem bad_mem4 {n : Int} {j : Nat} {v : V} (hv : ([V.int n, .int (0 - 1), .non, .bl true])[j]? = some v) (h0 : 0 ≤ n) (h1 : n ≤ 60) : Rv v ∧ belQ n v = false := by
  have hm := List.mem_of_getElem? hv
  simp only [List.mem_cons, List.not_mem_nil, or_false] at hm
  rcases hm with rfl | rfl | rfl | rfl
  · refine ⟨rv_int (by omega) h1, ?_⟩
    show (decide (0 ≤ n) && decide (n < n)) = false
    rw [decide_eq_false (Int.lt_irrefl n), Bool.and_false]
  · exact ⟨rv_int (by decide) (by decide), rfl⟩
  · exact ⟨rv_non, rfl⟩
  · exact ⟨rv_bl true, rfl⟩
/-! what is heard, against what is due -/
def HrT (w x : Str) : HO := .tup [.str w, .str x, .bl true]
def rHe : R2 := fun x y H Q => ∃ a b w z, x = .ref a ∧ y = .ref b ∧ H a = some (HrT w z) ∧ H b = some (HrT w z) ∧ PyData.strOk w = true ∧ PyData.strOk z = true ∧ Q (.bl false) H
theorem hr_eqv {w z : Str} : PyData.eqv (.tuple [.str w, .str z, .bool true]) (.tuple [.str w, .str z, .bool true]) = true := by
  simp [PyData.eqv, PyData.eqvAll]
theorem op_neHe {X : Cx} (hu : X.A.units + 64 < cLine) : OpR X (compareOp .NotEq) rHe := by
  intro pins s σ H x y v u Q I rx ry h
  obtain ⟨a, b, w, z, rfl, rfl, ha, hb, h1, h2, q⟩ := h
  have gd : Gd 1 (.tuple [.str w, .str z, .bool true]) := gd_tup fun d hd => by
    simp only [List.mem_cons, List.not_mem_nil, or_false] at hd
    rcases hd with rfl | rfl | rfl
    · exact gd_str h1
    · exact gd_str h2
    · exact gd_bl true
  refine op_neD hu pins s σ H _ _ v u Q I rx ry ⟨.tuple [.str w, .str z, .bool true], .tuple [.str w, .str z, .bool true], .tup (sqT ha) (.cons (.str _) (.cons (.str _) (.cons (.bl _) .nil))), .tup (sqT hb) (.cons (.str _) (.cons (.str _) (.cons (.bl _) .nil))), gd.shaped (by decide), gd.shaped (by decide), ?_⟩
  rw [hr_eqv]
  exact q
/-! the errors that are heard -/
section
variable {cR cP cB cF : Addr} {H : Hp} {Q R : VK} {v : V} {h : Hse}
theorem no_room {i r : Int} (z : belQ h.rooms.length (.int i) = false) (h0 : 0 ≤ i) (e : h.rooms[i.toNat]? = some r) : False := by
  rw [room_lt h0 e] at z
  cases z
theorem no_pas {i : Int} {p : Pas} (z : belQ h.pas.length (.int i) = false) (h0 : 0 ≤ i) (e : h.pas[i.toNat]? = some p) : False := by
  have := (List.getElem?_eq_some_iff.mp e).1
  rw [belT h0 (by omega)] at z
  cases z
abbrev Fin1 (w : Str) (x : V) (H : Hp) (Q : VK) : Prop := ∀ p H', Same H H' → H' p = some (HrT w (rep x)) → Q (.ref p) H'
theorem er_room {x : V} (r : Rv x) (q : Fin1 "room" x H Q) : Er (Hd cR cP cB cF Q) cR "room" x H := fun d H' s e => .inl ⟨rfl, d, x, rfl, e, r.rk, fun p H2 s2 e2 => q p H2 (s.trans s2) e2⟩
theorem er_pas {x : V} (r : Rv x) (q : Fin1 "passage" x H Q) : Er (Hd cR cP cB cF Q) cP "passage" x H := fun d H' s e => .inr (.inl ⟨rfl, d, x, rfl, e, r.rk, fun p H2 s2 e2 => q p H2 (s.trans s2) e2⟩)
theorem er_beat {x : V} (r : Rv x) (q : Fin1 "beat" x H Q) : Er (Hd cR cP cB cF Q) cB "beat" x H := fun d H' s e => .inr (.inr (.inl ⟨rfl, d, x, rfl, e, r.rk, fun p H2 s2 e2 => q p H2 (s.trans s2) e2⟩))
theorem er_at {x : V} (r : Rv x) (q : Fin1 "refused" x H Q) : Er (Hd cR cP cB cF Q) cF "at" x H := fun d H' s e => .inr (.inr (.inr ⟨rfl, d, x, rfl, e, r.rk, fun p H2 s2 e2 => q p H2 (s.trans s2) e2⟩))
theorem ws_room {x b : V} (hh : HseK true H v h) (ok : HseOk h) (rx : Rv x) (sb : Sc b) (z : belQ h.rooms.length x = false) (q : Fin1 "room" x H Q) : spWS cR cB cF [v, x, b] H R (Hd cR cP cB cF Q) :=
  ⟨v, x, b, true, h, rfl, hh, ok, rx.sc, sb, fun _ => er_room rx q, fun i e h0 e1 => (no_room (by rw [← e]; exact z) h0 e1).elim, fun i e h0 e1 => (no_room (by rw [← e]; exact z) h0 e1).elim, fun i j e h0 e1 => (no_room (by rw [← e]; exact z) h0 e1).elim⟩
theorem cl_room {x : V} (hh : HseK true H v h) (ok : HseOk h) (rx : Rv x) (z : belQ h.rooms.length x = false) (q : Fin1 "room" x H Q) : spCl cR cF [v, x] H R (Hd cR cP cB cF Q) :=
  ⟨v, x, true, h, rfl, hh, ok, rx.sc, fun _ => er_room rx q, fun i e h0 e1 => (no_room (by rw [← e]; exact z) h0 e1).elim, fun i e h0 e1 => (no_room (by rw [← e]; exact z) h0 e1).elim⟩
theorem ws_at {i : Int} {b : V} (hh : HseK true H v h) (ok : HseOk h) (ri : Rv (.int i)) (sb : Sc b) (i0 : 0 ≤ i) (z : h.rooms[i.toNat]? = some 1) (q : Fin1 "refused" (.int i) H Q) : spWS cR cB cF [v, .int i, b] H R (Hd cR cP cB cF Q) :=
  ⟨v, .int i, b, true, h, rfl, hh, ok, .int i, sb, fun c => (no_room c i0 z).elim, fun k e h0 e1 => (by cases e; exact er_at ri q), fun k e h0 e1 => (by cases e; rw [z] at e1; cases e1), fun k j e h0 e1 => (by cases e; rw [z] at e1; cases e1)⟩
theorem cl_at {i : Int} (hh : HseK true H v h) (ok : HseOk h) (ri : Rv (.int i)) (i0 : 0 ≤ i) (z : h.rooms[i.toNat]? = some 1) (q : Fin1 "refused" (.int i) H Q) : spCl cR cF [v, .int i] H R (Hd cR cP cB cF Q) :=
  ⟨v, .int i, true, h, rfl, hh, ok, .int i, fun c => (no_room c i0 z).elim, fun k e h0 e1 => (by cases e; exact er_at ri q), fun k e h0 e1 => (by cases e; rw [z] at e1; cases e1)⟩
theorem ws_beat {i : Int} {b : V} (hh : HseK true H v h) (ok : HseOk h) (rb : Rv b) (i0 : 0 ≤ i) (z : h.rooms[i.toNat]? = some 0) (zb : belQ 60 b = false) (q : Fin1 "beat" b H Q) : spWS cR cB cF [v, .int i, b] H R (Hd cR cP cB cF Q) :=
  ⟨v, .int i, b, true, h, rfl, hh, ok, .int i, rb.sc, fun c => (no_room c i0 z).elim, fun k e h0 e1 => (by cases e; rw [z] at e1; cases e1), fun k e h0 e1 _ => er_beat rb q, fun k j e h0 e1 eb j0 j1 => (by rw [eb, belT j0 j1] at zb; cases zb)⟩
theorem ww_pas {x m : V} (hh : HseK true H v h) (ok : HseOk h) (rx : Rv x) (sm : Sc m) (z : belQ h.pas.length x = false) (q : Fin1 "passage" x H Q) : spWW cP cF [v, x, m] H R (Hd cR cP cB cF Q) :=
  ⟨v, x, m, true, h, rfl, hh, ok, rx.sc, sm, fun _ => er_pas rx q, fun i p e h0 e1 => (no_pas (by rw [← e]; exact z) h0 e1).elim, fun i p j e h0 e1 => (no_pas (by rw [← e]; exact z) h0 e1).elim⟩
theorem wh_pas {g : List Int → Int → Int → List Int} {x lo hi : V} (hh : HseK true H v h) (ok : HseOk h) (rx : Rv x) (sl : Sc lo) (sh : Sc hi) (z : belQ h.pas.length x = false) (q : Fin1 "passage" x H Q) : spWH g cP cB [v, x, lo, hi] H R (Hd cR cP cB cF Q) :=
  ⟨v, x, lo, hi, true, h, rfl, hh, ok, rx.sc, sl, sh, fun _ => er_pas rx q, fun i p e h0 e1 => (no_pas (by rw [← e]; exact z) h0 e1).elim, fun i p e h0 e1 => (no_pas (by rw [← e]; exact z) h0 e1).elim, fun i p a b e h0 e1 => (no_pas (by rw [← e]; exact z) h0 e1).elim⟩
theorem pas_0 (z : 0 < h.pas.length) : belQ h.pas.length (.int 0) = true := belT (by decide) (by omega)
theorem ww_at {m : V} (hh : HseK true H v h) (ok : HseOk h) (rm : Rv m) (z : 0 < h.pas.length) (zm : belQ 10 m = false) (q : Fin1 "refused" m H Q) : spWW cP cF [v, .int 0, m] H R (Hd cR cP cB cF Q) :=
  ⟨v, .int 0, m, true, h, rfl, hh, ok, .int 0, rm.sc, fun c => (by rw [pas_0 z] at c; cases c), fun i p e h0 e1 _ => er_at rm q, fun i p j e h0 e1 em j0 j1 => (by rw [em, belT j0 j1] at zm; cases zm)⟩
theorem wh_lo {g : List Int → Int → Int → List Int} {lo hi : V} (hh : HseK true H v h) (ok : HseOk h) (rl : Rv lo) (sh : Sc hi) (z : 0 < h.pas.length) (zl : belQ 60 lo = false) (q : Fin1 "beat" lo H Q) : spWH g cP cB [v, .int 0, lo, hi] H R (Hd cR cP cB cF Q) :=
  ⟨v, .int 0, lo, hi, true, h, rfl, hh, ok, .int 0, rl.sc, sh, fun c => (by rw [pas_0 z] at c; cases c), fun i p e h0 e1 _ => er_beat rl q, fun i p e h0 e1 el => (by rw [zl] at el; cases el), fun i p a b e h0 e1 el eh a0 a1 => (by rw [el, belT a0 a1] at zl; cases zl)⟩
theorem wh_hi {g : List Int → Int → Int → List Int} {hi : V} (hh : HseK true H v h) (ok : HseOk h) (rh : Rv hi) (z : 0 < h.pas.length) (zh : belQ 60 hi = false) (q : Fin1 "beat" hi H Q) : spWH g cP cB [v, .int 0, .int 3, hi] H R (Hd cR cP cB cF Q) :=
  ⟨v, .int 0, .int 3, hi, true, h, rfl, hh, ok, .int 0, .int 3, rh.sc, fun c => (by rw [pas_0 z] at c; cases c), fun i p e h0 e1 el => (by rw [belT (by decide) (by decide)] at el; cases el), fun i p e h0 e1 _ _ => er_beat rh q, fun i p a b e h0 e1 el eh a0 a1 b0 b1 => (by rw [eh, belT b0 b1] at zh; cases zh)⟩
end
end K5
set_option Elab.async false
set_option linter.all false
set_option maxRecDepth 100000
set_option maxHeartbeats 2000000
namespace K5
open PySem PySem.Spec PyProof.Rows L2 PySem.K5X LamX
/-- all but the box and the tables -/
def XN (b : Addr) (H H' : Hp) : Prop := ∀ a o, a ≠ b → (∀ ps, o ≠ .tbl ps) → H a = some o → H' a = some o
theorem XN.refl (b : Addr) (H : Hp) : XN b H H := fun _ _ _ _ e => e
theorem XN.trans {b : Addr} {H H1 H2 : Hp} (x : XN b H H1) (y : XN b H1 H2) : XN b H H2 := fun a o n t e => y a o n t (x a o n t e)
theorem XN.same {b : Addr} {H H' : Hp} (s : Same H H') : XN b H H' := fun a o _ _ e => s a o e
theorem XN.sx {b : Addr} {H H' : Hp} (s : SX b H H') : XN b H H' := fun a o n _ e => s a o n e
theorem XN.ext {b : Addr} {H H' : Hp} (s : ExtN H H') : XN b H H' := fun a o _ t e => s a o e t
theorem XN.ts {b : Addr} {H H' : Hp} (s : XN b H H') (hb : Bx H b) : TS H H' := fun a xs e => by
  obtain ⟨g, t, z, _⟩ := hb
  exact s a _ (ne_of e z (fun h => nomatch h)) (fun _ h => nomatch h) e
theorem XN.ext_ {b : Addr} {H H' : Hp} {a : Addr} {φ : Heap → Prop} (s : XN b H H') (hb : Bx H b) (e : H a = some (.ext φ)) : H' a = some (.ext φ) := by
  obtain ⟨g, t, z, _⟩ := hb
  exact s a _ (ne_of e z (fun h => nomatch h)) (fun _ h => nomatch h) e
theorem tabs_sx {T : List (Addr × Str)} {b : Addr} {H H' : Hp} (t : Tabs T H) (s : SX b H H') (hb : Bx H b) : Tabs T H' := fun p hp => by
  obtain ⟨g, u, z, _⟩ := hb
  obtain ⟨ps, h1, h2, h3⟩ := t p hp
  refine ⟨ps, s _ _ (ne_of h1 z (fun h => nomatch h)) h1, h2, fun pos cv hc => ?_⟩
  obtain ⟨c, e1, e2⟩ := h3 pos cv hc
  exact ⟨c, e1, s _ _ (ne_of e2 z (fun h => nomatch h)) e2⟩
/-- a state of _law_none_right: H0 the entry -/
structure Nr (T : List (Addr × Str)) (b : Addr) (H0 H : Hp) : Prop where
  b0 : Bx H0 b
  bx : Bx H b
  tb : Tabs T H
  xn : XN b H0 H
section
variable {T : List (Addr × Str)} {b : Addr} {H0 H H' : Hp}
theorem Nr.ts (n : Nr T b H0 H) : TS H0 H := n.xn.ts n.b0
theorem Nr.same (n : Nr T b H0 H) (s : Same H H') : Nr T b H0 H' := ⟨n.b0, n.bx.same s, n.tb.ext s, n.xn.trans (XN.same s)⟩
theorem Nr.sx (n : Nr T b H0 H) (s : SX b H H') (hb : Bx H' b) : Nr T b H0 H' := ⟨n.b0, hb, tabs_sx n.tb s n.bx, n.xn.trans (XN.sx s)⟩
theorem Nr.ext (n : Nr T b H0 H) (s : ExtN H H') (t : Tabs T H') : Nr T b H0 H' := ⟨n.b0, (by
  obtain ⟨g, u, z, h1, h2⟩ := n.bx
  exact ⟨g, u, s _ _ z (fun _ h => nomatch h), h1, h2⟩), t, n.xn.trans (XN.ext s)⟩
end
section
variable {T : List (Addr × Str)} {b : Addr} {H0 H H' : Hp}
/-- nothing but a table stood there -/
def Fz (H0 : Hp) (p : Addr) : Prop := ∀ o, (∀ ps, o ≠ .tbl ps) → H0 p = some o → False
theorem Nr.fresh {p : Addr} (n : Nr T b H0 H) (h : H p = none) : Fz H0 p := fun o t e => by
  have z := n.xn p o (n.bx.ne h) t e
  rw [h] at z
  cases z
theorem Nr.upd {p : Addr} {xs ys : List V} (n : Nr T b H0 H) (z : Fz H0 p) (ne : p ≠ b) (h : H p = some (.lst xs)) : Nr T b H0 (upd H p (.lst ys)) := by
  refine ⟨n.b0, n.bx.upd ne, fun P hP => ?_, fun a o na t e => ?_⟩
  · obtain ⟨ps, h1, h2, h3⟩ := n.tb P hP
    refine ⟨ps, by rw [upd_ne (ne_of h1 h (fun z => nomatch z))]; exact h1, h2, fun pos cv hc => ?_⟩
    obtain ⟨c, e1, e2⟩ := h3 pos cv hc
    exact ⟨c, e1, by rw [upd_ne (ne_of e2 h (fun z => nomatch z))]; exact e2⟩
  · rw [upd_ne (fun ea => z o t (by rw [← ea]; exact e))]
    exact n.xn a o na t e
end
section
variable {T : List (Addr × Str)} {b : Addr} {H0 H : Hp} {G : LamI → Prop} {cells : List (Str × Addr)} {q : Str} {fs : L2.St → L2.St} {cR cP cB cF : Addr} {σ : L2.St} {Q : VK}
/-- a lambda that is made and heard at once -/
theorem heard_lam {l : LamI} (n : Nr T b H0 H) (g : G l) (k : ∀ H1, Nr T b H0 H1 → ExtN H H1 → l.tb (Hd cR cP cB cF Q) (fs σ) H1 fun u H2 => [V.str "told", u].length ≤ sizeLine ∧ ∀ p, H2 p = none → Q (.ref p) (upd H2 p (.tup [.str "told", u]))) :
    tHeard G cells q fs cR cP cB cF (tCons (tLamE cells T q l) tNil) σ H Q :=
  ⟨n.tb, fun f c' H1 e t _ hf hc => ⟨f, c', l, rfl, g, hf, hc, k H1 (n.ext e t) e⟩⟩
/-- (w, repr(x), True) -/
theorem due_ok {w : Str} {x : V} {i : Nat} (hi : σ[i]? = some (some x)) (r : Rv x) (q : ∀ p H', Same H H' → H' p = some (HrT w (rep x)) → Q (.ref p) H') :
    tTup (tCons (tC (.str w)) (tCons (tCB rRep (tCons (tVar i) tNil)) (tCons (tC (.bl true)) tNil))) σ H Q :=
  ⟨x, hi, x, rfl, r.rk, Nat.le_of_lt (small1000 (by show 3 ≤ 1000; decide)), fun p hp => q p _ (Same.new hp) upd_same⟩
/-- heard(lambda) != (w, repr(x), True) -/
theorem heard_ne {l : LamI} {w : Str} {x : V} {i : Nat} {Qb : Bool → Hp → Prop} (n : Nr T b H0 H) (g : G l) (hw : PyData.strOk w = true) (hi : σ[i]? = some (some x)) (r : Rv x)
    (k : ∀ H1 (Q' R : VK), Nr T b H0 H1 → ExtN H H1 → Fin1 w x H1 Q' → l.tb (Hd cR cP cB cF Q') (fs σ) H1 R) (fin : ∀ H', Nr T b H0 H' → ExtN H H' → Qb false H') :
    tTest (tOp rHe (tHeard G cells q fs cR cP cB cF (tCons (tLamE cells T q l) tNil)) (tTup (tCons (tC (.str w)) (tCons (tCB rRep (tCons (tVar i) tNil)) (tCons (tC (.bl true)) tNil))))) σ H Qb := by
  refine heard_lam n g fun H1 n1 e1 => k H1 _ _ n1 e1 fun p H2 s2 h2 => ?_
  refine due_ok hi r fun p3 H3 s3 h3 => ?_
  exact ⟨p, p3, w, _, rfl, rfl, s3.get h2, h3, hw, r.so, _, rfl, fin H3 ((n1.same s2).same s3) (e1.trans (ExtN.of fun b o e => s3 _ _ (s2 _ _ e)))⟩
/-- heard(lambda) != due -/
theorem heard_nev {l : LamI} {w : Str} {x : V} {i : Nat} {p0 : Addr} {Qb : Bool → Hp → Prop} (n : Nr T b H0 H) (g : G l) (hw : PyData.strOk w = true) (hi : σ[i]? = some (some (.ref p0))) (h0 : H p0 = some (HrT w (rep x))) (r : Rv x)
    (k : ∀ H1 (Q' R : VK), Nr T b H0 H1 → ExtN H H1 → Fin1 w x H1 Q' → l.tb (Hd cR cP cB cF Q') (fs σ) H1 R) (fin : ∀ H', Nr T b H0 H' → ExtN H H' → Qb false H') :
    tTest (tOp rHe (tHeard G cells q fs cR cP cB cF (tCons (tLamE cells T q l) tNil)) (tVar i)) σ H Qb := by
  refine heard_lam n g fun H1 n1 e1 => k H1 _ _ n1 e1 fun p H2 s2 h2 => ?_
  exact ⟨_, hi, p, p0, w, _, rfl, rfl, h2, s2.get (e1 _ _ h0 fun _ z => nomatch z), hw, r.so, _, rfl, fin H2 (n1.same s2) (e1.trans (ExtN.of s2))⟩
/-- things that are told by what is true of them stay -/
def EX (H H' : Hp) : Prop := ∀ a φ, H a = some (.ext φ) → H' a = some (.ext φ)
theorem EX.trans {H H1 H2 : Hp} (x : EX H H1) (y : EX H1 H2) : EX H H2 := fun a φ e => y a φ (x a φ e)
theorem EX.same {H H' : Hp} (s : Same H H') : EX H H' := fun a φ e => s a _ e
theorem EX.ext {H H' : Hp} (s : ExtN H H') : EX H H' := fun a φ e => s a _ e fun _ z => nomatch z
theorem EX.lst {H : Hp} {p : Addr} {xs : List V} {o : HO} (h : H p = some (.lst xs)) : EX H (L2.upd H p o) := fun a φ e => by
  rw [upd_ne (ne_of e h (fun z => nomatch z))]
  exact e
/-- a lambda that is kept, to be heard later, with what it is to tell -/
def Ask (T : List (Addr × Str)) (b : Addr) (G : LamI → Prop) (cells : List (Str × Addr)) (q : Str) (cR cP cB cF : Addr) (σ : L2.St) (w : Str) (x : V) (H0 H : Hp) (v : V) : Prop :=
  ∃ (f c' : Addr) (l : LamI), v = .ref f ∧ G l ∧ H f = some (LamO cells q l c' f) ∧ H c' = some (CodeO c' q) ∧ ∀ H1 (Q' R : VK), Nr T b H0 H1 → Fin1 w x H1 Q' → l.tb (Hd cR cP cB cF Q') σ H1 R
theorem Ask.keep {w : Str} {x v : V} {H' : Hp} (a : Ask T b G cells q cR cP cB cF σ w x H0 H v) (s : EX H H') : Ask T b G cells q cR cP cB cF σ w x H0 H' v := by
  obtain ⟨f, c', l, e, g, h1, h2, k⟩ := a
  exact ⟨f, c', l, e, g, s _ _ h1, s _ _ h2, k⟩
/-- heard(ask) != (w, repr(x), True), in a block -/
theorem heard_ask {σ' : L2.St} {w : Str} {x v : V} {i j : Nat} {Qb : Bool → Hp → Prop} (n : Nr T b H0 H) (a : Ask T b G cells q cR cP cB cF σ w x H0 H v) (hw : PyData.strOk w = true) (hj : σ'[j]? = some (some v)) (hi : σ'[i]? = some (some x)) (r : Rv x)
    (fin : ∀ H', Same H H' → Qb false H') :
    tTest (tOp rHe (tHeard G cells q (fun _ => σ) cR cP cB cF (tCons (tVar j) tNil)) (tTup (tCons (tC (.str w)) (tCons (tCB rRep (tCons (tVar i) tNil)) (tCons (tC (.bl true)) tNil))))) σ' H Qb := by
  obtain ⟨f, c', l, rfl, g, h1, h2, k⟩ := a
  refine ⟨_, hj, f, c', l, rfl, g, h1, h2, k H _ _ n fun p H2 s2 h2 => ?_⟩
  refine due_ok hi r fun p3 H3 s3 h3 => ?_
  exact ⟨p, p3, w, _, rfl, rfl, s3.get h2, h3, hw, r.so, _, rfl, fin H3 (s2.trans s3)⟩
end
end K5
set_option Elab.async false
set_option linter.all false
set_option maxRecDepth 100000
set_option maxHeartbeats 0
namespace K5
open PySem PySem.Spec PyProof.Rows L2 PySem.K5X LamX
abbrev sNo : Stmt := top 47
abbrev nNo : List Str := ["_law_box_here", "_law_house_here", "_law_rooms", "_law_passages", "_law_smoke", "_law_odd", "_law_beat", "_law_many", "_law_room", "_law_due", "_law_asks", "_law_ask"]
theorem scNo : FnScope nNo ["_law_box_here", "_law_house_here"] (defScope sNo) := ⟨rfl, rfl, rfl, by decide +kernel, rfl, by decide +kernel, by decide +kernel⟩
abbrev qNo : Str := (Str.ofString "_law_none_right" ++ ".<locals>." : Str) ++ "<lambda>"
/-- the def as it stands, its code object at c, its table at pT -/
structure DfL (K : PySem.W.Frag) (mg : Str → Option Value) (base : Heap) (f c pT : Addr) : Prop where
  ex : ∃ (oc : Value) (od : Option Addr) (kV doc pm : Value) (an : Option Addr) (ct : Value) (osl : Array (Option Value)),
    K.lookup f = some ⟨oc, od, .func (PySem.W.fnOf "_law_none_right" "_law_none_right" (defArgs sNo) (defBody sNo) (defScope sNo) .none kV doc pm an (.ref c) ct), osl⟩
  cd : PySem.W.codeIn K (.ref c) "_law_none_right" = true
  kp : PySem.W.keepIn K (.ref f) = true
  gl : mg "_law_none_right" = some (.ref f)
  TB : TabB base mg c pT
/-- heard(ask) != (w, repr(x), True), in a block -/
abbrev tAskNe (G : LamI → Prop) (cells : List (Str × Addr)) (cR cP cB cF : Addr) (w : Str) (i : Nat) (σ : L2.St) : TT :=
  tTest (tOp rHe (tHeard G cells qNo (fun _ => σ) cR cP cB cF (tCons (tVar 11) tNil)) (tTup (tCons (tC (.str w)) (tCons (tCB rRep (tCons (tVar i) tNil)) (tCons (tC (.bl true)) tNil)))))
def spNo (T : List (Addr × Str)) : Sp := fun vs H Q _ => ∃ (b : Addr) (v : V) (h : Hse), vs = [.ref b, v] ∧ Bx H b ∧ HseK true H v h ∧ HseOk h ∧ Sml h ∧ Tabs T H ∧ ∀ H', Nr T b H H' → Q (.bl true) H'
section
variable {P : Program} {w : World} {K : PySem.W.Frag} {mg : Str → Option Value} {base : Heap} {cR cP cB cF cO c pT f : Addr} {Tb : List (Addr × Str)}
theorem ok_none (T : Tx P K mg) (X : Hx P K mg cR cP cB cF cO) (D : DfL K mg base f c pT) (hm : (pT, qNo) ∈ Tb) (hu : ∀ p ∈ Tb, p.1 = pT → p.2 = qNo) :
    ∃ fd, L2.Binds K fd ["_law_box_here", "_law_house_here"] [] ∧ FnOk P w K mg base CX0 11 f fd ["_law_box_here", "_law_house_here"] (spNo Tb) := by
  obtain ⟨fP, fdP, DP, bP, GP⟩ := ok_pick (P := P) (w := w) (base := base) T
  obtain ⟨fS, fdS, DS, bS, GS⟩ := ok_WS (P := P) (w := w) (base := base) T X.x
  obtain ⟨fC, fdC, DC, bC, GC⟩ := ok_Cl (P := P) (w := w) (base := base) T X.x
  obtain ⟨fW, fdW, DW, bW, GW⟩ := ok_WW (P := P) (w := w) (base := base) T X.x
  obtain ⟨fH, fdH, DH, bH, GH⟩ := ok_WH (P := P) (w := w) (base := base) T X.x
  obtain ⟨fO, fdO, DO, bO, GO⟩ := ok_WO (P := P) (w := w) (base := base) T X.x
  obtain ⟨oc, od, kV, doc, pm, an, ct, osl, lk⟩ := D.ex
  refine ⟨_, .all (fun us hl => match us, hl with | [_, _], _ => rfl), fn_of lk D.cd scNo (fun vs H Q E h => ?_) (fun A outer s H vs Q E hr h => ?_)⟩
  · obtain ⟨_, _, _, rfl, _⟩ := h
    rfl
  · obtain ⟨b, v, h, rfl, hb, hh0, ok, sml, tb, Qt⟩ := h
    have hr2 : Room 2 _ := hr.mono (by decide)
    have hh0' := hh0
    obtain ⟨a, r, q, t, ws, rfl, ha, hR, hq, hP, hS⟩ := hh0'
    refine ⟨_, PSs.nox (X := cxOf CX0 P w K mg base nNo "_law_none_right" (defScope sNo) f (.ref c) A outer s H E) (pss_cons (ps_asg (pv 1) (pg_tup (n := 3) rfl (pgs_cons (pg_name (i := 2) scNo.nd rfl (.inl rfl)) (pgs_cons (pg_name (i := 3) scNo.nd rfl (.inl rfl)) (pgs_cons (pg_name (i := 4) scNo.nd rfl (.inl rfl)) pgs_nil)))))
      (pss_cons (ps_asg (pe_tup (pa_cons (pe_call GP hr2 (by rfl) DP.gl DP.fn.kp bP .nil pass0 (pa_cons (pv 0) (pa_cons (pe_lst (pa_cons (pe_callB call_lenOf (by rfl) T.bi.len PySem.boot_len (pa_cons (pv 2) pa_nil)) (pa_cons (pe_op op_sub pe_int pe_int) (pa_cons pe_non (pa_cons pe_bl (pa_cons pe_str pa_nil)))))) pa_nil))) (pa_cons (pe_call GP hr2 (by rfl) DP.gl DP.fn.kp bP .nil pass0 (pa_cons (pv 0) (pa_cons (pe_lst (pa_cons pe_int (pa_cons (pe_op op_sub pe_int pe_int) (pa_cons pe_non (pa_cons pe_bl (pa_cons pe_str pa_nil)))))) pa_nil))) pa_nil))) (pg_tup (n := 2) rfl (pgs_cons (pg_name (i := 5) scNo.nd rfl (.inr rfl)) (pgs_cons (pg_name (i := 6) scNo.nd rfl (.inr rfl)) pgs_nil))))
      (C8.pss_cut (ps_set (i := 7) scNo.nd rfl (.inr rfl) (pe_call GP hr2 (by rfl) DP.gl DP.fn.kp bP .nil pass0 (pa_cons (pv 0) (pa_cons (pe_lst (pa_cons pe_int (pa_cons (pe_op op_sub pe_int pe_int) (pa_cons pe_non (pa_cons pe_bl pa_nil))))) pa_nil))))
      (C8.pss_cut (ps_if (pt_cmpR (op_neHe hr.units) (pe_heard (q := qNo) (k := 8) (fs := id) T X hr (fun pins σ H s I => cellsAt_of I) (by rfl) (pa_cons (pe_lam (c := c) (P := pT) (l := ⟨_, _, _, fun E => tCall (spWS cR cB cF) [] E (tCons (tVar 1) (tCons (tVar 5) (tCons (tVar 6) tNil)))⟩) D.TB rfl hm hu (lamS_by (by rfl)) rfl) pa_nil)) (pe_tup (pa_cons pe_str (pa_cons (pe_callB call_rep (by rfl) T.bi.repr (by decide +kernel) (pa_cons (pv 5) pa_nil)) (pa_cons pe_bl pa_nil)))) (nomark _)) (pss_one (ps_ret pe_bl)) pss_nil)
      (C8.pss_cut (ps_if (pt_cmpR (op_neHe hr.units) (pe_heard (q := qNo) (k := 8) (fs := id) T X hr (fun pins σ H s I => cellsAt_of I) (by rfl) (pa_cons (pe_lam (c := c) (P := pT) (l := ⟨_, _, _, fun E => tCall (spCl cR cF) [] E (tCons (tVar 1) (tCons (tVar 5) tNil))⟩) D.TB rfl hm hu (lamS_by (by rfl)) rfl) pa_nil)) (pe_tup (pa_cons pe_str (pa_cons (pe_callB call_rep (by rfl) T.bi.repr (by decide +kernel) (pa_cons (pv 5) pa_nil)) (pa_cons pe_bl pa_nil)))) (nomark _)) (pss_one (ps_ret pe_bl)) pss_nil)
      (C8.pss_cut (ps_for PassesOwn.never rfl (pi_range1 rfl T.bi.range (pa_cons (pe_callB call_lenOf (by rfl) T.bi.len PySem.boot_len (pa_cons (pv 2) pa_nil)) pa_nil)) (pg_name (i := 8) scNo.nd rfl (.inr rfl)) (C8.pss_cut (ps_set (i := 9) scNo.nd rfl (.inl rfl) (pe_ifExp (pt_cmpR op_eq (pe_ix ix_sq (pv 2) (pv 8) (fun _ _ => rfl)) pe_int (nomark _)) (pe_tup (pa_cons pe_str (pa_cons (pe_callB call_rep (by rfl) T.bi.repr (by decide +kernel) (pa_cons (pv 8) pa_nil)) (pa_cons pe_bl pa_nil)))) (pe_tup (pa_cons pe_str (pa_cons (pe_callB call_rep (by rfl) T.bi.repr (by decide +kernel) (pa_cons (pv 6) pa_nil)) (pa_cons pe_bl pa_nil))))))
      (pss_cons (ps_if (pt_cmpR (op_neHe hr.units) (pe_heard (q := qNo) (k := 8) (fs := id) T X hr (fun pins σ H s I => cellsAt_of I) (by rfl) (pa_cons (pe_lam (c := c) (P := pT) (l := ⟨_, _, _, fun E => tCall (spWS cR cB cF) [] E (tCons (tVar 1) (tCons (tVar 8) (tCons (tVar 6) tNil)))⟩) D.TB rfl hm hu (lamS_by (by rfl)) rfl) pa_nil)) (pv 9) (nomark _)) (pss_one (ps_ret pe_bl)) pss_nil)
      (pss_one (ps_if (PW.pt (pw_and (pt_cmpR op_eq (pe_ix ix_sq (pv 2) (pv 8) (fun _ _ => rfl)) pe_int (nomark _)) (pw_and1 (pt_cmpR (op_neHe hr.units) (pe_heard (q := qNo) (k := 8) (fs := id) T X hr (fun pins σ H s I => cellsAt_of I) (by rfl) (pa_cons (pe_lam (c := c) (P := pT) (l := ⟨_, _, _, fun E => tCall (spCl cR cF) [] E (tCons (tVar 1) (tCons (tVar 8) tNil))⟩) D.TB rfl hm hu (lamS_by (by rfl)) rfl) pa_nil)) (pv 9) (nomark _))))) (pss_one (ps_ret pe_bl)) pss_nil)))))
      (C8.pss_cut (ps_set (i := 5) scNo.nd rfl (.inr rfl) (pe_call GP hr2 (by rfl) DP.gl DP.fn.kp bP .nil pass0 (pa_cons (pv 0) (pa_cons (pe_lst (pa_cons (pe_callB call_lenOf (by rfl) T.bi.len PySem.boot_len (pa_cons (pv 3) pa_nil)) (pa_cons (pe_op op_sub pe_int pe_int) (pa_cons pe_non (pa_cons pe_bl (pa_cons pe_str pa_nil)))))) pa_nil))))
      (pss_cons (ps_set (i := 10) scNo.nd rfl (.inl rfl) (pe_lst (pa_cons (pe_lam (c := c) (P := pT) (l := ⟨_, _, _, fun E => tCall (spWW cP cF) [] E (tCons (tVar 1) (tCons (tVar 5) (tCons (tVar 7) tNil)))⟩) D.TB rfl hm hu (lamS_by (by rfl)) rfl) pa_nil)))
      (pss_cons (ps_expr (pe_bm PySem.F.plainAttrs_list PySem.F.slot_list_append PySem.F.type_list_append mt_append (pv 10) (pa_cons (pe_lam (c := c) (P := pT) (l := ⟨_, _, _, fun E => tCall (spWH shutB cP cB) [] E (tCons (tVar 1) (tCons (tVar 5) (tCons (tVar 6) (tCons (tVar 6) tNil))))⟩) D.TB rfl hm hu (lamS_by (by rfl)) rfl) pa_nil)))
      (C8.pss_cut (ps_expr (pe_bm PySem.F.plainAttrs_list PySem.F.slot_list_append PySem.F.type_list_append mt_append (pv 10) (pa_cons (pe_lam (c := c) (P := pT) (l := ⟨_, _, _, fun E => tCall (spWH openB cP cB) [] E (tCons (tVar 1) (tCons (tVar 5) (tCons (tVar 6) (tCons (tVar 6) tNil))))⟩) D.TB rfl hm hu (lamS_by (by rfl)) rfl) pa_nil)))
      (C8.pss_cut (ps_if (pt_cmpR (op_neNil hr.units) (pe_lcH (own := [("_law_ask", 11)]) (g := gName 11) (tt := fun σ => tAskNe (GoodL P w K mg base nNo (defScope sNo) qNo 8) (cellsFrom (s.heap.objs.size + 1) (defScope sNo).names []) cR cP cB cF "passage" 5 σ) rfl scNo.nd (pi_sq (pv 10)) (blkOk_by (N := nNo) (sc := defScope sNo) (by decide +kernel)) (fun σ s H C cl fp hm => ⟨pg_name (i := 11) scNo.nd rfl (.inl rfl), pts_one (pt_cmpR (op_neHe hr.units) (pe_heard (q := qNo) (k := 8) (fs := fun _ => σ) T X hr hm (by rfl) (pa_cons (pv 11) pa_nil)) (pe_tup (pa_cons pe_str (pa_cons (pe_callB call_rep (by rfl) T.bi.repr (by decide +kernel) (pa_cons (pv 5) pa_nil)) (pa_cons pe_bl pa_nil)))) (nomark _)), pv 11⟩)) (pe_lst pa_nil) (nomark _)) (pss_one (ps_ret pe_bl)) pss_nil)
      (C8.pss_cut (ps_if (pt_cmpR (op_eqNil hr.units) (pv 3) (pe_tup pa_nil) (nomark _)) (pss_one (ps_ret pe_bl)) pss_nil)
      (C8.pss_cut (ps_if (pt_cmpR (op_neHe hr.units) (pe_heard (q := qNo) (k := 8) (fs := id) T X hr (fun pins σ H s I => cellsAt_of I) (by rfl) (pa_cons (pe_lam (c := c) (P := pT) (l := ⟨_, _, _, fun E => tCall (spWW cP cF) [] E (tCons (tVar 1) (tCons (tC (.int 0)) (tCons (tVar 7) tNil)))⟩) D.TB rfl hm hu (lamS_by (by rfl)) rfl) pa_nil)) (pe_tup (pa_cons pe_str (pa_cons (pe_callB call_rep (by rfl) T.bi.repr (by decide +kernel) (pa_cons (pv 7) pa_nil)) (pa_cons pe_bl pa_nil)))) (nomark _)) (pss_one (ps_ret pe_bl)) pss_nil)
      (pss_cons (ps_set (i := 10) scNo.nd rfl (.inl rfl) (pe_lst (pa_cons (pe_lam (c := c) (P := pT) (l := ⟨_, _, _, fun E => tCall (spWH shutB cP cB) [] E (tCons (tVar 1) (tCons (tC (.int 0)) (tCons (tVar 6) (tCons (tC .non) tNil))))⟩) D.TB rfl hm hu (lamS_by (by rfl)) rfl) pa_nil)))
      (pss_cons (ps_expr (pe_bm PySem.F.plainAttrs_list PySem.F.slot_list_append PySem.F.type_list_append mt_append (pv 10) (pa_cons (pe_lam (c := c) (P := pT) (l := ⟨_, _, _, fun E => tCall (spWH shutB cP cB) [] E (tCons (tVar 1) (tCons (tC (.int 0)) (tCons (tC (.int 3)) (tCons (tVar 6) tNil))))⟩) D.TB rfl hm hu (lamS_by (by rfl)) rfl) pa_nil)))
      (pss_cons (ps_expr (pe_bm PySem.F.plainAttrs_list PySem.F.slot_list_append PySem.F.type_list_append mt_append (pv 10) (pa_cons (pe_lam (c := c) (P := pT) (l := ⟨_, _, _, fun E => tCall (spWH openB cP cB) [] E (tCons (tVar 1) (tCons (tC (.int 0)) (tCons (tVar 6) (tCons (tC .non) tNil))))⟩) D.TB rfl hm hu (lamS_by (by rfl)) rfl) pa_nil)))
      (C8.pss_cut (ps_expr (pe_bm PySem.F.plainAttrs_list PySem.F.slot_list_append PySem.F.type_list_append mt_append (pv 10) (pa_cons (pe_lam (c := c) (P := pT) (l := ⟨_, _, _, fun E => tCall (spWH openB cP cB) [] E (tCons (tVar 1) (tCons (tC (.int 0)) (tCons (tC (.int 3)) (tCons (tVar 6) tNil))))⟩) D.TB rfl hm hu (lamS_by (by rfl)) rfl) pa_nil)))
      (pss_one (ps_ret (pe_cmpR (op_eqNil hr.units) (pe_lcH (own := [("_law_ask", 11)]) (g := gName 11) (tt := fun σ => tAskNe (GoodL P w K mg base nNo (defScope sNo) qNo 8) (cellsFrom (s.heap.objs.size + 1) (defScope sNo).names []) cR cP cB cF "beat" 6 σ) rfl scNo.nd (pi_sq (pv 10)) (blkOk_by (N := nNo) (sc := defScope sNo) (by decide +kernel)) (fun σ s H C cl fp hm => ⟨pg_name (i := 11) scNo.nd rfl (.inl rfl), pts_one (pt_cmpR (op_neHe hr.units) (pe_heard (q := qNo) (k := 8) (fs := fun _ => σ) T X hr hm (by rfl) (pa_cons (pv 11) pa_nil)) (pe_tup (pa_cons pe_str (pa_cons (pe_callB call_rep (by rfl) T.bi.repr (by decide +kernel) (pa_cons (pv 6) pa_nil)) (pa_cons pe_bl pa_nil)))) (nomark _)), pv 11⟩)) (pe_lst pa_nil) (nomark _))))))))))))))))))))), ?_⟩
    have n0 : Nr Tb b H H := ⟨hb, hb, tb, XN.refl b H⟩
    have lR : h.rooms.length ≤ 5 := sml.1
    have lP : h.pas.length ≤ 7 := sml.2
    have vw : ws.length = h.pas.length := hP.1
    refine ⟨_, rfl, a, _, rfl, sqT ha, rfl, _, _, rfl, _, _, rfl, _, _, rfl, rfl, ?_⟩
    -- odd, beat, many
    refine ⟨_, rfl, _, rfl, r, true, _, rfl, hR, 0, 1, rfl, rfl, by show 5 ≤ sizeLine; decide, fun p1 hp1 => ?_⟩
    have np1 := hb.ne hp1
    refine ⟨b, p1, false, _, rfl, hb.upd np1, np1, upd_same, (by show 0 < 5; decide), (by show 5 ≤ 1000; decide), fun j1 vo H1 ho b1 s1 => ?_⟩
    rw [List.length_map] at ho
    obtain ⟨ro, qo⟩ := bad_mem rv_0 (fun _ => rfl) ho (by omega) (by omega)
    have n1 : Nr Tb b H H1 := (n0.same (Same.new hp1)).sx s1 b1
    refine ⟨_, rfl, 0, 1, rfl, rfl, by show 5 ≤ sizeLine; decide, fun p2 hp2 => ?_⟩
    have np2 := b1.ne hp2
    refine ⟨b, p2, false, _, rfl, b1.upd np2, np2, upd_same, (by show 0 < 5; decide), (by show 5 ≤ 1000; decide), fun j2 vb H2 hvb b2 s2 => ?_⟩
    obtain ⟨rb, qb⟩ := bad_mem rv_1 (fun _ => rfl) hvb (by decide) (by decide)
    have n2 : Nr Tb b H H2 := (n1.same (Same.new hp2)).sx s2 b2
    refine ⟨by show 2 ≤ sizeLine; decide, fun p3 hp3 => ⟨p3, _, rfl, sqT upd_same, rfl, _, _, rfl, _, _, rfl, rfl, ?_⟩⟩
    have n3 := n2.same (Same.new (o := .tup [vo, vb]) hp3)
    refine ⟨fun σ' H' => ∃ vm, σ' = [some (.ref b), some (.ref a), some (.ref r), some (.ref q), some (.ref t), some vo, some vb, some vm, none, none, none, none] ∧ Nr Tb b H H' ∧ Rv vm ∧ belQ 10 vm = false, ?_, ?_⟩
    · refine ⟨_, rfl, 0, 1, rfl, rfl, by show 4 ≤ sizeLine; decide, fun p4 hp4 => ?_⟩
      have np4 := n3.bx.ne hp4
      refine ⟨b, p4, false, _, rfl, n3.bx.upd np4, np4, upd_same, (by show 0 < 4; decide), (by show 4 ≤ 1000; decide), fun j4 vm H4 hvm b4 s4 => ?_⟩
      obtain ⟨rm, qm⟩ := bad_mem4 hvm (by decide) (by decide)
      exact ⟨vm, rfl, (n3.same (Same.new hp4)).sx s4 b4, rm, qm⟩
    clear n3 hp3 n2 s2 b2 hvb n1 s1 b1 ho np1 np2 hp1 hp2
    rintro σ1 H1 ⟨vm, rfl, n1, rm, qm⟩
    have hhs : ∀ {H'}, Nr Tb b H H' → HseK true H' (.ref a) h := fun n => hh0.ts n.ts
    -- an odd room
    refine ⟨fun σ' H' => σ' = [some (.ref b), some (.ref a), some (.ref r), some (.ref q), some (.ref t), some vo, some vb, some vm, none, none, none, none] ∧ Nr Tb b H H', ?_, ?_⟩
    · exact heard_ne n1 ⟨lamS_by (by rfl), fun _ _ _ _ _ => rfl, fun cells A outer s H E f c' hr => pe_call GS hr (by rfl) DS.gl DS.fn.kp bS .nil (passes_call (takes_of rfl rfl rfl rfl) fun _ _ _ _ h => h) (pa_cons (pv 1) (pa_cons (pv 5) (pa_cons (pv 6) pa_nil)))⟩ (by decide +kernel) rfl ro (fun H2 Q' R n2 e2 fin => ⟨_, rfl, _, rfl, _, rfl, ws_room (hhs n2) ok ro rb.sc qo fin⟩) fun H2 n2 e2 => iteF ⟨rfl, n2⟩
    rintro σ2 H2 ⟨rfl, n2⟩
    refine ⟨fun σ' H' => σ' = [some (.ref b), some (.ref a), some (.ref r), some (.ref q), some (.ref t), some vo, some vb, some vm, none, none, none, none] ∧ Nr Tb b H H', ?_, ?_⟩
    · exact heard_ne n2 ⟨lamS_by (by rfl), fun _ _ _ _ _ => rfl, fun cells A outer s H E f c' hr => pe_call GC hr (by rfl) DC.gl DC.fn.kp bC .nil (passes_call (takes_of rfl rfl rfl rfl) fun _ _ _ _ h => h) (pa_cons (pv 1) (pa_cons (pv 5) pa_nil))⟩ (by decide +kernel) rfl ro (fun H2 Q' R n2 e2 fin => ⟨_, rfl, _, rfl, cl_room (hhs n2) ok ro qo fin⟩) fun H2 n2 e2 => iteF ⟨rfl, n2⟩
    clear n1 n2
    rintro σ2 H2 ⟨rfl, n2⟩
    -- every room
    refine ⟨fun σ' H' => ∃ y8 y9, σ' = [some (.ref b), some (.ref a), some (.ref r), some (.ref q), some (.ref t), some vo, some vb, some vm, y8, y9, none, none] ∧ Nr Tb b H H', ?_, ?_⟩
    · refine ⟨_, rfl, r, true, _, rfl, n2.ts _ _ hR, _, rfl, by rw [List.length_map]; omega, by rw [List.length_map]; omega, ?_⟩
      refine for_it walk_range (fun i σ' H' => ∃ y8 y9, σ' = [some (.ref b), some (.ref a), some (.ref r), some (.ref q), some (.ref t), some vo, some vb, some vm, y8, y9, none, none] ∧ Nr Tb b H H') ⟨none, none, rfl, n2⟩ (fun _ _ _ _ _ => True.intro) ?_ (fun σ' H' x => x)
      rintro i x σ' G G' hi ⟨y8, y9, rfl, nG⟩ ⟨rfl, rfl⟩
      show gName 8 (.int (0 + (i : Int))) _ _ _
      rw [Int.zero_add]
      have hi2 : i < h.rooms.length := by rw [List.length_map, Int.toNat_natCast] at hi; exact hi
      have hri : h.rooms[i]? = some h.rooms[i] := List.getElem?_eq_getElem hi2
      have hri2 : h.rooms[((i : Int)).toNat]? = some h.rooms[i] := by rw [Int.toNat_natCast]; exact hri
      have ri : Rv (.int (i : Int)) := rv_int (by omega) (by omega)
      rcases ok.rv h.rooms[i] (List.getElem_mem hi2) with e0 | e1
      · rw [e0] at hri hri2
        refine ⟨fun σ' H' => ∃ p0, σ' = [some (.ref b), some (.ref a), some (.ref r), some (.ref q), some (.ref t), some vo, some vb, some vm, some (.int i), some (.ref p0), none, none] ∧ Nr Tb b H H' ∧ H' p0 = some (HrT "beat" (rep vb)), ?_, ?_⟩
        · refine ⟨_, rfl, _, rfl, r, true, _, i, .int 0, rfl, rfl, nG.ts _ _ hR, atI_nat (by rw [List.getElem?_map, hri]; rfl), rfl, _, rfl, iteDF (fun z => by cases z) ?_⟩
          exact due_ok rfl rb fun p0 G2 s2 e2 => ⟨p0, rfl, nG.same s2, e2⟩
        rintro σ' G2 ⟨p0, rfl, n2, e2⟩
        refine heard_nev n2 ⟨lamS_by (by rfl), fun _ _ _ _ _ => rfl, fun cells A outer s H E f c' hr => pe_call GS hr (by rfl) DS.gl DS.fn.kp bS .nil (passes_call (takes_of rfl rfl rfl rfl) fun _ _ _ _ h => h) (pa_cons (pv 1) (pa_cons (pv 8) (pa_cons (pv 6) pa_nil)))⟩ (by decide +kernel) rfl e2 rb (fun H2 Q' R n2 e2 fin => ⟨_, rfl, _, rfl, _, rfl, ws_beat (hhs n2) ok rb (by omega) hri2 qb fin⟩) fun G3 n3 e3 => iteF ?_
        exact ⟨_, rfl, _, rfl, r, true, _, i, .int 0, rfl, rfl, n3.ts _ _ hR, atI_nat (by rw [List.getElem?_map, hri]; rfl), rfl, _, rfl, iteDF (fun z => by cases z) (iteF ⟨_, _, rfl, n3⟩)⟩
      · rw [e1] at hri hri2
        refine ⟨fun σ' H' => ∃ p0, σ' = [some (.ref b), some (.ref a), some (.ref r), some (.ref q), some (.ref t), some vo, some vb, some vm, some (.int i), some (.ref p0), none, none] ∧ Nr Tb b H H' ∧ H' p0 = some (HrT "refused" (rep (.int i))), ?_, ?_⟩
        · refine ⟨_, rfl, _, rfl, r, true, _, i, .int 1, rfl, rfl, nG.ts _ _ hR, atI_nat (by rw [List.getElem?_map, hri]; rfl), rfl, _, rfl, iteDT rfl ?_⟩
          exact due_ok rfl ri fun p0 G2 s2 e2 => ⟨p0, rfl, nG.same s2, e2⟩
        rintro σ' G2 ⟨p0, rfl, n2, e2⟩
        refine heard_nev n2 ⟨lamS_by (by rfl), fun _ _ _ _ _ => rfl, fun cells A outer s H E f c' hr => pe_call GS hr (by rfl) DS.gl DS.fn.kp bS .nil (passes_call (takes_of rfl rfl rfl rfl) fun _ _ _ _ h => h) (pa_cons (pv 1) (pa_cons (pv 8) (pa_cons (pv 6) pa_nil)))⟩ (by decide +kernel) rfl e2 ri (fun H2 Q' R n2 e2 fin => ⟨_, rfl, _, rfl, _, rfl, ws_at (hhs n2) ok ri rb.sc (by omega) hri2 fin⟩) fun G3 n3 e3 => iteF ?_
        refine ⟨_, rfl, _, rfl, r, true, _, i, .int 1, rfl, rfl, n3.ts _ _ hR, atI_nat (by rw [List.getElem?_map, hri]; rfl), rfl, _, rfl, iteDT rfl ?_⟩
        exact heard_nev n3 ⟨lamS_by (by rfl), fun _ _ _ _ _ => rfl, fun cells A outer s H E f c' hr => pe_call GC hr (by rfl) DC.gl DC.fn.kp bC .nil (passes_call (takes_of rfl rfl rfl rfl) fun _ _ _ _ h => h) (pa_cons (pv 1) (pa_cons (pv 8) pa_nil))⟩ (by decide +kernel) rfl (e3 _ _ e2 fun _ z => nomatch z) ri (fun H2 Q' R n2 e2 fin => ⟨_, rfl, _, rfl, cl_at (hhs n2) ok ri (by omega) hri2 fin⟩) fun G3 n3 e3 => iteF ⟨_, _, rfl, n3⟩
    clear n2
    rintro σ2 H2 ⟨y8, y9, rfl, n2⟩
    -- an odd passage
    refine ⟨fun σ' H' => ∃ vp, σ' = [some (.ref b), some (.ref a), some (.ref r), some (.ref q), some (.ref t), some vp, some vb, some vm, y8, y9, none, none] ∧ Nr Tb b H H' ∧ Rv vp ∧ belQ h.pas.length vp = false, ?_, ?_⟩
    · refine ⟨_, rfl, _, rfl, q, true, _, rfl, n2.ts _ _ hq, 0, 1, rfl, rfl, by show 5 ≤ sizeLine; decide, fun p4 hp4 => ?_⟩
      have np4 := n2.bx.ne hp4
      refine ⟨b, p4, false, _, rfl, n2.bx.upd np4, np4, upd_same, (by show 0 < 5; decide), (by show 5 ≤ 1000; decide), fun j4 vp H4 hvp b4 s4 => ?_⟩
      rw [vw] at hvp
      obtain ⟨rp, qp⟩ := bad_mem rv_0 (fun _ => rfl) hvp (by omega) (by omega)
      exact ⟨vp, rfl, (n2.same (Same.new hp4)).sx s4 b4, rp, qp⟩
    clear n2
    rintro σ2 H2 ⟨vp, rfl, n2, rp, qp⟩
    refine ⟨n2.tb, fun f1 c1 H3 e3 t3 _ hf1 hc1 => ⟨by show 1 ≤ sizeLine; decide, fun pa hpa => ?_⟩⟩
    have n3 := n2.ext e3 t3
    have za := n3.fresh hpa
    have nab := n3.bx.ne hpa
    have ga := Same.new (o := .lst [.ref f1]) hpa
    have n4 := n3.same ga
    refine ⟨_, rfl, .inl ⟨rfl, _, sqL upd_same⟩, n4.tb, fun f2 c2 H5 e5 t5 _ hf2 hc2 => ⟨pa, _, _, rfl, rfl, e5 _ _ upd_same (fun _ z => nomatch z), small1000 (by show 1 ≤ 1000; decide), ?_⟩⟩
    refine ⟨fun σ' H' => ∃ (pa : Addr) (v1 v2 v3 : V), σ' = [some (.ref b), some (.ref a), some (.ref r), some (.ref q), some (.ref t), some vp, some vb, some vm, y8, y9, some (.ref pa), none] ∧ Nr Tb b H H' ∧ H' pa = some (.lst [v1, v2, v3]) ∧
      ∀ v ∈ [v1, v2, v3], Ask Tb b (GoodL P w K mg base nNo (defScope sNo) qNo 8) (cellsFrom (s.heap.objs.size + 1) (defScope sNo).names []) qNo cR cP cB cF [some (.ref b), some (.ref a), some (.ref r), some (.ref q), some (.ref t), some vp, some vb, some vm, y8, y9, some (.ref pa), none] "passage" vp H H' v, ?_, ?_⟩
    · have n5 := n4.ext e5 t5
      have h5 : H5 pa = some (.lst [.ref f1]) := e5 _ _ upd_same (fun _ z => nomatch z)
      have n6 := n5.upd (ys := [.ref f1] ++ [.ref f2]) za nab h5
      refine ⟨_, rfl, .inl ⟨rfl, _, sqL upd_same⟩, n6.tb, fun f3 c3 H7 e7 t7 _ hf3 hc3 => ?_⟩
      have n7 := n6.ext e7 t7
      have h7 : H7 pa = some (.lst ([.ref f1] ++ [.ref f2])) := e7 _ _ upd_same (fun _ z => nomatch z)
      refine ⟨pa, _, _, rfl, rfl, h7, small1000 (by show 2 ≤ 1000; decide), pa, _, _, _, rfl, n7.upd za nab h7, upd_same, fun v hv => ?_⟩
      have x7 : EX H7 _ := EX.lst (o := .lst ([.ref f1] ++ [.ref f2] ++ [.ref f3])) h7
      have x5 : EX H5 _ := (EX.lst (o := .lst ([.ref f1] ++ [.ref f2])) h5).trans ((EX.ext e7).trans x7)
      have x3 : EX H3 _ := (EX.same ga).trans ((EX.ext e5).trans x5)
      simp only [List.mem_cons, List.not_mem_nil, or_false] at hv
      rcases hv with rfl | rfl | rfl
      · exact Ask.keep ⟨f1, c1, _, rfl, ⟨lamS_by (by rfl), fun _ _ _ _ _ => rfl, fun cells A outer s H E f c' hr => pe_call GW hr (by rfl) DW.gl DW.fn.kp bW .nil (passes_call (takes_of rfl rfl rfl rfl) fun _ _ _ _ h => h) (pa_cons (pv 1) (pa_cons (pv 5) (pa_cons (pv 7) pa_nil)))⟩, hf1, hc1, fun H1 Q' R n fin => ⟨_, rfl, _, rfl, _, rfl, ww_pas (hhs n) ok rp rm.sc qp fin⟩⟩ x3
      · exact Ask.keep ⟨f2, c2, _, rfl, ⟨lamS_by (by rfl), fun _ _ _ _ _ => rfl, fun cells A outer s H E f c' hr => pe_call GH hr (by rfl) DH.gl DH.fn.kp bH .nil (passes_call (takes_of rfl rfl rfl rfl) fun _ _ _ _ h => h) (pa_cons (pv 1) (pa_cons (pv 5) (pa_cons (pv 6) (pa_cons (pv 6) pa_nil))))⟩, hf2, hc2, fun H1 Q' R n fin => ⟨_, rfl, _, rfl, _, rfl, _, rfl, wh_pas (hhs n) ok rp rb.sc rb.sc qp fin⟩⟩ x5
      · exact Ask.keep ⟨f3, c3, _, rfl, ⟨lamS_by (by rfl), fun _ _ _ _ _ => rfl, fun cells A outer s H E f c' hr => pe_call GO hr (by rfl) DO.gl DO.fn.kp bO .nil (passes_call (takes_of rfl rfl rfl rfl) fun _ _ _ _ h => h) (pa_cons (pv 1) (pa_cons (pv 5) (pa_cons (pv 6) (pa_cons (pv 6) pa_nil))))⟩, hf3, hc3, fun H1 Q' R n fin => ⟨_, rfl, _, rfl, _, rfl, _, rfl, wh_pas (hhs n) ok rp rb.sc rb.sc qp fin⟩⟩ x7
    clear n2
    rintro σ2 H2 ⟨pa, v1, v2, v3, rfl, n2, hpa, hask⟩
    refine ⟨fun σ' H' => σ' = [some (.ref b), some (.ref a), some (.ref r), some (.ref q), some (.ref t), some vp, some vb, some vm, y8, y9, some (.ref pa), none] ∧ Nr Tb b H H', ?_, ?_⟩
    · refine ⟨_, rfl, pa, false, _, rfl, hpa, fun D hD => ?_⟩
      refine lc_acc walk_sq B0 (fun _ => True) (fun i acc _ => acc = []) (by show 3 ≤ 1000; decide) hD (fun z => z) True.intro (fun _ _ _ _ => True.intro) rfl (fun _ s _ => s.same.get hpa) (fun i x G G' acc Nk Ns hi s _ eD hl hacc y fin skip => ?_) fun G acc s1 _ eD hl hacc => ?_
      · obtain ⟨rfl, hv⟩ := y
        refine ⟨rfl, ?_⟩
        exact heard_ask (n2.same s.same) ((hask x (List.mem_of_getElem? hv)).keep (EX.same s.same)) (by decide +kernel) rfl rfl rp fun H' s' => iteF (skip _ (SB.of s') True.intro hacc)
      · subst hacc
        exact ⟨Nat.zero_le _, fun p hp => ⟨D, p, false, [], [], 0, rfl, rfl, (Same.new hp).get eD, upd_same, .nil, (by intro d hd; cases hd), by decide, _, rfl, iteF ⟨rfl, (n2.same s1.same).same (Same.new hp)⟩⟩⟩
    clear n2 hpa hask
    rintro σ2 H2 ⟨rfl, n2⟩
    -- no passages
    refine ⟨fun σ' H' => σ' = [some (.ref b), some (.ref a), some (.ref r), some (.ref q), some (.ref t), some vp, some vb, some vm, y8, y9, some (.ref pa), none] ∧ Nr Tb b H H' ∧ 0 < h.pas.length, ?_, ?_⟩
    · refine ⟨_, rfl, Nat.zero_le _, fun p2 hp2 => ?_⟩
      have g2 := Same.new (o := .tup []) hp2
      have n3 := n2.same g2
      refine ⟨q, p2, true, ws, _, 2, rfl, rfl, n3.ts _ _ hq, upd_same, dpAll_ps (hP.ts n3.ts), (fun d hd => by
        obtain ⟨p, _, rfl⟩ := List.mem_map.mp hd
        exact gd_pas true p), by decide, _, rfl, ?_⟩
      cases ws with
      | nil => exact iteT (Qt _ n3)
      | cons v ws => exact iteF ⟨rfl, n3, by rw [← vw]; exact Nat.zero_lt_succ _⟩
    clear n2
    rintro σ2 H2 ⟨rfl, n2, pos⟩
    refine ⟨fun σ' H' => σ' = [some (.ref b), some (.ref a), some (.ref r), some (.ref q), some (.ref t), some vp, some vb, some vm, y8, y9, some (.ref pa), none] ∧ Nr Tb b H H', ?_, ?_⟩
    · exact heard_ne n2 ⟨lamS_by (by rfl), fun _ _ _ _ _ => rfl, fun cells A outer s H E f c' hr => pe_call GW hr (by rfl) DW.gl DW.fn.kp bW .nil (passes_call (takes_of rfl rfl rfl rfl) fun _ _ _ _ h => h) (pa_cons (pv 1) (pa_cons pe_int (pa_cons (pv 7) pa_nil)))⟩ (by decide +kernel) rfl rm (fun H2 Q' R n2 e2 fin => ⟨_, rfl, _, rfl, ww_at (hhs n2) ok rm pos qm fin⟩) fun H2 n2 e2 => iteF ⟨rfl, n2⟩
    clear n2
    rintro σ2 H2 ⟨rfl, n2⟩
    -- a wrong beat
    refine ⟨n2.tb, fun f1 c1 H3 e3 t3 _ hf1 hc1 => ⟨by show 1 ≤ sizeLine; decide, fun pb hpb => ?_⟩⟩
    have n3 := n2.ext e3 t3
    have zb := n3.fresh hpb
    have nbb := n3.bx.ne hpb
    have gb := Same.new (o := .lst [.ref f1]) hpb
    have n4 := n3.same gb
    refine ⟨_, rfl, .inl ⟨rfl, _, sqL upd_same⟩, n4.tb, fun f2 c2 H5 e5 t5 _ hf2 hc2 => ⟨pb, _, _, rfl, rfl, e5 _ _ upd_same (fun _ z => nomatch z), small1000 (by show 1 ≤ 1000; decide), ?_⟩⟩
    have n5 := n4.ext e5 t5
    have h5 : H5 pb = some (.lst [.ref f1]) := e5 _ _ upd_same (fun _ z => nomatch z)
    have n6 := n5.upd (ys := [.ref f1] ++ [.ref f2]) zb nbb h5
    refine ⟨_, rfl, .inl ⟨rfl, _, sqL upd_same⟩, n6.tb, fun f3 c3 H7 e7 t7 _ hf3 hc3 => ?_⟩
    have n7 := n6.ext e7 t7
    have h7 : H7 pb = some (.lst ([.ref f1] ++ [.ref f2])) := e7 _ _ upd_same (fun _ z => nomatch z)
    refine ⟨pb, _, _, rfl, rfl, h7, small1000 (by show 2 ≤ 1000; decide), ?_⟩
    have n8 := n7.upd (ys := [.ref f1] ++ [.ref f2] ++ [.ref f3]) zb nbb h7
    refine ⟨fun σ' H' => ∃ (v1 v2 v3 v4 : V), σ' = [some (.ref b), some (.ref a), some (.ref r), some (.ref q), some (.ref t), some vp, some vb, some vm, y8, y9, some (.ref pb), none] ∧ Nr Tb b H H' ∧ H' pb = some (.lst [v1, v2, v3, v4]) ∧
      ∀ v ∈ [v1, v2, v3, v4], Ask Tb b (GoodL P w K mg base nNo (defScope sNo) qNo 8) (cellsFrom (s.heap.objs.size + 1) (defScope sNo).names []) qNo cR cP cB cF [some (.ref b), some (.ref a), some (.ref r), some (.ref q), some (.ref t), some vp, some vb, some vm, y8, y9, some (.ref pb), none] "beat" vb H H' v, ?_, ?_⟩
    · refine ⟨_, rfl, .inl ⟨rfl, _, sqL upd_same⟩, n8.tb, fun f4 c4 H9 e9 t9 _ hf4 hc4 => ?_⟩
      have n9 := n8.ext e9 t9
      have h9 : H9 pb = some (.lst ([.ref f1] ++ [.ref f2] ++ [.ref f3])) := e9 _ _ upd_same (fun _ z => nomatch z)
      refine ⟨pb, _, _, rfl, rfl, h9, small1000 (by show 3 ≤ 1000; decide), _, _, _, _, rfl, n9.upd zb nbb h9, upd_same, fun v hv => ?_⟩
      have x9 : EX H9 _ := EX.lst (o := .lst ([.ref f1] ++ [.ref f2] ++ [.ref f3] ++ [.ref f4])) h9
      have x7 : EX H7 _ := (EX.lst (o := .lst ([.ref f1] ++ [.ref f2] ++ [.ref f3])) h7).trans ((EX.ext e9).trans x9)
      have x5 : EX H5 _ := (EX.lst (o := .lst ([.ref f1] ++ [.ref f2])) h5).trans ((EX.ext e7).trans x7)
      have x3 : EX H3 _ := (EX.same gb).trans ((EX.ext e5).trans x5)
      simp only [List.mem_cons, List.not_mem_nil, or_false] at hv
      rcases hv with rfl | rfl | rfl | rfl
      · exact Ask.keep ⟨f1, c1, _, rfl, ⟨lamS_by (by rfl), fun _ _ _ _ _ => rfl, fun cells A outer s H E f c' hr => pe_call GH hr (by rfl) DH.gl DH.fn.kp bH .nil (passes_call (takes_of rfl rfl rfl rfl) fun _ _ _ _ h => h) (pa_cons (pv 1) (pa_cons pe_int (pa_cons (pv 6) (pa_cons pe_non pa_nil))))⟩, hf1, hc1, fun H1 Q' R n fin => ⟨_, rfl, _, rfl, wh_lo (hhs n) ok rb .non pos qb fin⟩⟩ x3
      · exact Ask.keep ⟨f2, c2, _, rfl, ⟨lamS_by (by rfl), fun _ _ _ _ _ => rfl, fun cells A outer s H E f c' hr => pe_call GH hr (by rfl) DH.gl DH.fn.kp bH .nil (passes_call (takes_of rfl rfl rfl rfl) fun _ _ _ _ h => h) (pa_cons (pv 1) (pa_cons pe_int (pa_cons pe_int (pa_cons (pv 6) pa_nil))))⟩, hf2, hc2, fun H1 Q' R n fin => ⟨_, rfl, _, rfl, wh_hi (hhs n) ok rb pos qb fin⟩⟩ x5
      · exact Ask.keep ⟨f3, c3, _, rfl, ⟨lamS_by (by rfl), fun _ _ _ _ _ => rfl, fun cells A outer s H E f c' hr => pe_call GO hr (by rfl) DO.gl DO.fn.kp bO .nil (passes_call (takes_of rfl rfl rfl rfl) fun _ _ _ _ h => h) (pa_cons (pv 1) (pa_cons pe_int (pa_cons (pv 6) (pa_cons pe_non pa_nil))))⟩, hf3, hc3, fun H1 Q' R n fin => ⟨_, rfl, _, rfl, wh_lo (hhs n) ok rb .non pos qb fin⟩⟩ x7
      · exact Ask.keep ⟨f4, c4, _, rfl, ⟨lamS_by (by rfl), fun _ _ _ _ _ => rfl, fun cells A outer s H E f c' hr => pe_call GO hr (by rfl) DO.gl DO.fn.kp bO .nil (passes_call (takes_of rfl rfl rfl rfl) fun _ _ _ _ h => h) (pa_cons (pv 1) (pa_cons pe_int (pa_cons pe_int (pa_cons (pv 6) pa_nil))))⟩, hf4, hc4, fun H1 Q' R n fin => ⟨_, rfl, _, rfl, wh_hi (hhs n) ok rb pos qb fin⟩⟩ x9
    clear n8 h7 n7 n6 h5 n5 n4 gb n3 n2 hpb
    rintro σ2 H2 ⟨v1, v2, v3, v4, rfl, n2, hpb, hask⟩
    refine ⟨_, rfl, pb, false, _, rfl, hpb, fun D hD => ?_⟩
    refine lc_acc walk_sq B0 (fun _ => True) (fun i acc _ => acc = []) (by show 4 ≤ 1000; decide) hD (fun z => z) True.intro (fun _ _ _ _ => True.intro) rfl (fun _ s _ => s.same.get hpb) (fun i x G G' acc Nk Ns hi s _ eD hl hacc y fin skip => ?_) fun G acc s1 _ eD hl hacc => ?_
    · obtain ⟨rfl, hv⟩ := y
      refine ⟨rfl, ?_⟩
      exact heard_ask (n2.same s.same) ((hask x (List.mem_of_getElem? hv)).keep (EX.same s.same)) (by decide +kernel) rfl rfl rb fun H' s' => iteF (skip _ (SB.of s') True.intro hacc)
    · subst hacc
      exact ⟨Nat.zero_le _, fun p hp => ⟨D, p, false, [], [], 0, rfl, rfl, (Same.new hp).get eD, upd_same, .nil, (by intro d hd; cases hd), by decide, Qt _ ((n2.same s1.same).same (Same.new hp))⟩⟩
end
end K5
set_option Elab.async false
set_option linter.all false
set_option maxRecDepth 100000
set_option maxHeartbeats 2000000
namespace K5
open PySem PySem.Spec PyProof.Rows L2 PySem.K5X LamX
/-! data whose repr is short -/
structure Gw (n m : Nat) (d : PyData) : Prop where
  gd : Gd n d
  wt : d.weight ≤ m
  sh : d.showable = true
  is : d.intsShort 13 = true
  nd : d.hasDict = false
theorem gw_int {i : Int} (h0 : -1 ≤ i) (h1 : i ≤ 60) : Gw 0 7 (.int i) := by
  have all : ∀ n : Fin 62, (PyData.int ((n.1 : Int) - 1)).weight ≤ 7 ∧ (PyData.int ((n.1 : Int) - 1)).showable = true ∧ (PyData.int ((n.1 : Int) - 1)).intsShort 13 = true := by decide +kernel
  obtain ⟨a1, a2, a3⟩ := all ⟨(i + 1).toNat, by omega⟩
  have e : (((i + 1).toNat : Nat) : Int) - 1 = i := by omega
  rw [e] at a1 a2 a3
  exact ⟨gd_int i, a1, a2, a3, rfl⟩
theorem gw_non : Gw 0 7 .none := ⟨gd_non, Nat.zero_le _, rfl, rfl, rfl⟩
theorem Gw.le {n n' m m' : Nat} {d : PyData} (h : Gw n m d) (h1 : n ≤ n') (h2 : m ≤ m') : Gw n' m' d := ⟨h.gd.le h1, Nat.le_trans h.wt h2, h.sh, h.is, h.nd⟩
theorem gw_all {n m : Nat} : ∀ {ds : List PyData}, (∀ d ∈ ds, Gw n m d) → PyData.weightAll ds ≤ ds.length * (m + 1) ∧ PyData.showableAll ds = true ∧ PyData.intsShortAll 13 ds = true ∧ PyData.hasDictAll ds = false
  | [], _ => ⟨by simp [PyData.weightAll], rfl, rfl, rfl⟩
  | d :: ds, h => by
    have x := h d (List.mem_cons_self ..)
    obtain ⟨h1, h2, h3, h4⟩ := gw_all (ds := ds) fun e he => h e (List.mem_cons_of_mem _ he)
    refine ⟨?_, by simp [PyData.showableAll, x.sh, h2], by simp [PyData.intsShortAll, x.is, h3], by simp [PyData.hasDictAll, x.nd, h4]⟩
    have w := x.wt
    simp only [PyData.weightAll, List.length_cons, Nat.succ_mul]
    omega
theorem gw_sq {k : Bool} {n m l : Nat} {ds : List PyData} (h : ∀ d ∈ ds, Gw n m d) (hl : ds.length ≤ l) : Gw (n + 1) (l * (m + 1)) (sqD k ds) := by
  obtain ⟨h1, h2, h3, h4⟩ := gw_all h
  have w : PyData.weightAll ds ≤ l * (m + 1) := Nat.le_trans h1 (Nat.mul_le_mul_right _ hl)
  have g : Gd (n + 1) (sqD k ds) := gd_sq fun d hd => (h d hd).gd
  cases k
  · exact ⟨g, by simpa [sqD, PyData.weight] using w, by simpa [sqD, PyData.showable] using h2, by simpa [sqD, PyData.intsShort] using h3, by simpa [sqD, PyData.hasDict] using h4⟩
  · exact ⟨g, by simpa [sqD, PyData.weight] using w, by simpa [sqD, PyData.showable] using h2, by simpa [sqD, PyData.intsShort] using h3, by simpa [sqD, PyData.hasDict] using h4⟩
theorem gw_ints {k : Bool} {l : Nat} {ns : List Int} (h : ∀ n ∈ ns, 0 ≤ n ∧ n < 60) (hl : ns.length ≤ l) : Gw 1 (l * 8) (sqD k (ns.map PyData.int)) := gw_sq (n := 0) (m := 7) (fun d hd => by
  obtain ⟨n, hn, rfl⟩ := List.mem_map.mp hd
  have := h n hn
  exact gw_int (by omega) (by omega)) (by rw [List.length_map]; exact hl)
theorem gw_pas (k : Bool) {rooms : List Int} {p : Pas} (h : PasOk rooms p) (hr : rooms.length ≤ 20) : Gw 2 2405 (pasD k p) := gw_sq (n := 1) (m := 480) (l := 5) (fun d hd => by
  have h1 := h.t0; have h2 := h.t1; have h3 := h.h0; have h4 := h.h1; have h5 := h.l1; have h6 := h.l9; have h7 := h.w0; have h8 := h.w9
  simp only [List.mem_cons, List.not_mem_nil, or_false] at hd
  rcases hd with rfl | rfl | rfl | rfl | rfl
  · exact (gw_int (by omega) (by omega)).le (by decide) (by decide)
  · exact (gw_int (by omega) (by omega)).le (by decide) (by decide)
  · exact (gw_int (by omega) (by omega)).le (by decide) (by decide)
  · exact (gw_int (by omega) (by omega)).le (by decide) (by decide)
  · exact gw_ints h.bd h.len) (by show 5 ≤ 5; decide)
theorem gw_hse (k : Bool) {h : Hse} (x : HseOk h) : Gw 4 433083 (hseD k h) := gw_sq (n := 3) (m := 144360) (l := 3) (fun d hd => by
  simp only [List.mem_cons, List.not_mem_nil, or_false] at hd
  rcases hd with rfl | rfl | rfl
  · exact (gw_ints (l := 20) (fun n hn => by have := x.rv n hn; omega) x.r20).le (by decide) (by decide)
  · exact gw_sq (n := 2) (m := 2405) (l := 60) (fun d hd => by
      obtain ⟨p, hp, rfl⟩ := List.mem_map.mp hd
      exact gw_pas k (x.pk p hp) x.r20) (by rw [List.length_map]; exact x.p60)
  · exact (gw_sq (n := 0) (m := 7) (l := 20) (fun d hd => by
      obtain ⟨o, ho, rfl⟩ := List.mem_map.mp hd
      cases o with
      | none => exact gw_non
      | some b =>
        obtain ⟨i, hi, e⟩ := List.mem_iff_getElem.mp ho
        have := x.sk i b (by rw [List.getElem?_eq_getElem hi, e])
        exact gw_int (by omega) (by omega)) (by rw [List.length_map, x.sl]; exact x.r20)).le (by decide) (by decide)) (by show 3 ≤ 3; decide)
/-- repr(a list or a tuple), where nothing is being shown -/
def rRepD (K : PySem.W.Frag) : List V → Hp → VK → Prop := fun xs H Q => ∃ (a : Addr) (d : PyData) (n m : Nat), xs = [.ref a] ∧ Dp K H (.ref a) d ∧ Gw n m d ∧ n ≤ 60 ∧ m ≤ 1048576 ∧ Q (.str d.shown) H
theorem call_repD {X : Cx} (hg : X.A.guards = some []) (hu : X.A.units + 64 < cLine) : CallR X (.builtin "repr") (rRepD X.K) := by
  intro pins s σ H xs us Q I r h
  obtain ⟨a, d, n, m, rfl, hd, w, hn, hm, q⟩ := h
  obtain ⟨u, rfl, ru⟩ := vals1 r
  obtain ⟨as, rd⟩ := Dp.reads I d _ u hd ru
  obtain rfl : u = Value.ref a := ru
  have dd := w.gd.2
  have ww : d.weight ≤ 2 ^ 20 := Nat.le_trans w.wt (Nat.le_trans hm (by decide))
  have lay : PyData.layable0 d = true := by
    unfold PyData.layable0
    rw [w.gd.1, decide_eq_true (show d.depth ≤ 64 by omega), decide_eq_true ww]
    rfl
  have hz : d.shown.length ≤ sizeLine := Nat.le_trans (shown_le13 lay w.is) (by rw [sizeLine_eq]; decide)
  exact repr_of_reads' rd w.sh (fun z => by rw [w.nd] at z; cases z) hg (by omega) (fun _ _ e => e) (fun h' u tk hk => ⟨.str _, H, I.kept (t' := tk) hk, ⟨_, rfl⟩, q⟩) hz
end K5
set_option Elab.async false
set_option linter.all false
set_option maxRecDepth 100000
set_option maxHeartbeats 0
namespace K5
open PySem PySem.Spec PyProof.Rows L2 PySem.K5X LamX
theorem EdK.ts {H H' : Hp} {v : V} {e : Ed} (x : EdK H v e) (s : TS H H') : EdK H' v e := by
  obtain ⟨a, e1, e2⟩ := x
  exact ⟨a, e1, s _ _ e2⟩
theorem Nr.trans {T : List (Addr × Str)} {b : Addr} {H0 H H' : Hp} (x : Nr T b H0 H) (y : Nr T b H H') : Nr T b H0 H' := ⟨x.b0, y.bx, y.tb, x.xn.trans y.xn⟩
/-- != of the same text -/
def rSameS : R2 := fun x y H Q => (∃ z, x = .str z ∧ y = .str z) ∧ Q (.bl false) H
theorem op_neS {X : Cx} : OpR X (compareOp .NotEq) rSameS := by
  intro pins s σ H x y v u Q I rx ry h
  obtain ⟨⟨z, rfl, rfl⟩, q⟩ := h
  refine op_ne pins s σ H _ _ v u Q I rx ry ⟨rfl, ?_⟩
  rw [decide_eq_true rfl]
  exact q
/-- != of the same data -/
def rSameD (K : PySem.W.Frag) : R2 := fun x y H Q => ∃ (d : PyData) (n : Nat), Dp K H x d ∧ Dp K H y d ∧ Gd n d ∧ n ≤ 60 ∧ Q (.bl false) H
theorem op_neG {X : Cx} (hu : X.A.units + 64 < cLine) : OpR X (compareOp .NotEq) (rSameD X.K) := by
  intro pins s σ H x y v u Q I rx ry h
  obtain ⟨d, n, h1, h2, g, hn, q⟩ := h
  refine op_neD hu pins s σ H _ _ v u Q I rx ry ⟨d, d, h1, h2, g.shaped (by omega), g.shaped (by omega), ?_⟩
  rw [SeqAt.eqv_refl d g.1]
  exact q
abbrev sLaw : Stmt := top 48
abbrev nLaw : List Str := ["_law_script", "_law_k", "_law_box_here", "_law_house_here", "_law_turn", "_law_edit_here", "_law_behind", "_law_handed_here", "_law_before", "_law_told", "_law_other", "_law_later", "_law_both", "_law_at", "_law_low", "_law_some", "_law_due", "_law_beat"]
theorem scLaw : FnScope nLaw ["_law_script"] (defScope sLaw) := ⟨rfl, rfl, rfl, by decide +kernel, rfl, by decide +kernel, by decide +kernel⟩
def wd : Ed → Str
  | .smoke _ _ => "smoke"
  | .clear _ _ => "clear"
  | .width _ _ => "width"
  | .shut _ _ _ => "shut"
  | .opn _ _ _ => "open"
  | .non  => "none"
theorem wd0 (e : Ed) : e.vals[0]? = some (.str (wd e)) := by cases e <;> rfl
theorem air_in (e : Ed) : inV (.str (wd e)) [.str "smoke", .str "clear"] = e.air := by
  cases e with
  | smoke r b => exact (by decide +kernel : inV (.str "smoke") [.str "smoke", .str "clear"] = true)
  | clear r b => exact (by decide +kernel : inV (.str "clear") [.str "smoke", .str "clear"] = true)
  | width i m => exact (by decide +kernel : inV (.str "width") [.str "smoke", .str "clear"] = false)
  | shut i x y => exact (by decide +kernel : inV (.str "shut") [.str "smoke", .str "clear"] = false)
  | opn i x y => exact (by decide +kernel : inV (.str "open") [.str "smoke", .str "clear"] = false)
  | non  => exact (by decide +kernel : inV (.str "none") [.str "smoke", .str "clear"] = false)
theorem way_in (e : Ed) : inV (.str (wd e)) [.str "width", .str "shut", .str "open"] = e.way := by
  cases e with
  | smoke r b => exact (by decide +kernel : inV (.str "smoke") [.str "width", .str "shut", .str "open"] = false)
  | clear r b => exact (by decide +kernel : inV (.str "clear") [.str "width", .str "shut", .str "open"] = false)
  | width i m => exact (by decide +kernel : inV (.str "width") [.str "width", .str "shut", .str "open"] = true)
  | shut i x y => exact (by decide +kernel : inV (.str "shut") [.str "width", .str "shut", .str "open"] = true)
  | opn i x y => exact (by decide +kernel : inV (.str "open") [.str "width", .str "shut", .str "open"] = true)
  | non  => exact (by decide +kernel : inV (.str "none") [.str "width", .str "shut", .str "open"] = false)
/-- a turn: the house v, an edit e of it, what it leaves at u -/
structure Tn (T : List (Addr × Str)) (b : Addr) (H1 : Hp) (v : V) (h : Hse) (e : V) (ed : Ed) (u : V) (G : Hp) : Prop where
  n : Nr T b H1 G
  hh : HseK true G v h
  eK : EdK G e ed
  hu : HseK true G u (ed.on h)
theorem Tn.nr {T : List (Addr × Str)} {b : Addr} {H1 : Hp} {v : V} {h : Hse} {e : V} {ed : Ed} {u : V} {G G' : Hp} (t : Tn T b H1 v h e ed u G) (n : Nr T b G G') : Tn T b H1 v h e ed u G' := ⟨t.n.trans n, t.hh.ts n.ts, t.eK.ts n.ts, t.hu.ts n.ts⟩
theorem Tn.same {T : List (Addr × Str)} {b : Addr} {H1 : Hp} {v : V} {h : Hse} {e : V} {ed : Ed} {u : V} {G G' : Hp} (t : Tn T b H1 v h e ed u G) (s : Same G G') : Tn T b H1 v h e ed u G' := ⟨t.n.same s, t.hh.mono s, t.eK.ts (TS.of s), t.hu.mono s⟩
theorem Nr.self {T : List (Addr × Str)} {b : Addr} {H : Hp} (hb : Bx H b) (t : Tabs T H) : Nr T b H H := ⟨hb, hb, t, XN.refl b H⟩
theorem sqL_keep {K : PySem.W.Frag} {G H1 G' : Hp} {a b : Addr} {xs : List V} (x : SqL K G a xs) (s : Same G H1) (hb : G b = none) (k : XN b H1 G') : SqL K G' a xs := by
  rcases x with (x | ⟨o, x⟩) | x
  · exact .inl (.inl (k a _ (ne_of_none x hb) (fun _ z => nomatch z) (s _ _ x)))
  · exact .inl (.inr ⟨o, k a _ (ne_of_none x hb) (fun _ z => nomatch z) (s _ _ x)⟩)
  · exact .inr x
theorem setPs_self {h : Hse} {i : Int} {p : Pas} (e : h.pas[i.toNat]? = some p) : setPs h i p = h := by
  obtain ⟨hl, e⟩ := List.getElem?_eq_some_iff.mp e
  unfold setPs
  rw [← e, List.set_getElem_self]
section
variable {P : Program} {w : World} {K : PySem.W.Frag} {mg : Str → Option Value} {base : Heap} {cR cP cB cF cO c pT f fL : Addr} {fdL : FuncData} {Tb : List (Addr × Str)}
theorem law_runs (T : Tx P K mg) (X : Hx P K mg cR cP cB cF cO) (D : DfL K mg base f c pT) (L : Fun K "law" "law" sLaw fL fdL) (hm : (pT, qNo) ∈ Tb) (hu : ∀ p ∈ Tb, p.1 = pT → p.2 = qNo)
    {A : Around} (hg : A.guards = some []) (hr : Room 12 A) {s : Shared} {H : Hp} {a : Addr} {ns : List Int} (e0 : Env0 P w K mg base A [] s H) (hS : SqL K H a (ns.map V.int)) (hl : ns.length ≤ 63) (tb : Tabs Tb H) :
    codeAny (model P w) A (.call (.ref fL) ⟨[.ref a], []⟩) (CR CX0 [] P w H s (fun v _ => v = .bl true) E0) s := by
  obtain ⟨fT, fdT, DT, bT, GT⟩ := ok_take (P := P) (w := w) (base := base) T
  obtain ⟨fB, fdB, DB, bB, GB⟩ := ok_box (P := P) (w := w) (base := base) T
  obtain ⟨fU, fdU, DU, bU, GU⟩ := ok_house (P := P) (w := w) (base := base) T
  obtain ⟨fA, fdA, DA, bA, GA⟩ := ok_handed (P := P) (w := w) (base := base) T
  obtain ⟨fD, fdD, DD, bD, GD⟩ := ok_done (P := P) (w := w) (base := base) T X.x
  obtain ⟨fE, fdE, DE, bE, GE⟩ := ok_edit (P := P) (w := w) (base := base) T
  obtain ⟨fH, fdH, DH, bH, GH⟩ := ok_WH (P := P) (w := w) (base := base) T X.x
  obtain ⟨fO, fdO, DO, bO, GO⟩ := ok_WO (P := P) (w := w) (base := base) T X.x
  obtain ⟨fdN, bN, GN⟩ := ok_none (P := P) (w := w) (base := base) T X D hm hu
  have hb : L2.Binds K fdL ["_law_script"] [] := L.binds (fun _ _ _ _ _ _ us hl => match us, hl with | [_], _ => rfl)
  obtain ⟨oc, od, kV, doc, pm, an, cdv, ct, osl, rfl, lk, hcd⟩ := L.ex
  have hbb := hb s [.ref a] (e0.mod.kin.keeps fun b o e => (e0.bs b o e).1) rfl
  refine run_ofS (N := nLaw) (ps := ["_law_script"]) (us := [.ref a]) (vs := [.ref a]) lk hcd scLaw hr e0 hbb (.cons rfl .nil) rfl fun hr => ?_
  have hr1 : Room 1 _ := hr.mono (by decide)
  have hr3 : Room 3 _ := hr.mono (by decide)
  have hr8 : Room 8 _ := hr.mono (by decide)
  have hr9 : Room 9 _ := hr.mono (by decide)
  refine ⟨_, PSs.nox (X := cxOf CX0 P w K mg base nLaw "law" (defScope sLaw) fL cdv A [] s H E0) (C8.pss_cut (ps_for PassesOwn.never rfl (pi_range1 rfl T.bi.range (pa_cons pe_int pa_nil)) (pg_name (i := 1) scLaw.nd rfl (.inl rfl)) (pss_cons (ps_set (i := 2) scLaw.nd rfl (.inl rfl) (pe_call GB hr1 (by rfl) DB.gl DB.fn.kp bB .nil pass0 (pa_cons (pv 0) (pa_cons (pv 1) pa_nil))))
      (C8.pss_cut (ps_set (i := 3) scLaw.nd rfl (.inl rfl) (pe_call GU hr3 (by rfl) DU.gl DU.fn.kp bU .nil pass0 (pa_cons (pv 2) pa_nil)))
      (C8.pss_cut (ps_for PassesOwn.never rfl (pi_range1 rfl T.bi.range (pa_cons pe_int pa_nil)) (pg_name (i := 4) scLaw.nd rfl (.inl rfl)) (C8.pss_cut (ps_asg (pe_call GE hr3 (by rfl) DE.gl DE.fn.kp bE .nil pass0 (pa_cons (pv 2) (pa_cons (pv 3) pa_nil))) (pg_tup (n := 2) rfl (pgs_cons (pg_name (i := 5) scLaw.nd rfl (.inl rfl)) (pgs_cons (pg_name (i := 6) scLaw.nd rfl (.inl rfl)) pgs_nil))))
      (C8.pss_cut (ps_par (i := 7) (j := 8) rfl scLaw.nd rfl rfl (by decide) rfl rfl (pa_cons (pe_call GA hr1 (by rfl) DA.gl DA.fn.kp bA .nil pass0 (pa_cons (pv 3) pa_nil)) (pa_cons (pe_callB (call_repD hg hr.units) (by rfl) T.bi.repr (by decide +kernel) (pa_cons (pe_call GA hr1 (by rfl) DA.gl DA.fn.kp bA .nil pass0 (pa_cons (pv 3) pa_nil)) pa_nil)) pa_nil)) (by rfl))
      (C8.pss_cut (ps_set (i := 9) scLaw.nd rfl (.inl rfl) (pe_lst (pa_cons (pe_call GD hr9 (by rfl) DD.gl DD.fn.kp bD .nil pass0 (pa_cons (pv 3) (pa_cons (pv 5) (pa_cons pe_bl pa_nil)))) (pa_cons (pe_call GD hr9 (by rfl) DD.gl DD.fn.kp bD .nil pass0 (pa_cons (pv 7) (pa_cons (pv 5) (pa_cons pe_bl pa_nil)))) pa_nil))))
      (C8.pss_cut (ps_if (PW.pt (pw_or (pt_cmpR op_neS (pe_callB (call_repD hg hr.units) (by rfl) T.bi.repr (by decide +kernel) (pa_cons (pv 9) pa_nil)) (pe_callB (call_repD hg hr.units) (by rfl) T.bi.repr (by decide +kernel) (pa_cons (pe_lst (pa_cons (pv 6) (pa_cons (pv 6) pa_nil))) pa_nil)) (nomark _)) (pw_or1 (pt_cmpR op_neS (pe_callB (call_repD hg hr.units) (by rfl) T.bi.repr (by decide +kernel) (pa_cons (pv 7) pa_nil)) (pv 8) (nomark _))))) (pss_one (ps_ret pe_bl)) pss_nil)
      (C8.pss_cut (ps_asg (pe_call GE hr3 (by rfl) DE.gl DE.fn.kp bE .nil pass0 (pa_cons (pv 2) (pa_cons (pv 3) pa_nil))) (pg_tup (n := 2) rfl (pgs_cons (pg_name (i := 10) scLaw.nd rfl (.inl rfl)) (pgs_cons (pg_name (i := 11) scLaw.nd rfl (.inl rfl)) pgs_nil))))
      (C8.pss_cut (ps_set (i := 12) scLaw.nd rfl (.inl rfl) (pe_lst (pa_cons (pe_call GD hr9 (by rfl) DD.gl DD.fn.kp bD .nil pass0 (pa_cons (pe_call GD hr9 (by rfl) DD.gl DD.fn.kp bD .nil pass0 (pa_cons (pv 3) (pa_cons (pv 10) (pa_cons pe_bl pa_nil)))) (pa_cons (pv 5) (pa_cons pe_bl pa_nil)))) (pa_cons (pe_call GD hr9 (by rfl) DD.gl DD.fn.kp bD .nil pass0 (pa_cons (pv 6) (pa_cons (pv 10) (pa_cons pe_bl pa_nil)))) pa_nil))))
      (C8.pss_cut (ps_if (PW.pt (pw_and (pt_cmpR op_in_seq (pe_ix ix_sq (pv 10) pe_int (fun _ _ => rfl)) (pe_tup (pa_cons pe_str (pa_cons pe_str pa_nil))) (by rfl)) (pw_and (pt_cmpR op_in_seq (pe_ix ix_sq (pv 5) pe_int (fun _ _ => rfl)) (pe_tup (pa_cons pe_str (pa_cons pe_str (pa_cons pe_str pa_nil)))) (by rfl)) (pw_and1 (pt_cmpR op_neS (pe_callB (call_repD hg hr.units) (by rfl) T.bi.repr (by decide +kernel) (pa_cons (pe_ix ix_sq (pv 12) pe_int (fun _ _ => rfl)) pa_nil)) (pe_callB (call_repD hg hr.units) (by rfl) T.bi.repr (by decide +kernel) (pa_cons (pe_ix ix_sq (pv 12) pe_int (fun _ _ => rfl)) pa_nil)) (nomark _)))))) (pss_one (ps_ret pe_bl)) pss_nil)
      (C8.pss_cut (ps_if (PW.pt (pw_or (pt_cmpR op_neS (pe_callB (call_repD hg hr.units) (by rfl) T.bi.repr (by decide +kernel) (pa_cons (pe_call GD hr9 (by rfl) DD.gl DD.fn.kp bD .nil pass0 (pa_cons (pv 6) (pa_cons (pv 5) (pa_cons pe_bl pa_nil)))) pa_nil)) (pe_callB (call_repD hg hr.units) (by rfl) T.bi.repr (by decide +kernel) (pa_cons (pv 6) pa_nil)) (nomark _)) (pw_or1 (pt_not (pt_val (pe_call GN hr (by rfl) D.gl D.kp bN .nil pass0 (pa_cons (pv 2) (pa_cons (pv 3) pa_nil)))))))) (pss_one (ps_ret pe_bl)) pss_nil)
      (pss_one (ps_set (i := 3) scLaw.nd rfl (.inl rfl) (pv 6))))))))))))
      (pss_one (ps_if (pt_cmpR (op_neNil hr.units) (pe_ix ix_sq (pv 3) pe_int (fun _ _ => rfl)) (pe_tup pa_nil) (nomark _)) (C8.pss_cut (ps_asg (pe_tup (pa_cons (pe_call GT hr1 (by rfl) DT.gl DT.fn.kp bT .nil pass0 (pa_cons (pv 2) (pa_cons (pe_callB call_lenOf (by rfl) T.bi.len PySem.boot_len (pa_cons (pe_ix ix_sq (pv 3) pe_int (fun _ _ => rfl)) pa_nil)) pa_nil))) (pa_cons (pe_call GT hr1 (by rfl) DT.gl DT.fn.kp bT .nil pass0 (pa_cons (pv 2) (pa_cons pe_int pa_nil))) pa_nil))) (pg_tup (n := 2) rfl (pgs_cons (pg_name (i := 13) scLaw.nd rfl (.inl rfl)) (pgs_cons (pg_name (i := 14) scLaw.nd rfl (.inr rfl)) pgs_nil))))
      (C8.pss_cut (ps_set (i := 15) scLaw.nd rfl (.inl rfl) (pe_call GO hr8 (by rfl) DO.gl DO.fn.kp bO .nil passL (pa_cons (pe_call GH hr8 (by rfl) DH.gl DH.fn.kp bH .nil passL (pa_cons (pv 3) (pa_cons (pv 13) (pa_cons (pv 14) (pa_cons (pe_op op_add (pv 14) pe_int) pa_nil))))) (pa_cons (pv 13) (pa_cons (pv 14) (pa_cons (pe_op op_add (pv 14) pe_int) pa_nil))))))
      (C8.pss_cut (ps_set (i := 16) scLaw.nd rfl (.inl rfl) (pe_callTy call_tupOf (by rfl) T.bi.tuple (by decide +kernel) (pa_cons (pe_lc (own := [("_law_beat", 17)]) (g := gName 17) (tt := tNot (tTest (tChain (rI0 fun i j => .bl (decide (i ≤ j))) (rI0 fun i j => .bl (decide (i ≤ j))) (tVar 14) (tVar 17) (tOp (rI0 fun i j => .int (i + j)) (tVar 14) (tC (.int 5)))))) rfl scLaw.nd (pi_sq (pe_ix ix_sq (pe_ix ix_sq (pe_ix ix_sq (pv 3) pe_int (fun _ _ => rfl)) (pv 13) (fun _ _ => rfl)) pe_int (fun _ _ => rfl))) (blkOk_by (N := nLaw) (sc := defScope sLaw) (by decide +kernel)) (fun _ _ _ _ _ => pg_name (i := 17) scLaw.nd rfl (.inl rfl)) (fun _ _ _ _ _ => pts_one (pt_not (pt_chain op_le op_le (pv 14) (pv 17) (pe_op op_add (pv 14) pe_int)))) (fun _ _ _ _ _ => pv 17)) pa_nil)))
      (pss_one (ps_if (PW.pt (pw_or (pt_cmpR (op_neG hr.units) (pe_ix ix_sq (pe_ix ix_sq (pv 15) pe_int (fun _ _ => rfl)) (pv 13) (fun _ _ => rfl)) (pe_op op_catK (pe_slice sl_sq (pe_ix ix_sq (pe_ix ix_sq (pv 3) pe_int (fun _ _ => rfl)) (pv 13) (fun _ _ => rfl)) po_none (po_some pe_int)) (pe_tup (pa_cons (pv 16) pa_nil))) (nomark _)) (pw_or1 (pt_cmpR (op_neG hr.units) (pe_call GH hr8 (by rfl) DH.gl DH.fn.kp bH .nil passL (pa_cons (pv 15) (pa_cons (pv 13) (pa_cons pe_int (pa_cons pe_int pa_nil))))) (pv 15) (nomark _))))) (pss_one (ps_ret pe_bl)) pss_nil))))) pss_nil))))))
      (pss_one (ps_ret pe_bl))), ?_⟩
  have two : ∀ {k : Bool} {h : Hse}, HseOk h → Gw 5 (2 * 433084) (sqD k [hseD true h, hseD true h]) := fun x => gw_sq (n := 4) (m := 433083) (l := 2) (fun d hd => by
    simp only [List.mem_cons, List.not_mem_nil, or_false, or_self] at hd
    subst hd
    exact gw_hse true x) (by show 2 ≤ 2; decide)
  refine ⟨fun σ' G' => True, ?_, fun σ' G' _ => rfl⟩
  refine ⟨3, rfl, by decide, by decide, ?_⟩
  refine for_it walk_range (fun i σ G => ∃ y1 y2 y3 y4 y5 y6 y7 y8 y9 y10 y11 y12 y13 y14 y15 y16, σ = [some (.ref a), y1, y2, y3, y4, y5, y6, y7, y8, y9, y10, y11, y12, y13, y14, y15, y16, none] ∧ SqL K G a (ns.map V.int) ∧ Tabs Tb G)
    ⟨none, none, none, none, none, none, none, none, none, none, none, none, none, none, none, none, rfl, hS, tb⟩ (fun _ _ _ _ _ => True.intro) ?_ fun _ _ _ => True.intro
  rintro k x σ G G' hk ⟨y1, y2, y3, y4, y5, y6, y7, y8, y9, y10, y11, y12, y13, y14, y15, y16, rfl, hSG, tbG⟩ ⟨rfl, rfl⟩
  -- the box and the house
  refine ⟨_, rfl, _, rfl, a, ns, _, rfl, hSG, hl, by omega, by omega, fun b H1 s1 hbn b1 => ?_⟩
  have n1 : Nr Tb b H1 H1 := Nr.self b1 (tbG.ext s1)
  refine ⟨fun σ' G' => ∃ (va : Addr) (h : Hse), σ' = [some (.ref a), some (.int (0 + (k : Int))), some (.ref b), some (.ref va), y4, y5, y6, y7, y8, y9, y10, y11, y12, y13, y14, y15, y16, none] ∧ Nr Tb b H1 G' ∧ HseK true G' (.ref va) h ∧ HseOk h ∧ Sml h, ?_, ?_⟩
  · exact ⟨_, rfl, b, rfl, b1, fun p G2 h b2 s2 hh ok sml => ⟨p, h, rfl, n1.sx s2 b2, hh, ok, sml⟩⟩
  rintro σ2 G2 ⟨va, h, rfl, n2, hh, ok, sml⟩
  -- the turns
  refine ⟨fun σ' G' => ∃ (va : Addr) (h : Hse) (y4 y5 y6 y7 y8 y9 y10 y11 y12 : Option V), σ' = [some (.ref a), some (.int (0 + (k : Int))), some (.ref b), some (.ref va), y4, y5, y6, y7, y8, y9, y10, y11, y12, y13, y14, y15, y16, none] ∧ Nr Tb b H1 G' ∧ HseK true G' (.ref va) h ∧ HseOk h ∧ Sml h, ?_, ?_⟩
  · refine ⟨7, rfl, by decide, by decide, ?_⟩
    refine for_it walk_range (fun j σ' G' => ∃ (va : Addr) (h : Hse) (y4 y5 y6 y7 y8 y9 y10 y11 y12 : Option V), σ' = [some (.ref a), some (.int (0 + (k : Int))), some (.ref b), some (.ref va), y4, y5, y6, y7, y8, y9, y10, y11, y12, y13, y14, y15, y16, none] ∧ Nr Tb b H1 G' ∧ HseK true G' (.ref va) h ∧ HseOk h ∧ Sml h)
      ⟨va, h, _, _, _, _, _, _, _, _, _, rfl, n2, hh, ok, sml⟩ (fun _ _ _ _ _ => True.intro) ?_ fun _ _ x => x
    clear hh ok sml n2 va h
    rintro j x σ' G3 G4 hj ⟨va, h, y4, y5, y6, y7, y8, y9, y10, y11, y12, rfl, n, hh, ok, sml⟩ ⟨rfl, rfl⟩
    -- an edit
    refine ⟨fun σ' G' => ∃ (e : V) (ed : Ed) (ua : Addr), σ' = [some (.ref a), some (.int (0 + (k : Int))), some (.ref b), some (.ref va), some (.int (0 + (j : Int))), some e, some (.ref ua), y7, y8, y9, y10, y11, y12, y13, y14, y15, y16, none] ∧ Tn Tb b H1 (.ref va) h e ed (.ref ua) G' ∧ EdOk h ed, ?_, ?_⟩
    · refine ⟨_, rfl, _, rfl, b, _, h, rfl, n.bx, hh, ok, sml, fun p G5 ed e u b5 s5 hp eK eO hu => ⟨p, _, rfl, sqT hp, rfl, _, _, rfl, _, _, rfl, rfl, ?_⟩⟩
      obtain ⟨ua, _, _, _, _, rfl, _⟩ := id hu
      exact ⟨e, ed, ua, rfl, ⟨n.sx s5 b5, hh.ts (TS.sx s5 n.bx), eK, hu⟩, eO⟩
    clear hh n
    rintro σ3 G5 ⟨e, ed, ua, rfl, t, eO⟩
    have okE := ok.on eO
    -- what is handed
    refine ⟨fun σ' G' => ∃ hd : Addr, σ' = [some (.ref a), some (.int (0 + (k : Int))), some (.ref b), some (.ref va), some (.int (0 + (j : Int))), some e, some (.ref ua), some (.ref hd), some (.str (hseD false h).shown), y9, y10, y11, y12, y13, y14, y15, y16, none] ∧ Tn Tb b H1 (.ref va) h e ed (.ref ua) G' ∧ HseK false G' (.ref hd) h, ?_, ?_⟩
    · refine ⟨_, rfl, _, h, rfl, t.hh, ok.p60, fun hd G6 s6 hh6 => ?_⟩
      refine ⟨_, rfl, _, h, rfl, t.hh.mono s6, ok.p60, fun hd2 G7 s7 hh7 => ?_⟩
      exact ⟨hd2, hseD false h, 4, _, rfl, dp_hse hh7, gw_hse false ok, by decide, by decide, _, _, rfl, hd, rfl, t.same (s6.trans s7), hh6.mono s7⟩
    clear t
    rintro σ4 G6 ⟨hd, rfl, t, hhd⟩
    -- told
    refine ⟨fun σ' G' => ∃ (tl p1 p2 : Addr), σ' = [some (.ref a), some (.int (0 + (k : Int))), some (.ref b), some (.ref va), some (.int (0 + (j : Int))), some e, some (.ref ua), some (.ref hd), some (.str (hseD false h).shown), some (.ref tl), y10, y11, y12, y13, y14, y15, y16, none] ∧ Tn Tb b H1 (.ref va) h e ed (.ref ua) G' ∧ HseK false G' (.ref hd) h ∧ G' tl = some (.lst [.ref p1, .ref p2]) ∧ HseK true G' (.ref p1) (ed.on h) ∧ HseK true G' (.ref p2) (ed.on h), ?_, ?_⟩
    · refine ⟨_, rfl, _, rfl, _, e, false, true, h, ed, rfl, t.hh, ok, t.eK, eO, fun p1 G7 s7 hp1 => ?_⟩
      refine ⟨_, rfl, _, rfl, _, e, true, false, h, ed, rfl, hhd.mono s7, ok, t.eK.ts (TS.of s7), eO, fun p2 G8 s8 hp2 => ⟨by show 2 ≤ sizeLine; decide, fun tl htl => ?_⟩⟩
      have g := Same.new (o := .lst [.ref p1, .ref p2]) htl
      exact ⟨tl, p1, p2, rfl, t.same ((s7.trans s8).trans g), ((hhd.mono s7).mono s8).mono g, upd_same, (hp1.mono s8).mono g, hp2.mono g⟩
    clear t hhd
    rintro σ5 G7 ⟨tl, p1, p2, rfl, t, hhd, htl, hp1, hp2⟩
    refine ⟨fun σ' G' => σ' = [some (.ref a), some (.int (0 + (k : Int))), some (.ref b), some (.ref va), some (.int (0 + (j : Int))), some e, some (.ref ua), some (.ref hd), some (.str (hseD false h).shown), some (.ref tl), y10, y11, y12, y13, y14, y15, y16, none] ∧ Tn Tb b H1 (.ref va) h e ed (.ref ua) G', ?_, ?_⟩
    · refine ⟨_, rfl, tl, .list [hseD true (ed.on h), hseD true (ed.on h)], 5, _, rfl, .lst (sqL htl) (.cons (dp_hse hp1) (.cons (dp_hse hp2) .nil)), two (k := false) okE, by decide, by decide, ?_⟩
      refine ⟨_, rfl, _, rfl, by show 2 ≤ sizeLine; decide, fun q2 hq2 => ?_⟩
      have g := Same.new (o := .lst [.ref ua, .ref ua]) hq2
      refine ⟨q2, .list [hseD true (ed.on h), hseD true (ed.on h)], 5, _, rfl, .lst (sqL upd_same) (.cons (dp_hse (t.hu.mono g)) (.cons (dp_hse (t.hu.mono g)) .nil)), two (k := false) okE, by decide, by decide, ⟨_, rfl, rfl⟩, _, rfl, iteF ?_⟩
      exact ⟨_, rfl, hd, hseD false h, 4, _, rfl, dp_hse (hhd.mono g), gw_hse false ok, by decide, by decide, _, rfl, ⟨_, rfl, rfl⟩, _, rfl, iteF ⟨rfl, t.same g⟩⟩
    clear t hhd htl hp1 hp2
    rintro σ6 G8 ⟨rfl, t⟩
    -- another edit
    refine ⟨fun σ' G' => ∃ (o : V) (od : Ed) (w : V), σ' = [some (.ref a), some (.int (0 + (k : Int))), some (.ref b), some (.ref va), some (.int (0 + (j : Int))), some e, some (.ref ua), some (.ref hd), some (.str (hseD false h).shown), some (.ref tl), some o, some w, y12, y13, y14, y15, y16, none] ∧ Tn Tb b H1 (.ref va) h e ed (.ref ua) G' ∧ EdK G' o od ∧ EdOk h od, ?_, ?_⟩
    · refine ⟨_, rfl, _, rfl, b, _, h, rfl, t.n.bx, t.hh, ok, sml, fun p G9 od o w b9 s9 hp oK oO hw => ⟨p, _, rfl, sqT hp, rfl, _, _, rfl, _, _, rfl, rfl, ?_⟩⟩
      exact ⟨o, od, w, rfl, t.nr ((Nr.self t.n.bx t.n.tb).sx s9 b9), oK, oO⟩
    clear t
    rintro σ7 G9 ⟨o, od, w, rfl, t, oK, oO⟩
    have okO := ok.on oO
    refine ⟨fun σ' G' => ∃ (bo q1 q2 : Addr), σ' = [some (.ref a), some (.int (0 + (k : Int))), some (.ref b), some (.ref va), some (.int (0 + (j : Int))), some e, some (.ref ua), some (.ref hd), some (.str (hseD false h).shown), some (.ref tl), some o, some w, some (.ref bo), y13, y14, y15, y16, none] ∧ Tn Tb b H1 (.ref va) h e ed (.ref ua) G' ∧ EdK G' o od ∧ G' bo = some (.lst [.ref q1, .ref q2]) ∧ HseK true G' (.ref q1) (ed.on (od.on h)) ∧ HseK true G' (.ref q2) (od.on (ed.on h)), ?_, ?_⟩
    · refine ⟨_, rfl, _, rfl, _, o, false, true, h, od, rfl, t.hh, ok, oK, oO, fun p1 G10 s10 hp1 => ?_⟩
      refine ⟨_, rfl, _, e, false, true, od.on h, ed, rfl, hp1, okO, t.eK.ts (TS.of s10), eO.on, fun p2 G11 s11 hp2 => ?_⟩
      refine ⟨_, rfl, _, rfl, _, o, false, true, ed.on h, od, rfl, t.hu.mono (s10.trans s11), okE, oK.ts (TS.of (s10.trans s11)), oO.on, fun p3 G12 s12 hp3 => ⟨by show 2 ≤ sizeLine; decide, fun bo hbo => ?_⟩⟩
      have g := Same.new (o := .lst [.ref p2, .ref p3]) hbo
      exact ⟨bo, p2, p3, rfl, t.same (((s10.trans s11).trans s12).trans g), oK.ts (TS.of (((s10.trans s11).trans s12).trans g)), upd_same, (hp2.mono s12).mono g, hp3.mono g⟩
    clear t oK
    rintro σ8 G10 ⟨bo, q1, q2, rfl, t, oK, hbo, hq1, hq2⟩
    -- edits of rooms and of ways
    refine ⟨fun σ' G' => σ' = [some (.ref a), some (.int (0 + (k : Int))), some (.ref b), some (.ref va), some (.int (0 + (j : Int))), some e, some (.ref ua), some (.ref hd), some (.str (hseD false h).shown), some (.ref tl), some o, some w, some (.ref bo), y13, y14, y15, y16, none] ∧ Tn Tb b H1 (.ref va) h e ed (.ref ua) G', ?_, ?_⟩
    · obtain ⟨oa, rfl, hoa⟩ := id oK
      refine ⟨_, rfl, oa, true, _, 0, _, rfl, rfl, hoa, atI_nat (j := 0) (wd0 od), by show 2 ≤ sizeLine; decide, fun t1 ht1 => ?_⟩
      have g1 := Same.new (o := .tup [.str "smoke", .str "clear"]) ht1
      refine ⟨t1, _, rfl, .inr (sqT upd_same), rfl, rfl, _, rfl, ?_⟩
      rw [show (if false = true then !inV (.str (wd od)) [.str "smoke", .str "clear"] else inV (.str (wd od)) [.str "smoke", .str "clear"]) = od.air from air_in od]
      cases ho : od.air with
      | false => exact iteF (iteF ⟨rfl, t.same g1⟩)
      | true =>
        have t := t.same g1
        obtain ⟨ea, eEa, hea⟩ := id t.eK
        subst eEa
        refine iteT ⟨_, rfl, ea, true, _, 0, _, rfl, rfl, hea, atI_nat (j := 0) (wd0 ed), by show 3 ≤ sizeLine; decide, fun t2 ht2 => ?_⟩
        have g2 := Same.new (o := .tup [.str "width", .str "shut", .str "open"]) ht2
        refine ⟨t2, _, rfl, .inr (sqT upd_same), rfl, rfl, _, rfl, ?_⟩
        rw [show (if false = true then !inV (.str (wd ed)) [.str "width", .str "shut", .str "open"] else inV (.str (wd ed)) [.str "width", .str "shut", .str "open"]) = ed.way from way_in ed]
        cases he : ed.way with
        | false => exact iteF (iteF ⟨rfl, t.same g2⟩)
        | true =>
          have g := g1.trans g2
          refine iteT ⟨_, rfl, bo, false, _, 0, _, rfl, rfl, g.get hbo, atI_nat (j := 0) rfl, q1, hseD true (ed.on (od.on h)), 4, _, rfl, dp_hse (hq1.mono g), gw_hse true (okO.on eO.on), by decide, by decide, ?_⟩
          refine ⟨_, rfl, bo, false, _, 1, _, rfl, rfl, g.get hbo, atI_nat (j := 1) rfl, q2, hseD true (od.on (ed.on h)), 4, _, rfl, dp_hse (hq2.mono g), gw_hse true (okE.on oO.on), by decide, by decide, ⟨_, rfl, by rw [Ed.comm he ho h]⟩, _, rfl, ?_⟩
          exact iteF ⟨rfl, t.same g2⟩
    clear t oK hbo hq1 hq2
    rintro σ9 G11 ⟨rfl, t⟩
    -- the edit again; none that is not right
    refine ⟨fun σ' G' => σ' = [some (.ref a), some (.int (0 + (k : Int))), some (.ref b), some (.ref va), some (.int (0 + (j : Int))), some e, some (.ref ua), some (.ref hd), some (.str (hseD false h).shown), some (.ref tl), some o, some w, some (.ref bo), y13, y14, y15, y16, none] ∧ Tn Tb b H1 (.ref va) h e ed (.ref ua) G', ?_, ?_⟩
    · refine ⟨_, rfl, _, rfl, _, e, false, true, ed.on h, ed, rfl, t.hu, okE, t.eK, eO.on, fun p G12 s12 hp => ?_⟩
      refine ⟨p, hseD true (ed.on (ed.on h)), 4, _, rfl, dp_hse hp, gw_hse true (okE.on eO.on), by decide, by decide, ?_⟩
      have t := t.same s12
      refine ⟨_, rfl, ua, hseD true (ed.on h), 4, _, rfl, dp_hse t.hu, gw_hse true okE, by decide, by decide, ⟨_, rfl, by rw [Ed.twice]⟩, _, rfl, iteF ?_⟩
      exact ⟨_, rfl, _, rfl, b, _, h, rfl, t.n.bx, t.hh, ok, sml, t.n.tb, fun G13 n13 => ⟨true, rfl, iteF ⟨rfl, t.nr n13⟩⟩⟩
    clear t
    rintro σ10 G12 ⟨rfl, t⟩
    exact ⟨_, rfl, ua, ed.on h, _, _, _, _, _, _, _, _, _, rfl, t.n, t.hu, okE, sml.on ed⟩
  clear hh ok sml n2
  rintro σ3 G3 ⟨va, h, y4, y5, y6, y7, y8, y9, y10, y11, y12, rfl, n, hh, ok, sml⟩
  obtain ⟨va', r, q, t, ws, ev, ha, hR, hq, hP, hS3⟩ := id hh
  cases ev
  have wl := hP.1
  have fin : ∀ {G4}, Nr Tb b G3 G4 → SqL K G4 a (ns.map V.int) ∧ Tabs Tb G4 := fun n4 => ⟨sqL_keep hSG s1 hbn (n.trans n4).xn, n4.tb⟩
  have n3 : Nr Tb b G3 G3 := Nr.self n.bx n.tb
  refine ⟨_, rfl, va, true, _, 1, _, rfl, rfl, ha, atI_nat (j := 1) rfl, Nat.zero_le _, fun p2 hp2 => ?_⟩
  have g2 := Same.new (o := .tup []) hp2
  have n4 := n3.same g2
  refine ⟨q, p2, true, ws, _, 2, rfl, rfl, g2.get hq, upd_same, dpAll_ps (hP.mono g2), (fun d hd => by
    obtain ⟨p, _, rfl⟩ := List.mem_map.mp hd
    exact gd_pas true p), by decide, _, rfl, ?_⟩
  by_cases he : ws.isEmpty = true
  · rw [he]
    exact iteF ⟨_, _, _, _, _, _, _, _, _, _, _, _, _, _, _, _, rfl, fin n4⟩
  rw [show ws.isEmpty = false by simpa using he]
  refine iteT ?_
  have pos : 0 < ws.length := by
    cases ws with
    | nil => exact absurd rfl he
    | cons _ _ => exact Nat.zero_lt_succ _
  have w60 : ws.length ≤ 60 := by rw [wl]; exact ok.p60
  -- where, and from when
  refine ⟨fun σ' G' => ∃ (at_ low : Int), σ' = [some (.ref a), some (.int (0 + (k : Int))), some (.ref b), some (.ref va), y4, y5, y6, y7, y8, y9, y10, y11, y12, some (.int at_), some (.int low), y15, y16, none] ∧ Nr Tb b G3 G' ∧ 0 ≤ at_ ∧ at_ < ws.length ∧ 0 ≤ low ∧ low < 30, ?_, ?_⟩
  · refine ⟨_, rfl, _, rfl, va, true, _, 1, _, rfl, rfl, n4.ts _ _ ha, atI_nat (j := 1) rfl, q, true, ws, rfl, n4.ts _ _ hq, b, ws.length, rfl, n4.bx, by omega, by omega, fun at_ G5 a0 a1 b5 s5 => ?_⟩
    refine ⟨_, rfl, b, 30, rfl, b5, by decide, by decide, fun low G6 l0 l1 b6 s6 => ⟨by show 2 ≤ sizeLine; decide, fun p hp => ⟨p, _, rfl, sqT upd_same, rfl, _, _, rfl, _, _, rfl, rfl, ?_⟩⟩⟩
    exact ⟨at_, low, rfl, ((n4.sx s5 b5).sx s6 b6).same (Same.new hp), a0, a1, l0, l1⟩
  clear n4 g2 hp2 he
  rintro σ4 G4 ⟨at_, low, rfl, n4, a0, a1, l0, l1⟩
  have al : at_.toNat < h.pas.length := by omega
  have hpi : h.pas[at_.toNat]? = some h.pas[at_.toNat] := List.getElem?_eq_getElem al
  generalize h.pas[at_.toNat] = pa at hpi
  have pk := ok.pk pa (List.mem_of_getElem? hpi)
  have hwi : ws[at_.toNat]? = some ws[at_.toNat] := List.getElem?_eq_getElem (by omega)
  obtain ⟨pb, sh, epb, hpb, hsh⟩ := hP.2 _ _ _ hwi hpi
  rw [epb] at hwi
  have bA : belQ h.pas.length (.int at_) = true := belT a0 (by omega)
  have bL : belQ 60 (.int low) = true := belT l0 (by omega)
  have bH5 : belQ 60 (.int (low + 5)) = true := belT (by omega) (by omega)
  have sp := asc_pairwise pk.asc
  let p1 : Pas := ⟨pa.t, pa.h, pa.l, pa.w, shutB pa.sh low (low + 5)⟩
  let p2 : Pas := ⟨pa.t, pa.h, pa.l, pa.w, openB pa.sh low (low + 5)⟩
  have e12 : (⟨p1.t, p1.h, p1.l, p1.w, openB p1.sh low (low + 5)⟩ : Pas) = p2 := by
    show (⟨pa.t, pa.h, pa.l, pa.w, openB (shutB pa.sh low (low + 5)) low (low + 5)⟩ : Pas) = _
    rw [open_shut sp pk.bd]
  have ok1 : HseOk (setPs h at_ p1) := ok.setPs (pk.shut low (low + 5))
  have ok2 : HseOk (setPs h at_ p2) := ok.setPs (pk.opn low (low + 5))
  have g1 : (setPs h at_ p1).pas[at_.toNat]? = some p1 := List.getElem?_set_self al
  have g2 : (setPs h at_ p2).pas[at_.toNat]? = some p2 := List.getElem?_set_self al
  have len1 : (setPs h at_ p1).pas.length = h.pas.length := List.length_set ..
  have len2 : (setPs h at_ p2).pas.length = h.pas.length := List.length_set ..
  refine ⟨fun σ' G' => ∃ so : Addr, σ' = [some (.ref a), some (.int (0 + (k : Int))), some (.ref b), some (.ref va), y4, y5, y6, y7, y8, y9, y10, y11, y12, some (.int at_), some (.int low), some (.ref so), y16, none] ∧ Nr Tb b G3 G' ∧ HseK true G' (.ref so) (setPs h at_ p2), ?_, ?_⟩
  · refine ⟨_, rfl, _, rfl, _, rfl, _, rfl, low, 5, rfl, rfl, _, _, _, _, true, h, rfl, hh.ts n4.ts, ok, .int _, .int _, .int _, fun z => (by rw [bA] at z; cases z), fun i p e i0 hp z => (by rw [bL] at z; cases z), fun i p e i0 hp z1 z => (by rw [bH5] at z; cases z), fun i p x y ei i0 hp ex ey x0 x1 y0 y1 q1 G5 s5 hq1 => ?_⟩
    cases ei
    cases ex
    cases ey
    rw [hpi] at hp
    cases hp
    refine ⟨_, rfl, _, rfl, _, rfl, low, 5, rfl, rfl, _, _, _, _, true, setPs h at_ p1, rfl, hq1, ok1, .int _, .int _, .int _, fun z => (by rw [len1, bA] at z; cases z), fun i p e i0 hp z => (by rw [bL] at z; cases z), fun i p e i0 hp z1 z => (by rw [bH5] at z; cases z), fun i p x y ei i0 hp ex ey x0 x1 y0 y1 q2 G6 s6 hq2 => ?_⟩
    cases ei
    cases ex
    cases ey
    rw [g1] at hp
    cases hp
    rw [e12, setPs_twice] at hq2
    exact ⟨q2, rfl, n4.same (s5.trans s6), hq2⟩
  clear n4
  rintro σ5 G5 ⟨so, rfl, n5, hso⟩
  -- what is due
  refine ⟨fun σ' G' => ∃ du : Addr, σ' = [some (.ref a), some (.int (0 + (k : Int))), some (.ref b), some (.ref va), y4, y5, y6, y7, y8, y9, y10, y11, y12, some (.int at_), some (.int low), some (.ref so), some (.ref du), none] ∧ Nr Tb b G3 G' ∧ HseK true G' (.ref so) (setPs h at_ p2) ∧ G' du = some (.tup ((openB pa.sh low (low + 5)).map V.int)), ?_, ?_⟩
  · have hsh5 := n5.ts _ _ hsh
    refine ⟨_, rfl, va, true, _, 1, _, rfl, rfl, n5.ts _ _ ha, atI_nat (j := 1) rfl, _, rfl, q, true, ws, at_, _, rfl, rfl, n5.ts _ _ hq, atI_int a0 hwi, pb, true, _, 4, _, rfl, rfl, n5.ts _ _ hpb, atI_nat (j := 4) rfl, sh, true, _, rfl, hsh5, fun D hD => ?_⟩
    refine lc_acc walk_sq B0 (fun _ => True) (fun n acc _ => acc = (openB (pa.sh.take n) low (low + 5)).map V.int) (by rw [List.length_map]; have := pk.len; omega) hD (fun z => z) True.intro (fun _ _ _ _ => True.intro) rfl (fun _ s _ => s.same.get hsh5) (fun n x H H' acc Nk Ns hn s _ eD hl hacc y fin skip => ?_) fun H2 acc s2 _ eD hl hacc => ?_
    · obtain ⟨rfl, hv⟩ := y
      rw [List.getElem?_map] at hv
      obtain ⟨z, hz, rfl⟩ := Option.map_eq_some_iff.mp hv
      have stp : openB (pa.sh.take (n + 1)) low (low + 5) = openB (pa.sh.take n) low (low + 5) ++ (if (!(decide (low ≤ z) && decide (z ≤ low + 5))) = true then [z] else []) := by
        unfold openB
        rw [List.take_add_one, hz, List.filter_append]
        congr 1
        show List.filter _ [z] = _
        rw [List.filter_cons]
        split <;> rfl
      refine ⟨rfl, _, rfl, _, rfl, low, z, rfl, rfl, _, rfl, ?_⟩
      by_cases h1 : low ≤ z
      · refine iteDT h1 ⟨_, rfl, low, 5, rfl, rfl, z, low + 5, rfl, rfl, _, rfl, ?_⟩
        by_cases h2 : z ≤ low + 5
        · refine iteNF h2 (skip _ (SB.refl _ _) True.intro ?_)
          rw [hacc, stp, decide_eq_true h1, decide_eq_true h2, if_neg (by simp), List.append_nil]
        · refine iteNT h2 ⟨_, rfl, fin _ _ (SB.refl _ _) True.intro ?_⟩
          rw [hacc, stp, decide_eq_true h1, decide_eq_false h2, if_pos (by simp), List.map_append]
          rfl
      · refine iteDF h1 ⟨_, rfl, iteT ⟨_, rfl, fin _ _ (SB.refl _ _) True.intro ?_⟩⟩
        rw [hacc, stp, decide_eq_false h1, if_pos (by simp), List.map_append]
        rfl
    · rw [List.length_map, List.take_length] at hacc
      rw [hacc] at eD
      refine ⟨D, false, _, rfl, eD, fun pt Gt st et => ⟨pt, rfl, ?_, (hso.mono s2.same).mono st, et⟩⟩
      exact (n5.same s2.same).same st
  clear n5 hso
  rintro σ6 G6 ⟨du, rfl, n6, hso, hdu⟩
  obtain ⟨so', r2, q2, t2, ws2, es, hs2, hR2, hq2, hP2, hS2⟩ := id hso
  cases es
  have wl2 := hP2.1
  have hwi2 : ws2[at_.toNat]? = some ws2[at_.toNat] := List.getElem?_eq_getElem (by omega)
  obtain ⟨pb2, sh2, epb2, hpb2, hsh2⟩ := hP2.2 _ _ _ hwi2 g2
  rw [epb2] at hwi2
  have e3 : (⟨p2.t, p2.h, p2.l, p2.w, shutB p2.sh 9 3⟩ : Pas) = p2 := by
    show (⟨pa.t, pa.h, pa.l, pa.w, shutB (openB pa.sh low (low + 5)) 9 3⟩ : Pas) = ⟨pa.t, pa.h, pa.l, pa.w, openB pa.sh low (low + 5)⟩
    rw [shut_none (openB_sorted sp) (fun i hi => pk.bd i (mem_openB.mp hi).1) (by decide)]
  refine ⟨_, rfl, so, true, _, 1, _, rfl, rfl, hs2, atI_nat (j := 1) rfl, _, rfl, q2, true, ws2, at_, _, rfl, rfl, hq2, atI_int a0 hwi2, ?_⟩
  refine ⟨_, rfl, va, true, _, 1, _, rfl, rfl, n6.ts _ _ ha, atI_nat (j := 1) rfl, _, rfl, q, true, ws, at_, _, rfl, rfl, n6.ts _ _ hq, atI_int a0 hwi, 4, rfl, pb, true, _, rfl, n6.ts _ _ hpb, fun p4 G7 s7 e7 => ?_⟩
  rw [cut_to (by decide)] at e7
  refine ⟨_, rfl, by show 1 ≤ sizeLine; decide, fun p5 hp5 => ?_⟩
  have g5 := Same.new (o := .tup [.ref du]) hp5
  refine ⟨p4, p5, _, _, rfl, rfl, g5.get e7, upd_same, by show 5 ≤ sizeLine; decide, fun p6 G8 s8 e8 => ?_⟩
  have g8 := (s7.trans g5).trans s8
  refine ⟨pasD true p2, 2, dp_pas (k := true) ⟨pb2, sh2, rfl, g8.get hpb2, g8.get hsh2⟩, dp_pas (k := true) ⟨p6, du, rfl, e8, g8.get hdu⟩, gd_pas true p2, by decide, _, rfl, iteF ?_⟩
  have bA2 : belQ (setPs h at_ p2).pas.length (.int at_) = true := by rw [len2]; exact bA
  refine ⟨_, rfl, _, rfl, _, _, .int 9, .int 3, true, setPs h at_ p2, rfl, hso.mono g8, ok2, .int _, .int 9, .int 3, fun z => (by rw [bA2] at z; cases z), fun i p e i0 hp z => (by cases z), fun i p e i0 hp z1 z => (by cases z), fun i p x y ei i0 hp ex ey x0 x1 y0 y1 q3 G9 s9 hq3 => ?_⟩
  cases ei
  cases ex
  cases ey
  rw [g2] at hp
  cases hp
  rw [e3, setPs_self g2] at hq3
  refine ⟨_, rfl, hseD true (setPs h at_ p2), 4, dp_hse hq3, dp_hse ((hso.mono g8).mono s9), gd_hse true _, by decide, _, rfl, iteF ?_⟩
  exact ⟨_, _, _, _, _, _, _, _, _, _, _, _, _, _, _, _, rfl, fin (n6.same (g8.trans s9))⟩
end
end K5
set_option Elab.async false
set_option linter.all false
set_option maxRecDepth 100000
set_option maxHeartbeats 4000000
namespace K5
open PySem PySem.Spec PyProof.Rows L2 PySem.K5X LamX
/-- the law called by the claim's caller: c a code object, pT its table, still empty -/
theorem law_end {P : Program} {w : World} {K : PySem.W.Frag} {mg mb : Str → Option Value} {fa a c pT : Addr} {s₁ : Shared} {vs : List Value} {ns : List Int}
    (KX : K.In s₁.heap) (hns : s₁.heap.Ns mainGlobals mg) (hb : s₁.heap.Ns builtinsNs mb) (hbb : ∀ x : Str, x ≠ "__name__" → mb x = bootBuiltins x) (hlim : s₁.heap.NoLimit) (hg : s₁.gens = #[])
    (hT : s₁.heap.get? pT = some { cls := .none, data := .fields #[] }) (nT : K.lookup pT = none) (C : PySem.W.CodeHd s₁.heap c pT)
    (hbm : ∃ (bm : Addr) (ob : Obj), mg "__builtins__" = some (.ref bm) ∧ bm ≠ builtinsNs ∧ s₁.heap.get? bm = some ob ∧ ob.cls = .type "module" ∧ ob.dict = some builtinsNs ∧ ob.data = .plain)
    (ha : s₁.heap.get? a = some { cls := .type "list", data := .seq vs.toArray }) (hi : IntsAre vs ns) (hl : ns.length ≤ sizeLine)
    (run : ∀ (base : Heap) (H : Hp), Env0 P w K mg base callerA [] s₁ H → TabB base mg c pT → H pT = some (.tbl #[]) → SqL K H a (ns.map V.int) →
      codeAny (model P w) callerA (.call (.ref fa) ⟨[.ref a], []⟩) (CR CX0 [] P w H s₁ (fun v _ => v = .bl true) E0) s₁) :
    codeAny (model P w) callerA (.call (.ref fa) ⟨[.ref a], []⟩) (fun r s' => r = .ok (.ret (.bool true)) ∧ OldK s₁.heap s'.heap ∧ s'.os = s₁.os ∧ AllBare s'.gens) s₁ := by
  have rv := vals_ints hi
  have aT : a ≠ pT := fun z => by
    rw [z, hT] at ha
    have z' : Data.fields #[] = Data.seq vs.toArray _ := congrArg Obj.data (Option.some.inj ha)
    cases z'
  -- what is tracked: the table, and the script where the heap that is fixed does not hold it
  have core : ∀ H : Hp, H pT = some (.tbl #[]) → (∀ b, b ≠ pT → H b = none ∨ (b = a ∧ ∃ o xs, H b = some (.frz o (.lst xs)))) → (H a ≠ none → K.lookup a = none) → SqL K H a (ns.map V.int) → HOk P w H s₁.heap →
      codeAny (model P w) callerA (.call (.ref fa) ⟨[.ref a], []⟩) (fun r s' => r = .ok (.ret (.bool true)) ∧ OldK s₁.heap s'.heap ∧ s'.os = s₁.os ∧ AllBare s'.gens) s₁ := by
    intro H hH hO hK hS hok
    have un : ∀ {b : Addr} {o : Obj}, s₁.heap.get? b = some o → (∀ vs n, o.data ≠ .seq vs n) → o.data ≠ .fields #[] → H b = none := fun {b o} e h1 h2 => by
      by_cases hb : b = pT
      · rw [hb, hT] at e
        cases e
        exact (h2 rfl).elim
      · rcases hO b hb with z | ⟨z, _⟩
        · exact z
        · rw [z, ha] at e
          cases e
          exact (h1 _ _ rfl).elim
    have bt : ∀ {b : Addr} {o : Obj}, s₁.heap.get? b = some o → H b = none → (hidT s₁.heap H).get? b = some o := fun e n => hidT_get e n
    have nsK : ∀ {b : Addr} {m : Str → Option Value}, s₁.heap.Ns b m → (hidT s₁.heap H).Ns b m := fun {b m} ⟨o, es, ep, e, d, r⟩ => ⟨o, es, ep, bt e (un e (fun vs n z => by rw [d] at z; cases z) (fun z => by rw [d] at z; cases z)), d, r⟩
    have hKb : K.In (hidT s₁.heap H) := fun b o e => bt (KX b o e) (by
      by_cases hb : b = pT
      · rw [hb, nT] at e
        cases e
      · rcases hO b hb with z | ⟨z, o', xs, z2⟩
        · exact z
        · subst z
          rw [hK (by rw [z2]; simp)] at e
          cases e)
    have TB : TabB (hidT s₁.heap H) mg c pT := by
      refine ⟨?_, ?_, fun z => ?_⟩
      · obtain ⟨o, us, file, tf, flags, tg, inF, text, tt, e1, r1, r2, r3, r4, r5, r6, r7, r8, hne⟩ := C
        exact ⟨o, us, file, tf, flags, tg, inF, text, tt, bt e1 (un e1 (fun vs n z => by rw [r2] at z; cases z) (fun z => by
          rw [r2] at z
          cases z
          simp at r3)), r1, r2, r3, r4, r5, r6, r7, r8, hne⟩
      · obtain ⟨bm, ob, b1, b2, b3, b4, b5, b6⟩ := hbm
        refine ⟨bm, ob, b1, b2, fun q => ?_, fun q => ?_, bt b3 (un b3 (fun vs n z => by rw [b6] at z; cases z) (fun z => by rw [b6] at z; cases z)), b4, b5, b6⟩
        · obtain ⟨o, es, ep, e, hd, _⟩ := hns
          rw [q, e] at b3
          cases b3
          rw [hd] at b6
          cases b6
        · rw [q, hT] at b3
          cases b3
          cases b6
      · obtain ⟨o, es, ep, e, hd, _⟩ := hns
        rw [z, hT] at e
        cases e
        cases hd
    have e0 : Env0 P w K mg (hidT s₁.heap H) callerA [] s₁ H := ⟨rfl, ⟨hKb, nsK hns, ⟨mb, nsK hb, hbb⟩, let ⟨mc, h1, h2⟩ := hlim; ⟨mc, nsK h1, h2⟩⟩, fun b o e => of_hidT e, Nat.le_of_eq (hidT_size _ _), trivial, fun b hb => absurd (show b ∈ ([] : List Addr) from hb) (by simp), hok, .of_eq hg⟩
    refine codeAny_mono (run _ H e0 TB hH hS) fun r s' h => ?_
    cases r with
    | error e => exact (show False from h).elim
    | ok fl =>
      cases fl with
      | next => exact False.elim h
      | brk => exact False.elim h
      | cont => exact False.elim h
      | ret u =>
        obtain ⟨v, H', os, bare, U, hok', r', q⟩ := h
        have q' : v = .bl true := q
        subst q'
        obtain rfl : u = Value.bool true := r'
        obtain ⟨more, hm⟩ := U.tbls pT #[] hH
        have hm' : s'.heap.get? pT = some { cls := .none, data := .fields (#[] ++ more) } := hok' pT _ hm
        have key : ∀ b o, b ≠ pT → s₁.heap.get? b = some o → s'.heap.get? b = some o := fun b o nb e => by
          rcases hO b nb with z | ⟨_, ob, xs, z⟩
          · exact U.keep b o e z (by intro z; exact absurd (show b ∈ ([] : List Addr) from z) (by simp)) (by simp)
          · have z2 := U.frzs b ob _ z
            obtain ⟨e1, _⟩ := hok b _ z
            obtain ⟨e2, _⟩ := hok' b _ z2
            rw [e] at e1
            cases e1
            exact e2
        refine ⟨rfl, ⟨fun b o e => ?_, fun b o e => ?_⟩, os, bare⟩
        · by_cases hb : b = pT
          · rw [hb] at e ⊢
            rw [hT] at e
            cases e
            exact .inr (.inl ⟨(C.tab hT).isCodeTable, rfl, #[], more, rfl, hm'⟩)
          · exact .inl (key b o hb e)
        · by_cases hb : b = pT
          · rw [hb]
            exact ⟨_, hm'⟩
          · exact ⟨o, key b o hb e⟩
  have tabOk : ∀ {H : Hp}, ObjOk P w H s₁.heap pT (.tbl #[]) := hT
  cases hk : K.lookup a with
  | some o =>
    have e := KX a o hk
    rw [ha] at e
    cases e
    refine core (fun b => if b = pT then some (.tbl #[]) else none) (if_pos rfl) (fun b hb => .inl (if_neg hb)) (fun z => absurd (if_neg aT) z) (.inr ⟨_, vs.toArray, _, hk, rfl, rfl, rfl, by rw [List.size_toArray, hi.length]; exact hl, by simpa using rv⟩) fun b u z => ?_
    by_cases hb : b = pT
    · cases (if_pos hb).symm.trans z
      rw [hb]
      exact tabOk
    · cases (if_neg hb).symm.trans z
  | none =>
    refine core (fun b => if b = pT then some (.tbl #[]) else if b = a then some (.frz { cls := .type "list", data := .seq vs.toArray } (.lst (ns.map V.int))) else none) (if_pos rfl) (fun b hb => ?_) (fun _ => hk) (.inl (.inr ⟨{ cls := .type "list", data := .seq vs.toArray }, (if_neg aT).trans (if_pos rfl)⟩)) fun b u z => ?_
    · by_cases hb2 : b = a
      · exact .inr ⟨hb2, _, _, (if_neg hb).trans (if_pos hb2)⟩
      · exact .inl ((if_neg hb).trans (if_neg hb2))
    · by_cases hb : b = pT
      · cases (if_pos hb).symm.trans z
        rw [hb]
        exact tabOk
      · have z1 := (if_neg hb).symm.trans z
        by_cases hb2 : b = a
        · cases (if_pos hb2).symm.trans z1
          rw [hb2]
          exact ⟨ha, by rw [List.length_map]; exact hl, vs, _, rv, ha⟩
        · cases (if_neg hb2).symm.trans z1
end K5
set_option Elab.async false
set_option linter.all false
set_option maxRecDepth 100000
set_option maxHeartbeats 4000000
namespace K5
open PySem PySem.Spec PyProof.Rows L2 PySem.K5X LamX
theorem bnd_room (s : Shared) (u v : Value) (fd : FuncData) (p1 p2 : Pos) (h1 : fd.params = iA "room" p1 p2) (h2 : fd.defaults = .none) (h3 : fd.kwdefaults = .none) : BindsTo s fd ⟨[u, v], []⟩ [(Str.ofString "self", u), ("room", v)] := by
  refine .of_eq ?_
  cases fd
  dsimp only at h1 h2 h3
  subst h1
  subst h2
  subst h3
  rfl
theorem bnd_passage (s : Shared) (u v : Value) (fd : FuncData) (p1 p2 : Pos) (h1 : fd.params = iA "passage" p1 p2) (h2 : fd.defaults = .none) (h3 : fd.kwdefaults = .none) : BindsTo s fd ⟨[u, v], []⟩ [(Str.ofString "self", u), ("passage", v)] := by
  refine .of_eq ?_
  cases fd
  dsimp only at h1 h2 h3
  subst h1
  subst h2
  subst h3
  rfl
theorem bnd_beat (s : Shared) (u v : Value) (fd : FuncData) (p1 p2 : Pos) (h1 : fd.params = iA "beat" p1 p2) (h2 : fd.defaults = .none) (h3 : fd.kwdefaults = .none) : BindsTo s fd ⟨[u, v], []⟩ [(Str.ofString "self", u), ("beat", v)] := by
  refine .of_eq ?_
  cases fd
  dsimp only at h1 h2 h3
  subst h1
  subst h2
  subst h3
  rfl
theorem bnd_at (s : Shared) (u v : Value) (fd : FuncData) (p1 p2 : Pos) (h1 : fd.params = iA "at" p1 p2) (h2 : fd.defaults = .none) (h3 : fd.kwdefaults = .none) : BindsTo s fd ⟨[u, v], []⟩ [(Str.ofString "self", u), ("at", v)] := by
  refine .of_eq ?_
  cases fd
  dsimp only at h1 h2 h3
  subst h1
  subst h2
  subst h3
  rfl
theorem mc_of {a b c d e : Pos} {msg : Str} (h1 : (c.endLine == e.line) = true) : Mc (.Call (.Name "super" a) [] [] b) "__init__" c [.Constant (.str msg) 0 d] e := fun env => ⟨L2.plainOf (.Call (.Name "super" a) [] [] b) env, by
  rw [arm_eval_Call]
  have e : ∀ ov, methodCall (.Call (.Name "super" a) [] [] b) "__init__" c e env ov ([Expr.Constant (.str msg) 0 d].length + ([] : List Keyword).length) (backTo e (starEach [.Constant (.str msg) 0 d] env)) (backToKw e (keywordEach [] env)) = (do
      let (f, first) ← holding [ov] (getMethod ov "__init__" (L2.plainOf (.Call (.Name "super" a) [] [] b) env))
      callWith e f first (backTo e (starEach [.Constant (.str msg) 0 d] env)) (backToKw e (keywordEach [] env))) := fun ov => mcall_line (by rfl) h1
  simp only [e]
  rfl⟩
/-- isinstance, except: by what the classes say -/
theorem exm_of {K : PySem.W.Frag} {C S : Addr} {r : Bool} (h1 : PySem.W.subIn K (.ref S) (.type "BaseException") = some true) (h2 : PySem.W.isClsIn K S = true) (h3 : PySem.W.typeIn K (.ref S) = some (.type "type")) (h4 : PySem.W.subIn K (.ref C) (.ref S) = some r) : PySem.W.exmOne K (.ref C) (.ref S) = some r := by
  have h2' : (PySem.W.clsIn K S).isSome = true := h2
  unfold PySem.W.exmOne PySem.W.kitCls
  dsimp only
  rw [h1, h2', h3, if_pos (by decide), if_pos (by decide)]
  exact h4
theorem kit_own {K : PySem.W.Frag} {C S : Addr} (h2 : PySem.W.isClsIn K S = true) (h3 : PySem.W.typeIn K (.ref S) = some (.type "type")) (h4 : PySem.W.subIn K (.ref C) (.ref S) = some true) : PySem.W.kitOne K (.ref C) (.ref S) = some true := by
  have h2' : (PySem.W.clsIn K S).isSome = true := h2
  unfold PySem.W.kitOne PySem.W.kitCls
  dsimp only
  rw [h2', h3, if_pos (show (true && some (Value.type "type") == some (Value.type "type")) = true by decide), h4]
  split <;> rfl
theorem kit_KE {K : PySem.W.Frag} {C : Addr} (h4 : PySem.W.subIn K (.ref C) (.type "KeyError") = some true) : PySem.W.kitOne K (.ref C) (.type "KeyError") = some true := by
  unfold PySem.W.kitOne PySem.W.kitCls
  dsimp only
  rw [if_pos (show PySem.W.kitMeta "KeyError" = true by decide +kernel), h4]
  split <;> rfl
end K5
set_option Elab.async false
set_option linter.all false
set_option maxRecDepth 100000
set_option maxHeartbeats 0
namespace K5
open PySem PySem.Spec PyProof.Rows L2 PySem.K5X LamX
/-- all that is asked of the program's top, told by one kept part of the heap -/
theorem all_mk {P : Program} {K : PySem.W.Frag} {h : Heap} {mg : Str → Option Value} {fL cR cP cB cF cO c pT : Addr} (X : K.In h) (G : h.Ns mainGlobals mg) (hfa : mg "law" = some (.ref fL)) (hT : h.get? pT = some (PySem.W.tabObj #[]))
    {tc15 : Tok}
    {tc16 : Tok}
    {tc17 : Tok}
    {tc18 : Tok}
    {tc19 : Tok}
    {tc20 : Tok}
    {tc21 : Tok}
    {f8 : Addr} {oc8 kV8 dc8 pm8 cd8 ct8 : Value} {od8 an8 : Option Addr} {sl8 : Array (Option Value)}
    {f9 : Addr} {oc9 kV9 dc9 pm9 cd9 ct9 : Value} {od9 an9 : Option Addr} {sl9 : Array (Option Value)}
    {f10 : Addr} {oc10 kV10 dc10 pm10 cd10 ct10 : Value} {od10 an10 : Option Addr} {sl10 : Array (Option Value)}
    {f11 : Addr} {oc11 kV11 dc11 pm11 cd11 ct11 : Value} {od11 an11 : Option Addr} {sl11 : Array (Option Value)}
    {f12 : Addr} {oc12 kV12 dc12 pm12 cd12 ct12 : Value} {od12 an12 : Option Addr} {sl12 : Array (Option Value)}
    {f13 : Addr} {oc13 kV13 dc13 pm13 cd13 ct13 : Value} {od13 an13 : Option Addr} {sl13 : Array (Option Value)}
    {f22 : Addr} {oc22 kV22 dc22 pm22 cd22 ct22 : Value} {od22 an22 : Option Addr} {sl22 : Array (Option Value)}
    {f23 : Addr} {oc23 kV23 dc23 pm23 cd23 ct23 : Value} {od23 an23 : Option Addr} {sl23 : Array (Option Value)}
    {f24 : Addr} {oc24 kV24 dc24 pm24 cd24 ct24 : Value} {od24 an24 : Option Addr} {sl24 : Array (Option Value)}
    {f25 : Addr} {oc25 kV25 dc25 pm25 cd25 ct25 : Value} {od25 an25 : Option Addr} {sl25 : Array (Option Value)}
    {f26 : Addr} {oc26 kV26 dc26 pm26 cd26 ct26 : Value} {od26 an26 : Option Addr} {sl26 : Array (Option Value)}
    {f27 : Addr} {oc27 kV27 dc27 pm27 cd27 ct27 : Value} {od27 an27 : Option Addr} {sl27 : Array (Option Value)}
    {f28 : Addr} {oc28 kV28 dc28 pm28 cd28 ct28 : Value} {od28 an28 : Option Addr} {sl28 : Array (Option Value)}
    {f29 : Addr} {oc29 kV29 dc29 pm29 cd29 ct29 : Value} {od29 an29 : Option Addr} {sl29 : Array (Option Value)}
    {f30 : Addr} {oc30 kV30 dc30 pm30 cd30 ct30 : Value} {od30 an30 : Option Addr} {sl30 : Array (Option Value)}
    {f31 : Addr} {oc31 kV31 dc31 pm31 cd31 ct31 : Value} {od31 an31 : Option Addr} {sl31 : Array (Option Value)}
    {f32 : Addr} {oc32 kV32 dc32 pm32 cd32 ct32 : Value} {od32 an32 : Option Addr} {sl32 : Array (Option Value)}
    {f33 : Addr} {oc33 kV33 dc33 pm33 cd33 ct33 : Value} {od33 an33 : Option Addr} {sl33 : Array (Option Value)}
    {f34 : Addr} {oc34 kV34 dc34 pm34 cd34 ct34 : Value} {od34 an34 : Option Addr} {sl34 : Array (Option Value)}
    {f35 : Addr} {oc35 kV35 dc35 pm35 cd35 ct35 : Value} {od35 an35 : Option Addr} {sl35 : Array (Option Value)}
    {f36 : Addr} {oc36 kV36 dc36 pm36 cd36 ct36 : Value} {od36 an36 : Option Addr} {sl36 : Array (Option Value)}
    {f38 : Addr} {oc38 kV38 dc38 pm38 cd38 ct38 : Value} {od38 an38 : Option Addr} {sl38 : Array (Option Value)}
    {f39 : Addr} {oc39 kV39 dc39 pm39 cd39 ct39 : Value} {od39 an39 : Option Addr} {sl39 : Array (Option Value)}
    {f40 : Addr} {oc40 kV40 dc40 pm40 cd40 ct40 : Value} {od40 an40 : Option Addr} {sl40 : Array (Option Value)}
    {f42 : Addr} {oc42 kV42 dc42 pm42 cd42 ct42 : Value} {od42 an42 : Option Addr} {sl42 : Array (Option Value)}
    {f43 : Addr} {oc43 kV43 dc43 pm43 cd43 ct43 : Value} {od43 an43 : Option Addr} {sl43 : Array (Option Value)}
    {f44 : Addr} {oc44 kV44 dc44 pm44 cd44 ct44 : Value} {od44 an44 : Option Addr} {sl44 : Array (Option Value)}
    {f45 : Addr} {oc45 kV45 dc45 pm45 cd45 ct45 : Value} {od45 an45 : Option Addr} {sl45 : Array (Option Value)}
    {f46 : Addr} {oc46 kV46 dc46 pm46 cd46 ct46 : Value} {od46 an46 : Option Addr} {sl46 : Array (Option Value)}
    {f47 : Addr} {oc47 kV47 dc47 pm47  ct47 : Value} {od47 an47 : Option Addr} {sl47 : Array (Option Value)}
    {f48 : Addr} {oc48 kV48 dc48 pm48 cd48 ct48 : Value} {od48 an48 : Option Addr} {sl48 : Array (Option Value)}
    {fIR cdaR ccR NR : Addr} {nmR qR qualR fileR : Str} {bsR subR : List Value} {snR : List Str} {abR : Bool} {colR : Option Bool} {ddR odR anR cddR cldR : Option Addr} {m0R m1R m2R m3R m5R : Option Value} {ocR docR pmR ctR cclR clR : Value} {slR ccsR cslR : Array (Option Value)} {vsR : Array Value} {tfR : Tok} {p1R p2R aR bR cR' dR eR sR xR yR zR vR : Pos}
    {fIP cdaP ccP NP : Addr} {nmP qP qualP fileP : Str} {bsP subP : List Value} {snP : List Str} {abP : Bool} {colP : Option Bool} {ddP odP anP cddP cldP : Option Addr} {m0P m1P m2P m3P m5P : Option Value} {ocP docP pmP ctP cclP clP : Value} {slP ccsP cslP : Array (Option Value)} {vsP : Array Value} {tfP : Tok} {p1P p2P aP bP cP' dP eP sP xP yP zP vP : Pos}
    {fIB cdaB ccB NB : Addr} {nmB qB qualB fileB : Str} {bsB subB : List Value} {snB : List Str} {abB : Bool} {colB : Option Bool} {ddB odB anB cddB cldB : Option Addr} {m0B m1B m2B m3B m5B : Option Value} {ocB docB pmB ctB cclB clB : Value} {slB ccsB cslB : Array (Option Value)} {vsB : Array Value} {tfB : Tok} {p1B p2B aB bB cB' dB eB sB xB yB zB vB : Pos}
    {fIF cdaF ccF NF : Addr} {nmF qF qualF fileF : Str} {bsF subF : List Value} {snF : List Str} {abF : Bool} {colF : Option Bool} {ddF odF anF cddF cldF : Option Addr} {m0F m1F m2F m3F m5F : Option Value} {ocF docF pmF ctF cclF clF : Value} {slF ccsF cslF : Array (Option Value)} {vsF : Array Value} {tfF : Tok} {p1F p2F aF bF cF' dF eF sF xF yF zF vF : Pos}
    (gO : PySem.W.nsIn K mainGlobals "OutError" = some (some (.ref cO)))
    (noS : PySem.W.nsIn K mainGlobals "super" = some none)
    (noT : PySem.W.nsIn K cStatics "thirdparty.any" = some none)
    (b_isinstance : PySem.W.nsIn K mainGlobals "isinstance" = some none)
    (b_int : PySem.W.nsIn K mainGlobals "int" = some none)
    (b_bool : PySem.W.nsIn K mainGlobals "bool" = some none)
    (b_list : PySem.W.nsIn K mainGlobals "list" = some none)
    (b_tuple : PySem.W.nsIn K mainGlobals "tuple" = some none)
    (b_all : PySem.W.nsIn K mainGlobals "all" = some none)
    (b_zip : PySem.W.nsIn K mainGlobals "zip" = some none)
    (b_len : PySem.W.nsIn K mainGlobals "len" = some none)
    (b_range : PySem.W.nsIn K mainGlobals "range" = some none)
    (b_abs : PySem.W.nsIn K mainGlobals "abs" = some none)
    (b_repr : PySem.W.nsIn K mainGlobals "repr" = some none)
    (b_set : PySem.W.nsIn K mainGlobals "set" = some none)
    (b_sorted : PySem.W.nsIn K mainGlobals "sorted" = some none)
    (b_KeyError : PySem.W.nsIn K mainGlobals "KeyError" = some none)
    (c15 : PySem.W.nsIn K mainGlobals "MOST_BEAT" = some (some (.int 60 tc15)))
    (c16 : PySem.W.nsIn K mainGlobals "MOST_ROOMS" = some (some (.int 20 tc16)))
    (c17 : PySem.W.nsIn K mainGlobals "MOST_PASSAGES" = some (some (.int 60 tc17)))
    (c18 : PySem.W.nsIn K mainGlobals "MOST_LENGTH" = some (some (.int 9 tc18)))
    (c19 : PySem.W.nsIn K mainGlobals "MOST_WIDTH" = some (some (.int 9 tc19)))
    (c20 : PySem.W.nsIn K mainGlobals "INSIDE" = some (some (.int 0 tc20)))
    (c21 : PySem.W.nsIn K mainGlobals "WAY_OUT" = some (some (.int 1 tc21)))
    (a8 : PySem.W.nsIn K mainGlobals "is_integer" = some (some (.ref f8)))
    (l8 : K.lookup f8 = some ⟨oc8, od8, .func (PySem.W.fnOf "is_integer" "is_integer" (defArgs (top 8)) (defBody (top 8)) (defScope (top 8)) .none kV8 dc8 pm8 an8 cd8 ct8), sl8⟩)
    (e8 : PySem.W.codeIn K cd8 "is_integer" = true)
    (k8 : PySem.W.keepIn K (.ref f8) = true)
    (a9 : PySem.W.nsIn K mainGlobals "is_number" = some (some (.ref f9)))
    (l9 : K.lookup f9 = some ⟨oc9, od9, .func (PySem.W.fnOf "is_number" "is_number" (defArgs (top 9)) (defBody (top 9)) (defScope (top 9)) .none kV9 dc9 pm9 an9 cd9 ct9), sl9⟩)
    (e9 : PySem.W.codeIn K cd9 "is_number" = true)
    (k9 : PySem.W.keepIn K (.ref f9) = true)
    (a10 : PySem.W.nsIn K mainGlobals "is_below" = some (some (.ref f10)))
    (l10 : K.lookup f10 = some ⟨oc10, od10, .func (PySem.W.fnOf "is_below" "is_below" (defArgs (top 10)) (defBody (top 10)) (defScope (top 10)) .none kV10 dc10 pm10 an10 cd10 ct10), sl10⟩)
    (e10 : PySem.W.codeIn K cd10 "is_below" = true)
    (k10 : PySem.W.keepIn K (.ref f10) = true)
    (a11 : PySem.W.nsIn K mainGlobals "is_sequence" = some (some (.ref f11)))
    (l11 : K.lookup f11 = some ⟨oc11, od11, .func (PySem.W.fnOf "is_sequence" "is_sequence" (defArgs (top 11)) (defBody (top 11)) (defScope (top 11)) .none kV11 dc11 pm11 an11 cd11 ct11), sl11⟩)
    (e11 : PySem.W.codeIn K cd11 "is_sequence" = true)
    (k11 : PySem.W.keepIn K (.ref f11) = true)
    (a12 : PySem.W.nsIn K mainGlobals "is_ascending" = some (some (.ref f12)))
    (l12 : K.lookup f12 = some ⟨oc12, od12, .func (PySem.W.fnOf "is_ascending" "is_ascending" (defArgs (top 12)) (defBody (top 12)) (defScope (top 12)) .none kV12 dc12 pm12 an12 cd12 ct12), sl12⟩)
    (e12 : PySem.W.codeIn K cd12 "is_ascending" = true)
    (k12 : PySem.W.keepIn K (.ref f12) = true)
    (a13 : PySem.W.nsIn K mainGlobals "is_lot" = some (some (.ref f13)))
    (l13 : K.lookup f13 = some ⟨oc13, od13, .func (PySem.W.fnOf "is_lot" "is_lot" (defArgs (top 13)) (defBody (top 13)) (defScope (top 13)) .none kV13 dc13 pm13 an13 cd13 ct13), sl13⟩)
    (e13 : PySem.W.codeIn K cd13 "is_lot" = true)
    (k13 : PySem.W.keepIn K (.ref f13) = true)
    (a22 : PySem.W.nsIn K mainGlobals "are_rooms" = some (some (.ref f22)))
    (l22 : K.lookup f22 = some ⟨oc22, od22, .func (PySem.W.fnOf "are_rooms" "are_rooms" (defArgs (top 22)) (defBody (top 22)) (defScope (top 22)) .none kV22 dc22 pm22 an22 cd22 ct22), sl22⟩)
    (e22 : PySem.W.codeIn K cd22 "are_rooms" = true)
    (k22 : PySem.W.keepIn K (.ref f22) = true)
    (a23 : PySem.W.nsIn K mainGlobals "is_passage" = some (some (.ref f23)))
    (l23 : K.lookup f23 = some ⟨oc23, od23, .func (PySem.W.fnOf "is_passage" "is_passage" (defArgs (top 23)) (defBody (top 23)) (defScope (top 23)) .none kV23 dc23 pm23 an23 cd23 ct23), sl23⟩)
    (e23 : PySem.W.codeIn K cd23 "is_passage" = true)
    (k23 : PySem.W.keepIn K (.ref f23) = true)
    (a24 : PySem.W.nsIn K mainGlobals "are_passages" = some (some (.ref f24)))
    (l24 : K.lookup f24 = some ⟨oc24, od24, .func (PySem.W.fnOf "are_passages" "are_passages" (defArgs (top 24)) (defBody (top 24)) (defScope (top 24)) .none kV24 dc24 pm24 an24 cd24 ct24), sl24⟩)
    (e24 : PySem.W.codeIn K cd24 "are_passages" = true)
    (k24 : PySem.W.keepIn K (.ref f24) = true)
    (a25 : PySem.W.nsIn K mainGlobals "is_smoke" = some (some (.ref f25)))
    (l25 : K.lookup f25 = some ⟨oc25, od25, .func (PySem.W.fnOf "is_smoke" "is_smoke" (defArgs (top 25)) (defBody (top 25)) (defScope (top 25)) .none kV25 dc25 pm25 an25 cd25 ct25), sl25⟩)
    (e25 : PySem.W.codeIn K cd25 "is_smoke" = true)
    (k25 : PySem.W.keepIn K (.ref f25) = true)
    (a26 : PySem.W.nsIn K mainGlobals "check_house" = some (some (.ref f26)))
    (l26 : K.lookup f26 = some ⟨oc26, od26, .func (PySem.W.fnOf "check_house" "check_house" (defArgs (top 26)) (defBody (top 26)) (defScope (top 26)) .none kV26 dc26 pm26 an26 cd26 ct26), sl26⟩)
    (e26 : PySem.W.codeIn K cd26 "check_house" = true)
    (k26 : PySem.W.keepIn K (.ref f26) = true)
    (a27 : PySem.W.nsIn K mainGlobals "need_room" = some (some (.ref f27)))
    (l27 : K.lookup f27 = some ⟨oc27, od27, .func (PySem.W.fnOf "need_room" "need_room" (defArgs (top 27)) (defBody (top 27)) (defScope (top 27)) .none kV27 dc27 pm27 an27 cd27 ct27), sl27⟩)
    (e27 : PySem.W.codeIn K cd27 "need_room" = true)
    (k27 : PySem.W.keepIn K (.ref f27) = true)
    (a28 : PySem.W.nsIn K mainGlobals "need_inside" = some (some (.ref f28)))
    (l28 : K.lookup f28 = some ⟨oc28, od28, .func (PySem.W.fnOf "need_inside" "need_inside" (defArgs (top 28)) (defBody (top 28)) (defScope (top 28)) .none kV28 dc28 pm28 an28 cd28 ct28), sl28⟩)
    (e28 : PySem.W.codeIn K cd28 "need_inside" = true)
    (k28 : PySem.W.keepIn K (.ref f28) = true)
    (a29 : PySem.W.nsIn K mainGlobals "need_passage" = some (some (.ref f29)))
    (l29 : K.lookup f29 = some ⟨oc29, od29, .func (PySem.W.fnOf "need_passage" "need_passage" (defArgs (top 29)) (defBody (top 29)) (defScope (top 29)) .none kV29 dc29 pm29 an29 cd29 ct29), sl29⟩)
    (e29 : PySem.W.codeIn K cd29 "need_passage" = true)
    (k29 : PySem.W.keepIn K (.ref f29) = true)
    (a30 : PySem.W.nsIn K mainGlobals "need_beat" = some (some (.ref f30)))
    (l30 : K.lookup f30 = some ⟨oc30, od30, .func (PySem.W.fnOf "need_beat" "need_beat" (defArgs (top 30)) (defBody (top 30)) (defScope (top 30)) .none kV30 dc30 pm30 an30 cd30 ct30), sl30⟩)
    (e30 : PySem.W.codeIn K cd30 "need_beat" = true)
    (k30 : PySem.W.keepIn K (.ref f30) = true)
    (a31 : PySem.W.nsIn K mainGlobals "with_smoke" = some (some (.ref f31)))
    (l31 : K.lookup f31 = some ⟨oc31, od31, .func (PySem.W.fnOf "with_smoke" "with_smoke" (defArgs (top 31)) (defBody (top 31)) (defScope (top 31)) .none kV31 dc31 pm31 an31 cd31 ct31), sl31⟩)
    (e31 : PySem.W.codeIn K cd31 "with_smoke" = true)
    (k31 : PySem.W.keepIn K (.ref f31) = true)
    (a32 : PySem.W.nsIn K mainGlobals "cleared" = some (some (.ref f32)))
    (l32 : K.lookup f32 = some ⟨oc32, od32, .func (PySem.W.fnOf "cleared" "cleared" (defArgs (top 32)) (defBody (top 32)) (defScope (top 32)) .none kV32 dc32 pm32 an32 cd32 ct32), sl32⟩)
    (e32 : PySem.W.codeIn K cd32 "cleared" = true)
    (k32 : PySem.W.keepIn K (.ref f32) = true)
    (a33 : PySem.W.nsIn K mainGlobals "with_passage" = some (some (.ref f33)))
    (l33 : K.lookup f33 = some ⟨oc33, od33, .func (PySem.W.fnOf "with_passage" "with_passage" (defArgs (top 33)) (defBody (top 33)) (defScope (top 33)) .none kV33 dc33 pm33 an33 cd33 ct33), sl33⟩)
    (e33 : PySem.W.codeIn K cd33 "with_passage" = true)
    (k33 : PySem.W.keepIn K (.ref f33) = true)
    (a34 : PySem.W.nsIn K mainGlobals "with_width" = some (some (.ref f34)))
    (l34 : K.lookup f34 = some ⟨oc34, od34, .func (PySem.W.fnOf "with_width" "with_width" (defArgs (top 34)) (defBody (top 34)) (defScope (top 34)) .none kV34 dc34 pm34 an34 cd34 ct34), sl34⟩)
    (e34 : PySem.W.codeIn K cd34 "with_width" = true)
    (k34 : PySem.W.keepIn K (.ref f34) = true)
    (a35 : PySem.W.nsIn K mainGlobals "with_shut" = some (some (.ref f35)))
    (l35 : K.lookup f35 = some ⟨oc35, od35, .func (PySem.W.fnOf "with_shut" "with_shut" (defArgs (top 35)) (defBody (top 35)) (defScope (top 35)) .none kV35 dc35 pm35 an35 cd35 ct35), sl35⟩)
    (e35 : PySem.W.codeIn K cd35 "with_shut" = true)
    (k35 : PySem.W.keepIn K (.ref f35) = true)
    (a36 : PySem.W.nsIn K mainGlobals "with_open" = some (some (.ref f36)))
    (l36 : K.lookup f36 = some ⟨oc36, od36, .func (PySem.W.fnOf "with_open" "with_open" (defArgs (top 36)) (defBody (top 36)) (defScope (top 36)) .none kV36 dc36 pm36 an36 cd36 ct36), sl36⟩)
    (e36 : PySem.W.codeIn K cd36 "with_open" = true)
    (k36 : PySem.W.keepIn K (.ref f36) = true)
    (a38 : PySem.W.nsIn K mainGlobals "_law_box" = some (some (.ref f38)))
    (l38 : K.lookup f38 = some ⟨oc38, od38, .func (PySem.W.fnOf "_law_box" "_law_box" (defArgs (top 38)) (defBody (top 38)) (defScope (top 38)) .none kV38 dc38 pm38 an38 cd38 ct38), sl38⟩)
    (e38 : PySem.W.codeIn K cd38 "_law_box" = true)
    (k38 : PySem.W.keepIn K (.ref f38) = true)
    (a39 : PySem.W.nsIn K mainGlobals "_law_take" = some (some (.ref f39)))
    (l39 : K.lookup f39 = some ⟨oc39, od39, .func (PySem.W.fnOf "_law_take" "_law_take" (defArgs (top 39)) (defBody (top 39)) (defScope (top 39)) .none kV39 dc39 pm39 an39 cd39 ct39), sl39⟩)
    (e39 : PySem.W.codeIn K cd39 "_law_take" = true)
    (k39 : PySem.W.keepIn K (.ref f39) = true)
    (a40 : PySem.W.nsIn K mainGlobals "_law_pick" = some (some (.ref f40)))
    (l40 : K.lookup f40 = some ⟨oc40, od40, .func (PySem.W.fnOf "_law_pick" "_law_pick" (defArgs (top 40)) (defBody (top 40)) (defScope (top 40)) .none kV40 dc40 pm40 an40 cd40 ct40), sl40⟩)
    (e40 : PySem.W.codeIn K cd40 "_law_pick" = true)
    (k40 : PySem.W.keepIn K (.ref f40) = true)
    (a42 : PySem.W.nsIn K mainGlobals "_law_house" = some (some (.ref f42)))
    (l42 : K.lookup f42 = some ⟨oc42, od42, .func (PySem.W.fnOf "_law_house" "_law_house" (defArgs (top 42)) (defBody (top 42)) (defScope (top 42)) .none kV42 dc42 pm42 an42 cd42 ct42), sl42⟩)
    (e42 : PySem.W.codeIn K cd42 "_law_house" = true)
    (k42 : PySem.W.keepIn K (.ref f42) = true)
    (a43 : PySem.W.nsIn K mainGlobals "_law_handed" = some (some (.ref f43)))
    (l43 : K.lookup f43 = some ⟨oc43, od43, .func (PySem.W.fnOf "_law_handed" "_law_handed" (defArgs (top 43)) (defBody (top 43)) (defScope (top 43)) .none kV43 dc43 pm43 an43 cd43 ct43), sl43⟩)
    (e43 : PySem.W.codeIn K cd43 "_law_handed" = true)
    (k43 : PySem.W.keepIn K (.ref f43) = true)
    (a44 : PySem.W.nsIn K mainGlobals "_law_heard" = some (some (.ref f44)))
    (l44 : K.lookup f44 = some ⟨oc44, od44, .func (PySem.W.fnOf "_law_heard" "_law_heard" (defArgs (top 44)) (defBody (top 44)) (defScope (top 44)) .none kV44 dc44 pm44 an44 cd44 ct44), sl44⟩)
    (e44 : PySem.W.codeIn K cd44 "_law_heard" = true)
    (k44 : PySem.W.keepIn K (.ref f44) = true)
    (a45 : PySem.W.nsIn K mainGlobals "_law_done" = some (some (.ref f45)))
    (l45 : K.lookup f45 = some ⟨oc45, od45, .func (PySem.W.fnOf "_law_done" "_law_done" (defArgs (top 45)) (defBody (top 45)) (defScope (top 45)) .none kV45 dc45 pm45 an45 cd45 ct45), sl45⟩)
    (e45 : PySem.W.codeIn K cd45 "_law_done" = true)
    (k45 : PySem.W.keepIn K (.ref f45) = true)
    (a46 : PySem.W.nsIn K mainGlobals "_law_edit" = some (some (.ref f46)))
    (l46 : K.lookup f46 = some ⟨oc46, od46, .func (PySem.W.fnOf "_law_edit" "_law_edit" (defArgs (top 46)) (defBody (top 46)) (defScope (top 46)) .none kV46 dc46 pm46 an46 cd46 ct46), sl46⟩)
    (e46 : PySem.W.codeIn K cd46 "_law_edit" = true)
    (k46 : PySem.W.keepIn K (.ref f46) = true)
    (a47 : PySem.W.nsIn K mainGlobals "_law_none_right" = some (some (.ref f47)))
    (l47 : K.lookup f47 = some ⟨oc47, od47, .func (PySem.W.fnOf "_law_none_right" "_law_none_right" (defArgs (top 47)) (defBody (top 47)) (defScope (top 47)) .none kV47 dc47 pm47 an47 (.ref c) ct47), sl47⟩)
    (e47 : PySem.W.codeIn K (.ref c) "_law_none_right" = true)
    (k47 : PySem.W.keepIn K (.ref f47) = true)
    (a48 : PySem.W.nsIn K mainGlobals "law" = some (some (.ref f48)))
    (l48 : K.lookup f48 = some ⟨oc48, od48, .func (PySem.W.fnOf "law" "law" (defArgs (top 48)) (defBody (top 48)) (defScope (top 48)) .none kV48 dc48 pm48 an48 cd48 ct48), sl48⟩)
    (e48 : PySem.W.codeIn K cd48 "law" = true)
    (k48 : PySem.W.keepIn K (.ref f48) = true)
    (gR : PySem.W.nsIn K mainGlobals "NoRoom" = some (some (.ref cR)))
    (xRL : K.lookup cR = some (excClassObj nmR qR cR NR bsR (keTail) true snR subR abR colR ddR m0R m1R m2R m3R m5R "LookupError.__new__"))
    (suR : PySem.W.ks_superIn K cR cR "__init__" = some (some (.builtin "KeyError.__init__")))
    (stR : PySem.W.subIn K (.ref cR) (.type "KeyError") = some true)
    (mrR : PySem.W.mroIn K cR (.ref cR) = some true)
    (saR : PySem.W.findIn K (.ref cR) "__setattr__" = some (some (.builtin "object.__setattr__")))
    (gaR : PySem.W.findIn K (.ref cR) "__getattribute__" = some (some (.builtin "BaseException.__getattribute__")))
    (ggR : PySem.W.findIn K (.ref cR) "__getattr__" = some none)
    (nfR : PySem.W.findIn K (.ref cR) "room" = some none)
    (icR : PySem.W.findIn K (.ref cR) "__init__" = some (some (.ref fIR)))
    (tcR : PySem.W.typeIn K (.ref fIR) = some (.type "function"))
    (kcR : PySem.W.keepIn K (.ref cR) = true)
    (exR : PySem.W.subIn K (.ref cR) (.type "BaseException") = some true)
    (tyR : PySem.W.typeIn K (.ref cR) = some (.type "type"))
    (hdR : PySem.W.hasDictIn K cR = true)
    (isR : PySem.W.isClsIn K cR = true)
    (klR : PySem.W.findIn K (.ref cR) "__class__" = some (some (.builtin "object.__class__")))
    (moR : PySem.W.mroIn K cR (.type "object") = some true)
    (lR : K.lookup fIR = some ⟨ocR, odR, .func (PySem.W.ksFn "__init__" qualR (iA "room" p1R p2R) (iB "room" "no such room here" aR bR cR' dR eR sR xR yR zR vR) (iS "room") .none .none docR pmR anR (.ref cdaR) ctR ccR), slR⟩)
    (cnR : PySem.W.codeIn K (.ref cdaR) qualR = true)
    (lcR : K.lookup cdaR = some ⟨cclR, cddR, .fields vsR, ccsR⟩)
    (hvR : vsR[2]? = some (.str fileR tfR))
    (hfR : ((P.main.file : Str) == fileR) = true)
    (lxR : K.lookup ccR = some ⟨clR, cldR, .cell (some (.ref cR)), cslR⟩)
    (hlR : (cR'.endLine == eR.line) = true)
    (gP : PySem.W.nsIn K mainGlobals "NoPassage" = some (some (.ref cP)))
    (xPL : K.lookup cP = some (excClassObj nmP qP cP NP bsP (keTail) true snP subP abP colP ddP m0P m1P m2P m3P m5P "LookupError.__new__"))
    (suP : PySem.W.ks_superIn K cP cP "__init__" = some (some (.builtin "KeyError.__init__")))
    (stP : PySem.W.subIn K (.ref cP) (.type "KeyError") = some true)
    (mrP : PySem.W.mroIn K cP (.ref cP) = some true)
    (saP : PySem.W.findIn K (.ref cP) "__setattr__" = some (some (.builtin "object.__setattr__")))
    (gaP : PySem.W.findIn K (.ref cP) "__getattribute__" = some (some (.builtin "BaseException.__getattribute__")))
    (ggP : PySem.W.findIn K (.ref cP) "__getattr__" = some none)
    (nfP : PySem.W.findIn K (.ref cP) "passage" = some none)
    (icP : PySem.W.findIn K (.ref cP) "__init__" = some (some (.ref fIP)))
    (tcP : PySem.W.typeIn K (.ref fIP) = some (.type "function"))
    (kcP : PySem.W.keepIn K (.ref cP) = true)
    (exP : PySem.W.subIn K (.ref cP) (.type "BaseException") = some true)
    (tyP : PySem.W.typeIn K (.ref cP) = some (.type "type"))
    (hdP : PySem.W.hasDictIn K cP = true)
    (isP : PySem.W.isClsIn K cP = true)
    (klP : PySem.W.findIn K (.ref cP) "__class__" = some (some (.builtin "object.__class__")))
    (moP : PySem.W.mroIn K cP (.type "object") = some true)
    (lP : K.lookup fIP = some ⟨ocP, odP, .func (PySem.W.ksFn "__init__" qualP (iA "passage" p1P p2P) (iB "passage" "no such passage here" aP bP cP' dP eP sP xP yP zP vP) (iS "passage") .none .none docP pmP anP (.ref cdaP) ctP ccP), slP⟩)
    (cnP : PySem.W.codeIn K (.ref cdaP) qualP = true)
    (lcP : K.lookup cdaP = some ⟨cclP, cddP, .fields vsP, ccsP⟩)
    (hvP : vsP[2]? = some (.str fileP tfP))
    (hfP : ((P.main.file : Str) == fileP) = true)
    (lxP : K.lookup ccP = some ⟨clP, cldP, .cell (some (.ref cP)), cslP⟩)
    (hlP : (cP'.endLine == eP.line) = true)
    (gB : PySem.W.nsIn K mainGlobals "NoBeat" = some (some (.ref cB)))
    (xBL : K.lookup cB = some (excClassObj nmB qB cB NB bsB (keTail) true snB subB abB colB ddB m0B m1B m2B m3B m5B "LookupError.__new__"))
    (suB : PySem.W.ks_superIn K cB cB "__init__" = some (some (.builtin "KeyError.__init__")))
    (stB : PySem.W.subIn K (.ref cB) (.type "KeyError") = some true)
    (mrB : PySem.W.mroIn K cB (.ref cB) = some true)
    (saB : PySem.W.findIn K (.ref cB) "__setattr__" = some (some (.builtin "object.__setattr__")))
    (gaB : PySem.W.findIn K (.ref cB) "__getattribute__" = some (some (.builtin "BaseException.__getattribute__")))
    (ggB : PySem.W.findIn K (.ref cB) "__getattr__" = some none)
    (nfB : PySem.W.findIn K (.ref cB) "beat" = some none)
    (icB : PySem.W.findIn K (.ref cB) "__init__" = some (some (.ref fIB)))
    (tcB : PySem.W.typeIn K (.ref fIB) = some (.type "function"))
    (kcB : PySem.W.keepIn K (.ref cB) = true)
    (exB : PySem.W.subIn K (.ref cB) (.type "BaseException") = some true)
    (tyB : PySem.W.typeIn K (.ref cB) = some (.type "type"))
    (hdB : PySem.W.hasDictIn K cB = true)
    (isB : PySem.W.isClsIn K cB = true)
    (klB : PySem.W.findIn K (.ref cB) "__class__" = some (some (.builtin "object.__class__")))
    (moB : PySem.W.mroIn K cB (.type "object") = some true)
    (lB : K.lookup fIB = some ⟨ocB, odB, .func (PySem.W.ksFn "__init__" qualB (iA "beat" p1B p2B) (iB "beat" "no such beat here" aB bB cB' dB eB sB xB yB zB vB) (iS "beat") .none .none docB pmB anB (.ref cdaB) ctB ccB), slB⟩)
    (cnB : PySem.W.codeIn K (.ref cdaB) qualB = true)
    (lcB : K.lookup cdaB = some ⟨cclB, cddB, .fields vsB, ccsB⟩)
    (hvB : vsB[2]? = some (.str fileB tfB))
    (hfB : ((P.main.file : Str) == fileB) = true)
    (lxB : K.lookup ccB = some ⟨clB, cldB, .cell (some (.ref cB)), cslB⟩)
    (hlB : (cB'.endLine == eB.line) = true)
    (gF : PySem.W.nsIn K mainGlobals "Refused" = some (some (.ref cF)))
    (xFL : K.lookup cF = some (excClassObj nmF qF cF NF bsF (.ref cO :: PySem.HandSPX.veTail) true snF subF abF colF ddF m0F m1F m2F m3F m5F "ValueError.__new__"))
    (suF : PySem.W.ks_superIn K cF cF "__init__" = some (some (.builtin "ValueError.__init__")))
    (stF : PySem.W.subIn K (.ref cF) (.type "ValueError") = some true)
    (mrF : PySem.W.mroIn K cF (.ref cF) = some true)
    (saF : PySem.W.findIn K (.ref cF) "__setattr__" = some (some (.builtin "object.__setattr__")))
    (gaF : PySem.W.findIn K (.ref cF) "__getattribute__" = some (some (.builtin "BaseException.__getattribute__")))
    (ggF : PySem.W.findIn K (.ref cF) "__getattr__" = some none)
    (nfF : PySem.W.findIn K (.ref cF) "at" = some none)
    (icF : PySem.W.findIn K (.ref cF) "__init__" = some (some (.ref fIF)))
    (tcF : PySem.W.typeIn K (.ref fIF) = some (.type "function"))
    (kcF : PySem.W.keepIn K (.ref cF) = true)
    (exF : PySem.W.subIn K (.ref cF) (.type "BaseException") = some true)
    (tyF : PySem.W.typeIn K (.ref cF) = some (.type "type"))
    (hdF : PySem.W.hasDictIn K cF = true)
    (isF : PySem.W.isClsIn K cF = true)
    (klF : PySem.W.findIn K (.ref cF) "__class__" = some (some (.builtin "object.__class__")))
    (moF : PySem.W.mroIn K cF (.type "object") = some true)
    (lF : K.lookup fIF = some ⟨ocF, odF, .func (PySem.W.ksFn "__init__" qualF (iA "at" p1F p2F) (iB "at" "no such value here" aF bF cF' dF eF sF xF yF zF vF) (iS "at") .none .none docF pmF anF (.ref cdaF) ctF ccF), slF⟩)
    (cnF : PySem.W.codeIn K (.ref cdaF) qualF = true)
    (lcF : K.lookup cdaF = some ⟨cclF, cddF, .fields vsF, ccsF⟩)
    (hvF : vsF[2]? = some (.str fileF tfF))
    (hfF : ((P.main.file : Str) == fileF) = true)
    (lxF : K.lookup ccF = some ⟨clF, cldF, .cell (some (.ref cF)), cslF⟩)
    (hlF : (cF'.endLine == eF.line) = true)
    (gn : PySem.W.specialIn K (.builtin "object.__class__") "__get__" = some (some (.builtin "getset_descriptor.__get__")))
    (tk : PySem.W.takesIn K (.builtin "object.__class__") = some true)
    (top_ : (P.main.scope.names.lookup ("super" : Str)).isSome = false)
    (qRR : PySem.W.subIn K (.ref cR) (.ref cR) = some true)
    (qPR : PySem.W.subIn K (.ref cP) (.ref cR) = some false)
    (qPP : PySem.W.subIn K (.ref cP) (.ref cP) = some true)
    (qBR : PySem.W.subIn K (.ref cB) (.ref cR) = some false)
    (qBP : PySem.W.subIn K (.ref cB) (.ref cP) = some false)
    (qBB : PySem.W.subIn K (.ref cB) (.ref cB) = some true)
    (qFR : PySem.W.subIn K (.ref cF) (.ref cR) = some false)
    (qFP : PySem.W.subIn K (.ref cF) (.ref cP) = some false)
    (qFB : PySem.W.subIn K (.ref cF) (.ref cB) = some false)
    (qFF : PySem.W.subIn K (.ref cF) (.ref cF) = some true)
    (nT : K.lookup pT = none)
    (hC : PySem.W.codeHdIn K c pT = true)
    (isO : PySem.W.isClsIn K cO = true)
    (tyO : PySem.W.typeIn K (.ref cO) = some (.type "type"))
    (qO : PySem.W.subIn K (.ref cF) (.ref cO) = some true) :
    ∃ (K : PySem.W.Frag) (cR cP cB cF cO f c pT : Addr) (fdL : FuncData), K.In h ∧ Tx P K mg ∧ Hx P K mg cR cP cB cF cO ∧ (∀ base, TabB base mg c pT → DfL K mg base f c pT) ∧ Fun K "law" "law" sLaw fL fdL ∧ h.get? pT = some (PySem.W.tabObj #[]) ∧ K.lookup pT = none ∧ PySem.W.CodeHd h c pT := by
  have e := hfa.symm.trans (PySem.W.mg_of X G a48)
  cases e
  have ER : ETxt P K mg "NoRoom" "room" "no such room here" cR fIR := { gC := PySem.W.mg_of X G gR, noS := PySem.W.mg_none_of X G noS, cls := ⟨_, _, _, _, nmR, qR, NR, bsR, _, snR, subR, abR, colR, ddR, m0R, m1R, m2R, m3R, m5R, PySem.F.excBase_LookupError, chain_KE, xRL⟩, ini := ⟨_, _, initF_KeyError, suR, stR⟩, noT := noT, self := mrR, sa := saR, ga := gaR, gg := ggR, noF := nfR, iC := icR, tC := tcR, kC := kcR, exC := exR, tyC := tyR, hdC := hdR, fn := ⟨_, _, _, _, _, _, _, _, _, _, _, _, _, _, _, _, _, _, _, _, _, _, lR, cnR, mc_of hlR, ⟨_, _, _, _, _, _, lcR, hvR, hfR⟩, _, _, _, lxR⟩, top := top_, loc := rfl, hks := rfl, hkc := rfl, fne := by decide, fdb := by decide, bnd := bnd_room }
  have EP : ETxt P K mg "NoPassage" "passage" "no such passage here" cP fIP := { gC := PySem.W.mg_of X G gP, noS := PySem.W.mg_none_of X G noS, cls := ⟨_, _, _, _, nmP, qP, NP, bsP, _, snP, subP, abP, colP, ddP, m0P, m1P, m2P, m3P, m5P, PySem.F.excBase_LookupError, chain_KE, xPL⟩, ini := ⟨_, _, initF_KeyError, suP, stP⟩, noT := noT, self := mrP, sa := saP, ga := gaP, gg := ggP, noF := nfP, iC := icP, tC := tcP, kC := kcP, exC := exP, tyC := tyP, hdC := hdP, fn := ⟨_, _, _, _, _, _, _, _, _, _, _, _, _, _, _, _, _, _, _, _, _, _, lP, cnP, mc_of hlP, ⟨_, _, _, _, _, _, lcP, hvP, hfP⟩, _, _, _, lxP⟩, top := top_, loc := rfl, hks := rfl, hkc := rfl, fne := by decide, fdb := by decide, bnd := bnd_passage }
  have EB : ETxt P K mg "NoBeat" "beat" "no such beat here" cB fIB := { gC := PySem.W.mg_of X G gB, noS := PySem.W.mg_none_of X G noS, cls := ⟨_, _, _, _, nmB, qB, NB, bsB, _, snB, subB, abB, colB, ddB, m0B, m1B, m2B, m3B, m5B, PySem.F.excBase_LookupError, chain_KE, xBL⟩, ini := ⟨_, _, initF_KeyError, suB, stB⟩, noT := noT, self := mrB, sa := saB, ga := gaB, gg := ggB, noF := nfB, iC := icB, tC := tcB, kC := kcB, exC := exB, tyC := tyB, hdC := hdB, fn := ⟨_, _, _, _, _, _, _, _, _, _, _, _, _, _, _, _, _, _, _, _, _, _, lB, cnB, mc_of hlB, ⟨_, _, _, _, _, _, lcB, hvB, hfB⟩, _, _, _, lxB⟩, top := top_, loc := rfl, hks := rfl, hkc := rfl, fne := by decide, fdb := by decide, bnd := bnd_beat }
  have EF : ETxt P K mg "Refused" "at" "no such value here" cF fIF := { gC := PySem.W.mg_of X G gF, noS := PySem.W.mg_none_of X G noS, cls := ⟨_, _, _, _, nmF, qF, NF, bsF, _, snF, subF, abF, colF, ddF, m0F, m1F, m2F, m3F, m5F, PySem.F.excBase_ValueError, chain_VE cO, xFL⟩, ini := ⟨_, _, initF_ValueError, suF, stF⟩, noT := noT, self := mrF, sa := saF, ga := gaF, gg := ggF, noF := nfF, iC := icF, tC := tcF, kC := kcF, exC := exF, tyC := tyF, hdC := hdF, fn := ⟨_, _, _, _, _, _, _, _, _, _, _, _, _, _, _, _, _, _, _, _, _, _, lF, cnF, mc_of hlF, ⟨_, _, _, _, _, _, lcF, hvF, hfF⟩, _, _, _, lxF⟩, top := top_, loc := rfl, hks := rfl, hkc := rfl, fne := by decide, fdb := by decide, bnd := bnd_at }
  have DR : ExcD K cR := ⟨isR, gaR, ggR, exR, klR, gn, tk, moR⟩
  have DP : ExcD K cP := ⟨isP, gaP, ggP, exP, klP, gn, tk, moP⟩
  have DB : ExcD K cB := ⟨isB, gaB, ggB, exB, klB, gn, tk, moB⟩
  have DF : ExcD K cF := ⟨isF, gaF, ggF, exF, klF, gn, tk, moF⟩
  have Ttx : Tx P K mg := { bi := ⟨PySem.W.mg_none_of X G b_isinstance, PySem.W.mg_none_of X G b_int, PySem.W.mg_none_of X G b_bool, PySem.W.mg_none_of X G b_list, PySem.W.mg_none_of X G b_tuple, PySem.W.mg_none_of X G b_all, PySem.W.mg_none_of X G b_zip, PySem.W.mg_none_of X G b_len, PySem.W.mg_none_of X G b_range, PySem.W.mg_none_of X G b_abs, PySem.W.mg_none_of X G b_repr, PySem.W.mg_none_of X G b_set, PySem.W.mg_none_of X G b_sorted, PySem.W.mg_none_of X G b_KeyError⟩, d8 := ⟨_, _, fun_mk (st := top 8) l8 e8 k8, PySem.W.mg_of X G a8⟩, d9 := ⟨_, _, fun_mk (st := top 9) l9 e9 k9, PySem.W.mg_of X G a9⟩, d10 := ⟨_, _, fun_mk (st := top 10) l10 e10 k10, PySem.W.mg_of X G a10⟩, d11 := ⟨_, _, fun_mk (st := top 11) l11 e11 k11, PySem.W.mg_of X G a11⟩, d12 := ⟨_, _, fun_mk (st := top 12) l12 e12 k12, PySem.W.mg_of X G a12⟩, d13 := ⟨_, _, fun_mk (st := top 13) l13 e13 k13, PySem.W.mg_of X G a13⟩, d22 := ⟨_, _, fun_mk (st := top 22) l22 e22 k22, PySem.W.mg_of X G a22⟩, d23 := ⟨_, _, fun_mk (st := top 23) l23 e23 k23, PySem.W.mg_of X G a23⟩, d24 := ⟨_, _, fun_mk (st := top 24) l24 e24 k24, PySem.W.mg_of X G a24⟩, d25 := ⟨_, _, fun_mk (st := top 25) l25 e25 k25, PySem.W.mg_of X G a25⟩, d26 := ⟨_, _, fun_mk (st := top 26) l26 e26 k26, PySem.W.mg_of X G a26⟩, d27 := ⟨_, _, fun_mk (st := top 27) l27 e27 k27, PySem.W.mg_of X G a27⟩, d28 := ⟨_, _, fun_mk (st := top 28) l28 e28 k28, PySem.W.mg_of X G a28⟩, d29 := ⟨_, _, fun_mk (st := top 29) l29 e29 k29, PySem.W.mg_of X G a29⟩, d30 := ⟨_, _, fun_mk (st := top 30) l30 e30 k30, PySem.W.mg_of X G a30⟩, d31 := ⟨_, _, fun_mk (st := top 31) l31 e31 k31, PySem.W.mg_of X G a31⟩, d32 := ⟨_, _, fun_mk (st := top 32) l32 e32 k32, PySem.W.mg_of X G a32⟩, d33 := ⟨_, _, fun_mk (st := top 33) l33 e33 k33, PySem.W.mg_of X G a33⟩, d34 := ⟨_, _, fun_mk (st := top 34) l34 e34 k34, PySem.W.mg_of X G a34⟩, d35 := ⟨_, _, fun_mk (st := top 35) l35 e35 k35, PySem.W.mg_of X G a35⟩, d36 := ⟨_, _, fun_mk (st := top 36) l36 e36 k36, PySem.W.mg_of X G a36⟩, d38 := ⟨_, _, fun_mk (st := top 38) l38 e38 k38, PySem.W.mg_of X G a38⟩, d39 := ⟨_, _, fun_mk (st := top 39) l39 e39 k39, PySem.W.mg_of X G a39⟩, d40 := ⟨_, _, fun_mk (st := top 40) l40 e40 k40, PySem.W.mg_of X G a40⟩, d42 := ⟨_, _, fun_mk (st := top 42) l42 e42 k42, PySem.W.mg_of X G a42⟩, d43 := ⟨_, _, fun_mk (st := top 43) l43 e43 k43, PySem.W.mg_of X G a43⟩, d44 := ⟨_, _, fun_mk (st := top 44) l44 e44 k44, PySem.W.mg_of X G a44⟩, d45 := ⟨_, _, fun_mk (st := top 45) l45 e45 k45, PySem.W.mg_of X G a45⟩, d46 := ⟨_, _, fun_mk (st := top 46) l46 e46 k46, PySem.W.mg_of X G a46⟩, d47 := ⟨_, _, fun_mk (st := top 47) l47 e47 k47, PySem.W.mg_of X G a47⟩, c15 := ⟨_, PySem.W.mg_of X G c15⟩, c16 := ⟨_, PySem.W.mg_of X G c16⟩, c17 := ⟨_, PySem.W.mg_of X G c17⟩, c18 := ⟨_, PySem.W.mg_of X G c18⟩, c19 := ⟨_, PySem.W.mg_of X G c19⟩, c20 := ⟨_, PySem.W.mg_of X G c20⟩, c21 := ⟨_, PySem.W.mg_of X G c21⟩ }
  have HX : Hx P K mg cR cP cB cF cO := { x := ⟨⟨_, ER⟩, ⟨_, EP⟩, ⟨_, EB⟩, ⟨_, EF⟩⟩, dR := DR, dP := DP, dB := DB, dF := DF, rr := exm_of exR isR tyR qRR, pr := exm_of exR isR tyR qPR, pp := exm_of exP isP tyP qPP, br := exm_of exR isR tyR qBR, bp := exm_of exP isP tyP qBP, bb := exm_of exB isB tyB qBB, fr := exm_of exR isR tyR qFR, fp := exm_of exP isP tyP qFP, fb := exm_of exB isB tyB qFB, ff := exm_of exF isF tyF qFF, kR := kit_KE stR, kP := kit_KE stP, kB := kit_KE stB, kF := kit_own isO tyO qO, gO := PySem.W.mg_of X G gO }
  exact ⟨K, cR, cP, cB, cF, cO, f47, c, pT, _, X, Ttx, HX, fun base TB => ⟨⟨_, _, _, _, _, _, _, _, l47⟩, e47, k47, PySem.W.mg_of X G a47, TB⟩, fun_mk (st := top 48) l48 e48 k48, hT, nT, PySem.W.codeHd_of_K X hC⟩
end K5
open PySem PySem.W PyProof.Rows
set_option Elab.async false
namespace K5
open PySem PySem.Spec PyProof.Rows L2 PySem.K5X LamX
theorem walk_k5 {l : PySem.W.OpenLaw} {q : Program} {loose : List Str} {XP : (Str → Option Value) → Heap → Prop} {YP : World → Heap → Prop} {d : DefRec} (hn : l.most = some 63) (hdf : d.params.defaults = []) (hnm : d.name = "law")
    (F : ∀ (w : World) (mg : Str → Option Value) (fa : Addr) (h : Heap), YP w h → h.Ns mainGlobals mg → mg "law" = some (.ref fa) → ∃ (K : PySem.W.Frag) (cR cP cB cF cO f c pT : Addr) (fdL : FuncData),
      K.In h ∧ Tx l.prog K mg ∧ Hx l.prog K mg cR cP cB cF cO ∧ (∀ base, TabB base mg c pT → DfL K mg base f c pT) ∧ Fun K "law" "law" sLaw fa fdL ∧ h.get? pT = some (PySem.W.tabObj #[]) ∧ K.lookup pT = none ∧ PySem.W.CodeHd h c pT) :
    PySem.W.WalkO q loose XP YP l.row.toRowW d [] (fun f vs => PySem.call f vs) := by
  refine Att.attach_callB hn hdf fun w s₀ s₁ mg mb fa o pm cd doc a vs ns G Y ho hd hcd hmg hobj hints hlen hbits hg => ?_
  rw [hnm] at hmg
  obtain ⟨K, cR, cP, cB, cF, cO, f, c, pT, fdL, KX, T, HX, D, L, hT, nT, C⟩ := F w mg fa _ Y G.T.g hmg
  refine law_end KX G.T.g G.T.b G.T.builtins G.T.nolimit hg hT nT C G.T.bmain hobj hints (Nat.le_trans hlen (by decide)) fun base H e0 TB hH hS => ?_
  exact law_runs (Tb := [(pT, qNo)]) T HX (D base TB) L (List.mem_singleton.mpr rfl) (fun p hp _ => by rw [List.mem_singleton.mp hp]) rfl ⟨rfl, by decide, by decide⟩ e0 hS hlen fun p hp => by
    rw [List.mem_singleton.mp hp]
    exact TabS.nil hH
end K5
set_option maxRecDepth 100000 in
set_option maxHeartbeats 0 in
theorem PySem.Challenge.cw_outsoonest_k05_whole_edits_of_houses_holds : PySem.Challenge.rw_outsoonest_k05_whole_edits_of_houses.Holds := by
  w_on; o_law; k_head; (case hw => w_witness2)
  k_fill
  refine K5.walk_k5 (l := PySem.Challenge.rw_outsoonest_k05_whole_edits_of_houses) rfl rfl rfl ?F
  case F =>
    intro w mg fa h Y G hmg
    have KX := km_in_of Y
    have hT := km_tabs_of Y 321 (List.mem_singleton.mpr rfl)
    refine' K5.all_mk (pT := 321) KX G hmg hT
        ?gO ?noS ?noT ?b_isinstance ?b_int ?b_bool ?b_list ?b_tuple ?b_all ?b_zip ?b_len ?b_range ?b_abs ?b_repr ?b_set ?b_sorted ?b_KeyError ?c15 ?c16 ?c17 ?c18 ?c19 ?c20 ?c21 ?a8 ?l8 ?e8 ?k8 ?a9 ?l9 ?e9 ?k9 ?a10 ?l10 ?e10 ?k10 ?a11 ?l11 ?e11 ?k11 ?a12 ?l12 ?e12 ?k12 ?a13 ?l13 ?e13 ?k13 ?a22 ?l22 ?e22 ?k22 ?a23 ?l23 ?e23 ?k23 ?a24 ?l24 ?e24 ?k24 ?a25 ?l25 ?e25 ?k25 ?a26 ?l26 ?e26 ?k26 ?a27 ?l27 ?e27 ?k27 ?a28 ?l28 ?e28 ?k28 ?a29 ?l29 ?e29 ?k29 ?a30 ?l30 ?e30 ?k30 ?a31 ?l31 ?e31 ?k31 ?a32 ?l32 ?e32 ?k32 ?a33 ?l33 ?e33 ?k33 ?a34 ?l34 ?e34 ?k34 ?a35 ?l35 ?e35 ?k35 ?a36 ?l36 ?e36 ?k36 ?a38 ?l38 ?e38 ?k38 ?a39 ?l39 ?e39 ?k39 ?a40 ?l40 ?e40 ?k40 ?a42 ?l42 ?e42 ?k42 ?a43 ?l43 ?e43 ?k43 ?a44 ?l44 ?e44 ?k44 ?a45 ?l45 ?e45 ?k45 ?a46 ?l46 ?e46 ?k46 ?a47 ?l47 ?e47 ?k47 ?a48 ?l48 ?e48 ?k48 ?gR ?xRL ?suR ?stR ?mrR ?saR ?gaR ?ggR ?nfR ?icR ?tcR ?kcR ?exR ?tyR ?hdR ?isR ?klR ?moR ?lR ?cnR ?lcR ?hvR ?hfR ?lxR ?hlR ?gP ?xPL ?suP ?stP ?mrP ?saP ?gaP ?ggP ?nfP ?icP ?tcP ?kcP ?exP ?tyP ?hdP ?isP ?klP ?moP ?lP ?cnP ?lcP ?hvP ?hfP ?lxP ?hlP ?gB ?xBL ?suB ?stB ?mrB ?saB ?gaB ?ggB ?nfB ?icB ?tcB ?kcB ?exB ?tyB ?hdB ?isB ?klB ?moB ?lB ?cnB ?lcB ?hvB ?hfB ?lxB ?hlB ?gF ?xFL ?suF ?stF ?mrF ?saF ?gaF ?ggF ?nfF ?icF ?tcF ?kcF ?exF ?tyF ?hdF ?isF ?klF ?moF ?lF ?cnF ?lcF ?hvF ?hfF ?lxF ?hlF ?gn ?tk ?top_ ?qRR ?qPR ?qPP ?qBR ?qBP ?qBB ?qFR ?qFP ?qFB ?qFF ?nT ?hC ?isO ?tyO ?qO
    (case gO => k_is)
    (case noS => k_is)
    (case noT => k_is)
    (case b_isinstance => k_is)
    (case b_int => k_is)
    (case b_bool => k_is)
    (case b_list => k_is)
    (case b_tuple => k_is)
    (case b_all => k_is)
    (case b_zip => k_is)
    (case b_len => k_is)
    (case b_range => k_is)
    (case b_abs => k_is)
    (case b_repr => k_is)
    (case b_set => k_is)
    (case b_sorted => k_is)
    (case b_KeyError => k_is)
    (case c15 => k_is)
    (case c16 => k_is)
    (case c17 => k_is)
    (case c18 => k_is)
    (case c19 => k_is)
    (case c20 => k_is)
    (case c21 => k_is)
    (case a8 => k_is)
    (case l8 => k_is)
    (case e8 => k_is)
    (case k8 => k_is)
    (case a9 => k_is)
    (case l9 => k_is)
    (case e9 => k_is)
    (case k9 => k_is)
    (case a10 => k_is)
    (case l10 => k_is)
    (case e10 => k_is)
    (case k10 => k_is)
    (case a11 => k_is)
    (case l11 => k_is)
    (case e11 => k_is)
    (case k11 => k_is)
    (case a12 => k_is)
    (case l12 => k_is)
    (case e12 => k_is)
    (case k12 => k_is)
    (case a13 => k_is)
    (case l13 => k_is)
    (case e13 => k_is)
    (case k13 => k_is)
    (case a22 => k_is)
    (case l22 => k_is)
    (case e22 => k_is)
    (case k22 => k_is)
    (case a23 => k_is)
    (case l23 => k_is)
    (case e23 => k_is)
    (case k23 => k_is)
    (case a24 => k_is)
    (case l24 => k_is)
    (case e24 => k_is)
    (case k24 => k_is)
    (case a25 => k_is)
    (case l25 => k_is)
    (case e25 => k_is)
    (case k25 => k_is)
    (case a26 => k_is)
    (case l26 => k_is)
    (case e26 => k_is)
    (case k26 => k_is)
    (case a27 => k_is)
    (case l27 => k_is)
    (case e27 => k_is)
    (case k27 => k_is)
    (case a28 => k_is)
    (case l28 => k_is)
    (case e28 => k_is)
    (case k28 => k_is)
    (case a29 => k_is)
    (case l29 => k_is)
    (case e29 => k_is)
    (case k29 => k_is)
    (case a30 => k_is)
    (case l30 => k_is)
    (case e30 => k_is)
    (case k30 => k_is)
    (case a31 => k_is)
    (case l31 => k_is)
    (case e31 => k_is)
    (case k31 => k_is)
    (case a32 => k_is)
    (case l32 => k_is)
    (case e32 => k_is)
    (case k32 => k_is)
    (case a33 => k_is)
    (case l33 => k_is)
    (case e33 => k_is)
    (case k33 => k_is)
    (case a34 => k_is)
    (case l34 => k_is)
    (case e34 => k_is)
    (case k34 => k_is)
    (case a35 => k_is)
    (case l35 => k_is)
    (case e35 => k_is)
    (case k35 => k_is)
    (case a36 => k_is)
    (case l36 => k_is)
    (case e36 => k_is)
    (case k36 => k_is)
    (case a38 => k_is)
    (case l38 => k_is)
    (case e38 => k_is)
    (case k38 => k_is)
    (case a39 => k_is)
    (case l39 => k_is)
    (case e39 => k_is)
    (case k39 => k_is)
    (case a40 => k_is)
    (case l40 => k_is)
    (case e40 => k_is)
    (case k40 => k_is)
    (case a42 => k_is)
    (case l42 => k_is)
    (case e42 => k_is)
    (case k42 => k_is)
    (case a43 => k_is)
    (case l43 => k_is)
    (case e43 => k_is)
    (case k43 => k_is)
    (case a44 => k_is)
    (case l44 => k_is)
    (case e44 => k_is)
    (case k44 => k_is)
    (case a45 => k_is)
    (case l45 => k_is)
    (case e45 => k_is)
    (case k45 => k_is)
    (case a46 => k_is)
    (case l46 => k_is)
    (case e46 => k_is)
    (case k46 => k_is)
    (case a47 => k_is)
    (case l47 => k_is)
    (case e47 => k_is)
    (case k47 => k_is)
    (case a48 => k_is)
    (case l48 => k_is)
    (case e48 => k_is)
    (case k48 => k_is)
    (case gR => k_is)
    (case xRL => k_is)
    (case suR => kernel_rfl)
    (case stR => k_is)
    (case mrR => k_is)
    (case saR => k_is)
    (case gaR => k_is)
    (case ggR => k_is)
    (case nfR => k_is)
    (case icR => k_is)
    (case tcR => k_is)
    (case kcR => k_is)
    (case exR => k_is)
    (case tyR => k_is)
    (case hdR => k_is)
    (case isR => k_is)
    (case klR => k_is)
    (case moR => k_is)
    (case lR => k_is)
    (case cnR => k_is)
    (case lcR => k_is)
    (case hvR => rfl)
    (case hfR => rfl)
    (case lxR => k_is)
    (case hlR => rfl)
    (case gP => k_is)
    (case xPL => k_is)
    (case suP => kernel_rfl)
    (case stP => k_is)
    (case mrP => k_is)
    (case saP => k_is)
    (case gaP => k_is)
    (case ggP => k_is)
    (case nfP => k_is)
    (case icP => k_is)
    (case tcP => k_is)
    (case kcP => k_is)
    (case exP => k_is)
    (case tyP => k_is)
    (case hdP => k_is)
    (case isP => k_is)
    (case klP => k_is)
    (case moP => k_is)
    (case lP => k_is)
    (case cnP => k_is)
    (case lcP => k_is)
    (case hvP => rfl)
    (case hfP => rfl)
    (case lxP => k_is)
    (case hlP => rfl)
    (case gB => k_is)
    (case xBL => k_is)
    (case suB => kernel_rfl)
    (case stB => k_is)
    (case mrB => k_is)
    (case saB => k_is)
    (case gaB => k_is)
    (case ggB => k_is)
    (case nfB => k_is)
    (case icB => k_is)
    (case tcB => k_is)
    (case kcB => k_is)
    (case exB => k_is)
    (case tyB => k_is)
    (case hdB => k_is)
    (case isB => k_is)
    (case klB => k_is)
    (case moB => k_is)
    (case lB => k_is)
    (case cnB => k_is)
    (case lcB => k_is)
    (case hvB => rfl)
    (case hfB => rfl)
    (case lxB => k_is)
    (case hlB => rfl)
    (case gF => k_is)
    (case xFL => k_is)
    (case suF => kernel_rfl)
    (case stF => k_is)
    (case mrF => k_is)
    (case saF => k_is)
    (case gaF => k_is)
    (case ggF => k_is)
    (case nfF => k_is)
    (case icF => k_is)
    (case tcF => k_is)
    (case kcF => k_is)
    (case exF => k_is)
    (case tyF => k_is)
    (case hdF => k_is)
    (case isF => k_is)
    (case klF => k_is)
    (case moF => k_is)
    (case lF => k_is)
    (case cnF => k_is)
    (case lcF => k_is)
    (case hvF => rfl)
    (case hfF => rfl)
    (case lxF => k_is)
    (case hlF => rfl)
    (case gn => k_is)
    (case tk => k_is)
    (case top_ => rfl)
    (case qRR => k_is)
    (case qPR => k_is)
    (case qPP => k_is)
    (case qBR => k_is)
    (case qBP => k_is)
    (case qBB => k_is)
    (case qFR => k_is)
    (case qFP => k_is)
    (case qFB => k_is)
    (case qFF => k_is)
    (case nT => kernel_rfl)
    (case hC => kernel_rfl)
    (case isO => k_is)
    (case tyO => k_is)
    (case qO => k_is)
