import PyProof.Rows.All
import Wide.All
import OpenK.AllK
import Wide.FinOn
import KE.KStateDown
import KE.KExcSuper
import HandS.ForExc
import HandS.ExcInit
import HandS.HeadWalk
import HandS.ExcValue
import HandS.IsInst
import HandS.ExcIs
import HandS.ExcField
import KE.KExcIs
import HandS.More
import HandS.Words
import HandS.WordsExc
import HandS.Defaults
import HandS.Head0
import HandS.Head1
import HandS.Head2
import HandS.HeadEnd
import HandS.HeadHook1
import HandS.HeadHook2
import HandS.ForMost
import HandS.EndBits
import PySem.Challenge.RW_lendroads_k96_errors_and_their_fields
set_option Elab.async false
set_option linter.all false
set_option maxRecDepth 100000
set_option maxHeartbeats 0
/-! own exceptions whose __init__ says super().__init__(x); self.f = x, at the library's level -/
namespace PySem
namespace SX
open PySem.W PySem.Calls PyProof.Rows PySem.HandSPX
/-! ### what a built-in exception class must say, as the base of an own one: B its name, newId its maker (perhaps a base's), initId its __init__, bmB its chain -/
structure BaseF (B newId initId : String) (bmB : List Value) : Prop where
  nw : ∃ (BN iN : String) (bmN : List Value), ExcBaseFacts BN newId iN bmN ∧ bmB.contains (.type BN) = true
  n2 : bmB.contains (.type "AttributeError") = false
  n3 : bmB.contains (.type "NameError") = false
  ini : Slot B "__init__" initId
  ent : entryFor table initId = some Builtin.«BaseException.__init__»
  knd : builtinKind initId = some .slot
  row : Manifest.signature? initId = some ⟨.positional, "*", B, .self, [⟨"args", .varPos, false⟩]⟩
  nst : (B != "*") = true
  KF : KxsFacts B initId
  SF : StoreFacts B bmB "object.__setattr__" "object"
theorem BaseF.of {B newId initId : String} {bmB : List Value} (FB : ExcBaseFacts B newId initId bmB) (KF : KxsFacts B initId) (SF : StoreFacts B bmB "object.__setattr__" "object") : BaseF B newId initId bmB :=
  ⟨⟨B, initId, bmB, FB, FB.hasB⟩, FB.noAttr, FB.noName, FB.init, FB.initEntry, FB.initKind, FB.initRow, FB.noStar, KF, SF⟩
section
variable {prog : Program} {w : World} {M : Model} {A : Around} {E : Value → Shared → Prop} {h : Heap} {g : Array GenState} {d : Drawn} {t : Nat} {os : OsState}
variable {nm q : Str} {C N : Addr} {bs bm bmB : List Value} {hdct : Bool} {sn : List Str} {sub : List Value} {ab : Bool} {col : Option Bool} {dd : Option Addr} {k0 k1 k2 k3 k5 : Option Value} {B newId initId : String}
/-- the bound built-in __init__'s own check -/
theorem chk_bound (FB : BaseF B newId initId bmB) {e : Addr} {oe : Obj} {rest : List Value} {Q : Unit → Shared → Prop} (hC : h.get? C = some (excClassObj nm q C N bs bm hdct sn sub ab col dd k0 k1 k2 k3 k5 newId)) (he : h.get? e = some oe) (hc : oe.cls = .ref C) (hQ : Q () ⟨h, g, d, t, os⟩) :
    wpAny M A (checkBoundCall initId ⟨.ref e :: rest, []⟩) Q E ⟨h, g, d, t, os⟩ := by
  have short := FB.nst
  simp only [checkBoundCall, FB.knd, FB.row]
  repeat (first | with_reducible refine wpAny_loadPart_at hC ?_ | (with_reducible refine wpAny_loadPart_at he ?_; rw [hc]) | wp_step)
  refine wpAny_onRaise ?_
  have free : ∀ (x y : String) (n : Nat), Bind.check ⟨.positional, "*", B, .self, [⟨"args", .varPos, false⟩]⟩ x y n (List.map (fun z => z.fst) ({ pos := Value.ref e :: rest } : Args).kw) = pure () := fun x y n => check_star_args _ _ _ _ _ _
  rw [free]
  exact wpAny_pure hQ
theorem call_mw (FB : BaseF B newId initId bmB) {u e t0 : Addr} {rest : List Value} {Q : Value → Shared → Prop} (hC : h.get? C = some (excClassObj nm q C N bs bm hdct sn sub ab col dd k0 k1 k2 k3 k5 newId)) (he : h.get? e = some (excO C t0)) (hu : h.get? u = some (kxs_mw initId e))
    (hz : rest.length ≤ sizeLine) (hQ : ∀ h' t1, (∀ b o, b ≠ e → h.get? b = some o → h'.get? b = some o) → h'.get? e = some (excO C t1) → Q .none ⟨h', g, d, t, os⟩) : wpAny (model prog w) A (call (.ref u) rest) Q E ⟨h, g, d, t, os⟩ := by
  have isM : (Value.type "method-wrapper" == Value.type "method" || Value.type "method-wrapper" == Value.type "builtin_function_or_method" || Value.type "method-wrapper" == Value.type "method-wrapper") = true := by decide
  refine wpAny_call (codeAny_of_tree ?_)
  show wpAny _ A.in1 (callAny (.ref u) ⟨rest, []⟩) _ _ _
  simp only [callAny]
  refine wpAny_bind (wpAny_load hu ?_)
  simp only [kxs_mw, isM, if_true]
  refine KFB.if_so (by decide) (wpAny_bind (chk_bound FB hC he rfl (wpAny_bind (wpAny_pure (wpAny_pure ⟨plainId_quiet FB.ini.plain _, codeAny_builtin FB.ent ?_⟩)))))
  exact exc_init_tree (cls := .ref C) (t0 := t0) (dv := none) (c2 := .none) (c3 := .none) (b4 := .bool false) he hz fun h' k e' _ => hQ h' _ k e'
end
/-! ### the text of __init__ -/
structure Ps where
  (a1 a2 s1 s2 s3 s4 s5 s6 t1 t2 t3 t4 : Pos)
def iA (fld : Str) (p : Ps) : Arguments := { posonlyargs := [], args := [{ arg := "self", annotation := none, pos := p.a1 }, { arg := fld, annotation := none, pos := p.a2 }], vararg := none, kwonlyargs := [], kw_defaults := [], kwarg := none, defaults := [] }
def iB (fld : Str) (p : Ps) : List Stmt := [.Expr (.Call (.Attribute (.Call (.Name "super" p.s1) [] [] p.s2) "__init__" p.s3) [.Name fld p.s4] [] p.s5) p.s6, .Assign [.Attribute (.Name "self" p.t1) fld p.t2] (.Name fld p.t3) p.t4]
def iS (fld : Str) : Scope := { kind := .function, names := [("self", .local), (fld, .local), ("__class__", .free), ("super", .globalImplicit)], isGenerator := false, isCoroutine := false, more := [] }
structure FldOk (fld : Str) : Prop where
  self : (fld == ("self" : Str)) = false
  cls : (fld == ("__class__" : Str)) = false
  sup : (fld == ("super" : Str)) = false
  dbg : (fld == ("__debug__" : Str)) = false
  cdi : (fld == ("__classdict__" : Str)) = false
theorem ne_flip {a b : Str} (h : (a == b) = false) : (b == a) = false := by
  rw [beq_eq_false_iff_ne] at h ⊢
  exact Ne.symm h
theorem iS_fld (fld : Str) (f : FldOk fld) : (iS fld).names.lookup fld = some .local := by
  show (match fld == ("self" : Str) with | true => some NameKind.local | false => (match fld == fld with | true => some NameKind.local | false => _)) = some NameKind.local
  rw [f.self, beq_self_eq_true]
theorem iS_sup (fld : Str) (f : FldOk fld) : (iS fld).names.lookup ("super" : Str) = some .globalImplicit := by
  show (match ("super" : Str) == fld with | true => some NameKind.local | false => some NameKind.globalImplicit) = some NameKind.globalImplicit
  rw [ne_flip f.sup]
theorem iS_cls (fld : Str) (f : FldOk fld) : (iS fld).names.lookup ("__class__" : Str) = some .free := by
  show (match ("__class__" : Str) == fld with | true => some NameKind.local | false => some NameKind.free) = some NameKind.free
  rw [ne_flip f.cls]
structure InitEnd (fld : Str) (h h' : Heap) (x C dx : Addr) (v : Value) : Prop where
  keep : ∀ b o, b ≠ x → h.get? b = some o → h'.get? b = some o
  obj : ∃ t1 : Addr, h'.get? x = some { cls := .ref C, dict := some dx, data := .fields #[.ref t1, .none, .none, .none, .bool false, .none] }
  dbig : h.objs.size ≤ dx
  dne : dx ≠ x
  ns : h'.Ns1 dx (fun y => if y = fld then some v else none)
/-- what the written part says of such a class -/
structure Sx (P : Program) (K : Frag) (C fI : Addr) (fld qual : Str) (B newId initId : String) (bmB : List Value) : Prop where
  FB : BaseF B newId initId bmB
  q : excInitIn K C bmB newId = true
  ov : excOver K C bmB = true
  hd : hasDictIn K C = true
  sup : ks_superIn K C C "__init__" = some (some (.builtin initId))
  opq : nsIn K cStatics "thirdparty.any" = some none
  sa : findIn K (.ref C) "__setattr__" = some (some (.builtin "object.__setattr__"))
  noN : findIn K (.ref C) fld = some none
  tk : takerIn K C fld = some none
  subB : subIn K (.ref C) (.type B) = some true
  subS : mroIn K C (.ref C) = some true
  noSup : nsIn K mainGlobals "super" = some none
  top : (P.main.scope.names.lookup ("super" : Str)).isSome = false
  fn : ∃ (oc : Value) (od : Option Addr) (doc pm : Value) (an : Option Addr) (cda cc : Addr) (ct : Value) (osl : Array (Option Value)) (p : Ps),
    K.lookup fI = some ⟨oc, od, .func (ksFn "__init__" qual (iA fld p) (iB fld p) (iS fld) .none .none doc pm an (.ref cda) ct cc), osl⟩ ∧ codeIn K (.ref cda) qual = true ∧
    (∃ cl cld csl, K.lookup cc = some ⟨cl, cld, .cell (some (.ref C)), csl⟩) ∧ ∃ ccl cdd vs ccs file tf, K.lookup cda = some ⟨ccl, cdd, .fields vs, ccs⟩ ∧ vs[2]? = some (.str file tf) ∧ ((P.main.file : Str) == file) = true ∧ (p.s3.endLine == p.s5.line) = true
section
variable {prog : Program} {w : World} {A : Around} {E : Value → Shared → Prop} {R : Result → Shared → Prop} {s : Shared} {K : Frag} {mg mb : Str → Option Value} {C fI : Addr} {fld qual : Str} {B newId initId : String} {bmB : List Value}
theorem clsIn_of (X : K.In s.heap) (T : Sx prog K C fI fld qual B newId initId bmB) : ∃ cd, clsIn K C = some cd ∧ (∃ bm, cd.mro = .ref C :: bm ∧ excTail bmB bm = true) := by
  have e := T.ov
  unfold excOver at e
  cases hc : clsIn K C with
  | none => rw [hc] at e; cases e
  | some cd =>
    rw [hc] at e
    refine ⟨cd, rfl, ?_⟩
    have e2 : (match cd.mro with | .ref C' :: bm => C' == C && excTail bmB bm | _ => false) = true := e
    split at e2
    · rename_i C' bm hm
      obtain ⟨e3, e4⟩ := Bool.and_eq_true_iff.mp e2
      rw [beq_iff_eq.mp e3] at hm
      exact ⟨bm, hm, e4⟩
    · cases e2
/-- a dict of one entry -/
theorem ns_one {h : Heap} {dx : Addr} {hsh : Int} {k : Str} {tk : Tok} {v : Value} {n : Nat} (e : h.get? dx = some (dictOf [⟨hsh, .str k tk, v⟩] n)) : h.Ns1 dx (fun y => if y = k then some v else none) := by
  refine ⟨_, _, _, e, rfl, fun z hz => ?_, ?_, fun y => ?_⟩
  · have hz' : z = ⟨hsh, .str k tk, v⟩ := by simpa using hz
    exact ⟨k, tk, by rw [hz']⟩
  · exact List.pairwise_singleton _ _
  · show nsFind _ y = (if y = k then some v else none)
    by_cases hy : y = k
    · subst hy
      rw [if_pos rfl]
      simp [nsFind, findBy, Value.isStr]
    · rw [if_neg hy]
      have hk : (k == y) = false := by simpa using Ne.symm hy
      simp [nsFind, findBy, Value.isStr, hk]
/-- __init__ run -/
theorem sx_init (T : Sx prog K C fI fld qual B newId initId bmB) {x t0 : Addr} {v : Value} {args : Args} (X : K.In s.heap) (hg : s.heap.Ns mainGlobals mg) (hb : s.heap.Ns builtinsNs mb) (hbb : mb "super" = bootBuiltins "super") (hlim : s.heap.NoLimit) (hx : s.heap.get? x = some (excO C t0)) (hnx : K.lookup x = none) (hroom : A.depth < recursionLimit)
    (hbind : ∀ fd, (∃ oc od osl, K.lookup fI = some ⟨oc, od, .func fd, osl⟩) → BindsTo s fd args [("self", .ref x), (fld, v)]) (hf : FldOk fld)
    (hq : ∀ h' tk dx, InitEnd fld s.heap h' x C dx v → R (.ok (.ret .none)) { s with heap := h', toks := tk }) :
    codeAny (model prog w) A (.call (.ref fI) args) R s := by
  obtain ⟨oc, od, doc, pm, an, cda, cc, ct, osl, p, ho, hcd, ⟨cl, cld, csl, hcell⟩, ccl, cdd, vs, ccs, file, tf, hcode, hvs, hfile, hl⟩ := T.fn
  obtain ⟨cd, hcl, _⟩ := clsIn_of X T
  have hlS := iS_fld fld hf
  refine ks_codeAny_call_defAt (fd := ksFn "__init__" qual (iA fld p) (iB fld p) (iS fld) .none .none doc pm an (.ref cda) ct cc) (body := iB fld p) (binds := [("self", .ref x), (fld, v)]) hroom (X _ _ ho) rfl hlim (codeRec_of X hcd) rfl (hbind _ ⟨_, _, _, ho⟩) (fun y hy => ?_) (fun y hy => ?_) (fun h₁ hns hk₁ => ?_) rfl rfl rfl
  · have hy' : y ∈ [(("self" : Str), NameKind.local), (fld, .local), ("__class__", .free), ("super", .globalImplicit)] := hy
    simp only [List.mem_cons, List.not_mem_nil, or_false] at hy'
    rcases hy' with rfl | rfl | rfl | rfl <;> (intro z; cases z)
  · have hy' : y ∈ [(("self" : Str), Value.ref x), (fld, v)] := hy
    simp only [List.mem_cons, List.not_mem_nil, or_false] at hy'
    rcases hy' with rfl | rfl
    · rfl
    · exact hlS
  have X₁ : K.In h₁ := X.keeps hk₁
  have hself : (fun y => ([(("self" : Str), Value.ref x), (fld, v)] : List (Str × Value)).reverse.lookup y) "self" = some (.ref x) := by
    show (match ("self" : Str) == fld with | true => some v | false => _) = _
    rw [ne_flip hf.self]
    rfl
  have hval : (fun y => ([(("self" : Str), Value.ref x), (fld, v)] : List (Str × Value)).reverse.lookup y) fld = some v := by
    show (match fld == fld with | true => some v | false => _) = _
    rw [beq_self_eq_true]
  have hsz : ∀ {b o}, s.heap.get? b = some o → b ≠ s.heap.objs.size := fun e => Nat.ne_of_lt (Heap.lt_size e)
  have hx₁ := hk₁ _ _ hx
  have hxC : x ≠ C := ks_ne X (ox := excO C t0) (odx := none) ⟨hx, rfl, rfl, trivial⟩ hcl
  obtain ⟨nm, N, qn, bs, bm, hdct, sn, sub, ab, col, dd, k0, k1, k2, k3, k5, hC, hT⟩ := excInit_of X T.q
  have hD2 : (excClassObj nm qn C N bs bm hdct sn sub ab col dd k0 k1 k2 k3 k5 newId).data = .cls { name := nm, bases := bs, mro := .ref C :: bm, ns := N, qualname := qn, hasDict := hdct, slotNames := sn, subclasses := sub, abstract := ab, collection := col, hasDel := false } := rfl
  have hsup : mb "super" = some (.type "super") := hbb.trans (by first | rfl | kernel_rfl)
  obtain ⟨hp, g, d, t, os⟩ := s
  have he : ∀ env : Env, eval (.Call (.Attribute (.Call (.Name "super" p.s1) [] [] p.s2) "__init__" p.s3) [.Name fld p.s4] [] p.s5) env = (do
      let ov ← attributeBase (.Call (.Name "super" p.s1) [] [] p.s2) "__init__" env (eval (.Call (.Name "super" p.s1) [] [] p.s2) env)
      standAt p.s3.atName
      let (f, first) ← holding [ov] (getMethod ov "__init__" (L2.plainOf (.Call (.Name "super" p.s1) [] [] p.s2) env))
      callWith p.s5 f first (backTo p.s5 (starEach [.Name fld p.s4] env)) []) := fun env => by
    show (attributeBase _ _ env _ >>= fun ov => (standAt p.s3.atName >>= fun _ => methodCall _ _ p.s3 p.s5 env ov _ _ _)) = _
    refine bind_congr fun ov => bind_congr fun _ => ?_
    exact L2.mcall_line (by rfl) hl
  refine ks_wpAt_execs_cons (ks_wpAt_Expr_any (ks_wpAt_MethodCall ?_ (he _)))
  refine ks_wpAt_super_base (fd := ksFn "__init__" qual (iA fld p) (iB fld p) (iS fld) .none .none doc pm an (.ref cda) ct cc) (iS_sup fld hf) (iS_cls fld hf) (by decide +kernel) rfl (X₁ _ _ ho) rfl (ar := { arg := "self", annotation := none, pos := p.a1 }) rfl rfl (X₁ _ _ hcode) rfl hvs hfile T.top ?_
  refine ks_loadName_global rfl (iS_sup fld hf) (loadGlobal_builtin (hg.keeps hk₁) (mg_none_of X hg T.noSup) (hb.keeps hk₁) hsup ⟨rfl, ?_⟩)
  refine wpAny_loadName_free rfl (iS_cls fld hf) rfl ⟨_, X₁ _ _ hcell, rfl⟩ ?_
  refine wpAny_loadName_local rfl (by rfl) hns hself ?_
  refine ks_wpAny_isType_cls (hk₁ _ _ hC) hD2 ⟨rfl, ?_⟩
  refine ks_wpAny_call_super (hk₁ _ _ hC) hD2 hx₁ rfl (fun c z => by cases z) (looks_mroIn X₁ T.subS) (fun h₂ so₂ k₂ => ?_)
  -- the ledger: what was made here, over the entry's heap without x
  have X₀ : K.In (hideAll hp [x]) := fun a o e => hideAll_get _ (X a o e) fun z => by
    have ez : a = x := by simpa using z
    rw [ez, hnx] at e
    cases e
  have gone : ∀ b, (b = x ∨ hp.objs.size ≤ b) → (hideAll hp [x]).get? b = none := fun b hb => by
    cases q : (hideAll hp [x]).get? b with
    | none => rfl
    | some o =>
      rcases hb with z | z
      · rw [z, hideAll_none [x] (by simp)] at q
        cases q
      · exact absurd (Nat.lt_of_lt_of_le (Heap.lt_size (of_hideAll [x] q)) z) (Nat.lt_irrefl _)
  have xL : x ≠ hp.objs.size := hsz hx
  have L₁ : hp.objs.size < h₁.objs.size := hns.lt
  have F₂ : Fr (hideAll hp [x]) hp.objs.size h₂ (fun y => ([(("self" : Str), Value.ref x), (fld, v)] : List (Str × Value)).reverse.lookup y) :=
    ⟨hns.keeps k₂, fun b o e => k₂ _ _ (hk₁ _ _ (of_hideAll [x] e)), Nat.le_of_eq (hideAll_size _ _)⟩
  have N₂ : News (hideAll hp [x]) hp.objs.size h₂ [(h₁.objs.size, ks_superObj C x C), (x, excObj C t0 none .none)] := fun p hp' => by
    simp only [List.mem_cons, List.not_mem_nil, or_false] at hp'
    rcases hp' with rfl | rfl
    · exact ⟨so₂, Ne.symm (Nat.ne_of_lt L₁), gone _ (.inr (Nat.le_of_lt L₁))⟩
    · exact ⟨k₂ _ _ hx₁, xL, gone _ (.inl rfl)⟩
  have xs : h₁.objs.size ≠ x := Ne.symm (Nat.ne_of_lt (Heap.lt_size hx₁))
  refine kxs_method (s := ⟨h₂, g, d, _, os⟩) T.FB.KF F₂ X₀ N₂ (by simp) (ox := excObj C t0 none .none) (odx := none) ⟨k₂ _ _ hx₁, rfl, rfl, trivial⟩ T.opq T.sup T.subB (by decide +kernel) (fun q₃ h₃ F₃ N₃ l₃ => ?_)
  refine kxs_callWith1 (s := ⟨h₃, g, d, _, os⟩) N₃ (List.mem_cons_self ..) ?_
  refine spliced_cons ?_
  refine wpAny_Name ?_ hf.dbg
  refine wpAny_loadName_local rfl (iS_fld fld hf) F₃.ns hval ?_
  refine spliced_nil ⟨kxs_at N₃ (List.mem_cons_self ..), ?_⟩
  have q₃x : q₃ ≠ x := Ne.symm (Nat.ne_of_lt (l₃ (x, excObj C t0 none .none) (by simp)))
  refine call_mw T.FB (F₃.keep _ _ (hideAll_get _ hC (by simpa using Ne.symm hxC))) (N₃ (x, excObj C t0 none .none) (by simp)).1 (kxs_at N₃ (List.mem_cons_self ..)) (by rw [sizeLine_eq]; exact (by decide : 1 ≤ 16777216)) (fun h₄ t₄ k₄ hx₄ => ?_)
  have F₄ : Fr (hideAll hp [x]) hp.objs.size h₄ (fun y => ([(("self" : Str), Value.ref x), (fld, v)] : List (Str × Value)).reverse.lookup y) := by
    obtain ⟨oL, es, ep, hL, r⟩ := F₃.ns
    refine ⟨⟨oL, es, ep, k₄ _ _ (Ne.symm xL) hL, r⟩, fun b o e => k₄ _ _ (fun z => ?_) (F₃.keep b o e), F₃.above⟩
    rw [z, gone x (.inl rfl)] at e
    cases e
  have N₄ : News (hideAll hp [x]) hp.objs.size h₄ [(h₁.objs.size, ks_superObj C x C), (x, excObj C t₄ none .none)] := fun p hp' => by
    simp only [List.mem_cons, List.not_mem_nil, or_false] at hp'
    rcases hp' with rfl | rfl
    · exact ⟨k₄ _ _ xs (N₃ (h₁.objs.size, ks_superObj C x C) (by simp)).1, (N₃ (h₁.objs.size, ks_superObj C x C) (by simp)).2⟩
    · exact ⟨hx₄, xL, gone _ (.inl rfl)⟩
  show wpAt _ _ _ (execs _ _) _ _ _
  refine wpAt_of_wpAny ?_
  refine wpAny_execs_cons (plainObj_wpAny_Assign_Attribute ?_)
  refine wpAny_Name ?_ hf.dbg
  refine wpAny_loadName_local rfl (iS_fld fld hf) F₄.ns hval ?_
  refine wpAny_Name ?_ (by decide +kernel)
  refine wpAny_loadName_local rfl rfl F₄.ns hself ?_
  refine set_exc0 (s := ⟨h₄, g, d, _, os⟩) T.FB.SF F₄ X₀ N₄ (t := t₄) (c2 := .none) (by simp) T.sa T.ov T.tk T.hd rfl (.tail xs (.head (by simp))) (show 1 ≤ 1000 by decide) (fun dx h₅ F₅ N₅ l₅ => ?_)
  have so₅ := l₅ (h₁.objs.size, ks_superObj C x C) (by simp)
  have x₅ := l₅ (x, excObj C t₄ none .none) (by simp)
  refine wpAny_execs_nil (hq h₅ _ dx ⟨fun b o hb e => F₅.keep b o (hideAll_get _ e (by simpa using hb)), ⟨t₄, ?_⟩, Nat.le_of_lt (Nat.lt_trans L₁ so₅), Ne.symm (Nat.ne_of_lt x₅), ns_one (N₅ _ (List.mem_cons_self ..)).1⟩)
  exact (N₅ (x, excObj C t₄ (some dx) .none) (by simp)).1
end
end SX
end PySem

/-! the built-in classes that the program's errors stand over -/
namespace PySem.SX
open PySem PySem.W PySem.F
abbrev veMro : List Value := [.type "ValueError", .type "Exception", .type "BaseException", .type "object"]
abbrev keMro : List Value := [.type "KeyError", .type "LookupError", .type "Exception", .type "BaseException", .type "object"]
abbrev ieMro : List Value := [.type "IndexError", .type "LookupError", .type "Exception", .type "BaseException", .type "object"]
abbrev oeMro : List Value := [.type "OverflowError", .type "ArithmeticError", .type "Exception", .type "BaseException", .type "object"]
theorem ke_store : StoreFacts "KeyError" keMro "object.__setattr__" "object" := {
  mro := by kernel_rfl
  slot := by
    refine .of (owner := "object") (n := "__setattr__") ?_ (by decide +kernel) (by decide +kernel) (by decide +kernel) ?_ ?_
    · rw [typeLookup_type, builtinLookup_eq_fast]; kernel_rfl
    · first | exact .inl (by decide +kernel) | exact .inr (by decide +kernel)
    · rw [isSubtype_type]; kernel_rfl
  entry := entry_object_sa
  kind := by decide +kernel
  split := by decide +kernel
  hasOwner := by decide +kernel
  args := fun a b c => by (unfold argsOk; kernel_rfl)
  passes := fun self => by kernel_rfl }
theorem ve_store : StoreFacts "ValueError" veMro "object.__setattr__" "object" := {
  mro := by kernel_rfl
  slot := by
    refine .of (owner := "object") (n := "__setattr__") ?_ (by decide +kernel) (by decide +kernel) (by decide +kernel) ?_ ?_
    · rw [typeLookup_type, builtinLookup_eq_fast]; kernel_rfl
    · first | exact .inl (by decide +kernel) | exact .inr (by decide +kernel)
    · rw [isSubtype_type]; kernel_rfl
  entry := entry_object_sa
  kind := by decide +kernel
  split := by decide +kernel
  hasOwner := by decide +kernel
  args := fun a b c => by (unfold argsOk; kernel_rfl)
  passes := fun self => by kernel_rfl }
theorem ke_base : BaseF "KeyError" "LookupError.__new__" "KeyError.__init__" keMro := {
  nw := ⟨"LookupError", _, _, excBase_LookupError, by decide +kernel⟩
  n2 := by decide +kernel
  n3 := by decide +kernel
  ini := by
    refine .of (owner := "KeyError") (n := "__init__") ?_ (by decide +kernel) (by decide +kernel) (by decide +kernel) ?_ ?_
    · rw [typeLookup_type, builtinLookup_eq_fast]; kernel_rfl
    · first | exact .inl (by decide +kernel) | exact .inr (by decide +kernel)
    · rw [isSubtype_type]; kernel_rfl
  ent := by refine entryFor_alias (id' := "BaseException.__init__") ?_ (by first | rfl | decide +kernel) (by decide +kernel) ?_ <;> (rw [fastTable_eq_tree]; kernel_rfl)
  knd := by kernel_rfl
  row := by kernel_rfl
  nst := by decide +kernel
  KF := ⟨by (show builtinType _ = _; rw [builtinType_eq_fast]; kernel_rfl), by first | kernel_rfl | rfl⟩
  SF := ke_store }
theorem ve_base : BaseF "ValueError" "ValueError.__new__" "ValueError.__init__" veMro := .of excBase_ValueError kxs_ValueError ve_store
theorem ie_base : BaseF "IndexError" "IndexError.__new__" "IndexError.__init__" ieMro := .of excBase_IndexError kxs_IndexError store_IndexError
theorem oe_base : BaseF "OverflowError" "OverflowError.__new__" "OverflowError.__init__" oeMro := .of excBase_OverflowError kxs_OverflowError store_OverflowError
end PySem.SX

/-! an own exception called: C(v), C(fld = v) -/
namespace PySem
namespace SX
open PySem.W PySem.Calls PyProof.Rows PySem.HandSPX
section
variable {prog : Program} {w : World} {M : Model} {A : Around} {E : Value → Shared → Prop} {R : Result → Shared → Prop} {h : Heap} {g : Array GenState} {d : Drawn} {t : Nat} {os : OsState}
variable {nm q : Str} {C N : Addr} {bs bm bmB : List Value} {hdct : Bool} {sn : List Str} {sub : List Value} {ab : Bool} {col : Option Bool} {dd : Option Addr} {k0 k1 k2 k3 k5 : Option Value} {B newId initId : String}
/-- the keywords are not looked at by type.__call__'s and by the maker's own checks -/
theorem chk_type_kw (rest : List Value) (kw : List (Str × Value)) : checkBuiltinCall "type.__call__" ⟨.ref C :: rest, kw⟩ = checkBuiltinCall "type.__call__" ⟨.ref C :: rest, []⟩ := by kernel_rfl
theorem chk_new_kw {BN iN : String} {bmN : List Value} (FB : ExcBaseFacts BN newId iN bmN) (rest : List Value) (kw : List (Str × Value)) : checkBuiltinCall newId ⟨.ref C :: rest, kw⟩ = checkBuiltinCall newId ⟨.ref C :: rest, []⟩ := by
  simp only [checkBuiltinCall, FB.newKind, FB.newSplit, FB.newRow]
  rfl
theorem new_kw (rest : List Value) (kw : List (Str × Value)) : Builtin.«BaseException.__new__» ⟨.ref C :: rest, kw⟩ = Builtin.«BaseException.__new__» ⟨.ref C :: rest, []⟩ := rfl
/-- the maker's own check -/
theorem chk_new (FB : BaseF B newId initId bmB) (hT : ∀ X : String, bm.contains (.type X) = bmB.contains (.type X)) {rest : List Value} {kw : List (Str × Value)} {Q : Unit → Shared → Prop} (hC : h.get? C = some (excClassObj nm q C N bs bm hdct sn sub ab col dd k0 k1 k2 k3 k5 newId))
    (hQ : Q () ⟨h, g, d, t, os⟩) : wpAny M A (checkBuiltinCall newId ⟨.ref C :: rest, kw⟩) Q E ⟨h, g, d, t, os⟩ := by
  obtain ⟨BN, iN, bmN, FN, hN⟩ := FB.nw
  rw [chk_new_kw FN]
  have c1 : (Value.ref C :: bm).contains (.type BN) = true := by rw [List.contains_cons, hT, hN, Bool.or_true]
  have st := FN.noStar
  simp only [checkBuiltinCall, FN.newKind, FN.newSplit, FN.newRow]
  repeat (first
    | refine wpAny_madeBy_exc hC ?_
    | refine wpAny_staticBase_exc hC ?_
    | (refine wpAny_isSubtype_exc hC ?_; rw [c1])
    | refine wpAny_loadPart_at hC ?_
    | simp only [bne_self_eq_false, Bool.false_eq_true, if_false]
    | wp_step)
  exact hQ
/-- the maker: a bare exception object over the args' tuple -/
theorem code_new (FB : BaseF B newId initId bmB) (hT : ∀ X : String, bm.contains (.type X) = bmB.contains (.type X)) (rest : List Value) (kw : List (Str × Value)) (hz : rest.length ≤ sizeLine)
    (hC : h.get? C = some (excClassObj nm q C N bs bm hdct sn sub ab col dd k0 k1 k2 k3 k5 newId))
    (hR : R (.ok (.ret (.ref (h.objs.size + 1)))) ⟨(h.push (kdv_tup rest)).push (excO C h.objs.size), g, d, t, os⟩) : codeAny (model prog w) A (.builtin newId ⟨.ref C :: rest, kw⟩) R ⟨h, g, d, t, os⟩ := by
  obtain ⟨BN, iN, bmN, FN, hN⟩ := FB.nw
  have e0 := FN.ends
  have has : ∀ (X : String) (b : Bool), bmB.contains (.type X) = b → (Value.ref C :: bm).contains (.type X) = b := fun X b hb => by
    rw [List.contains_cons, hT, hb]
    cases b <;> rfl
  have c1 := has BN true hN
  have c2 := has "AttributeError" false FB.n2
  have c3 := has "NameError" false FB.n3
  refine codeAny_builtinAt FN.entry (wpAt_bind ?_)
  show wpAt _ _ _ (PySem.stack >>= _) _ _ _
  refine wpAt_bind (wpAt_stack fun pl bl => wpAt_of_wpAny ?_)
  wp_walk
  refine wpAt_of_wpAny ?_
  rw [FN.owner]
  repeat (first
    | with_reducible refine wpAny_madeHere_exc FN.canon hC ?_
    | (with_reducible refine wpAny_isSubtype_exc hC ?_; first | rw [c1] | rw [c2] | rw [c3])
    | with_reducible refine wpAny_loadPart_at hC ?_
    | wp_step)
  show R _ _
  rw [Heap.size_push]
  exact hR
/-- type.__call__: the maker, then the own __init__ -/
theorem run_type (FB : BaseF B newId initId bmB) (hT : ∀ X : String, bm.contains (.type X) = bmB.contains (.type X)) {rest : List Value} {kw : List (Str × Value)} {fI : Addr} {Q : Fin → Shared → Prop} (hz : rest.length ≤ sizeLine)
    (hC : h.get? C = some (excClassObj nm q C N bs bm hdct sn sub ab col dd k0 k1 k2 k3 k5 newId))
    (hi : Looks (model prog w) h (typeLookup (.ref C) "__init__") (some (.ref fI))) (hb : ∀ x, Looks (model prog w) h (bindSpecial (.ref fI) x) (.ref fI, [x]))
    (hq : codeAny (model prog w) A (.call (.ref fI) ⟨.ref (h.objs.size + 1) :: rest, kw⟩) (fun r s' => match r with | .ok (.ret v) => v = .none ∧ Q (.done (.ret (.ref (h.objs.size + 1)))) s' | .ok _ => False | .error e => E e s') ⟨(h.push (kdv_tup rest)).push (excO C h.objs.size), g, d, t, os⟩) :
    wpAny (model prog w) A (Builtin.«type.__call__» ⟨.ref C :: rest, kw⟩) Q E ⟨h, g, d, t, os⟩ := by
  repeat (first | with_reducible refine wpAny_madeBy_exc hC ?_ | with_reducible refine wpAny_loadPart_at hC ?_ | wp_step)
  obtain ⟨BN, iN, bmN, FN, hN⟩ := id FB.nw
  refine codeAny_call_builtin_code (Code.quiet_builtin _ FN.quiet) (chk_new FB hT hC (code_new FB hT rest kw hz hC ?_))
  have up : ∀ b o, h.get? b = some o → ((h.push (kdv_tup rest)).push (excO C h.objs.size)).get? b = some o := fun b o z => Heap.get?_push_of_some _ (Heap.get?_push_of_some _ z)
  have at_ : ((h.push (kdv_tup rest)).push (excO C h.objs.size)).get? (h.objs.size + 1) = some (excO C h.objs.size) := by heap_get
  have hC' := up _ _ hC
  have self_ : (Value.ref C :: bm).contains (.ref C) = true := by simp
  have hi' := hi.keeps up
  have hb' := (hb (.ref (h.objs.size + 1))).keeps up
  show wpAny _ _ _ _ _ _
  unfold isInstance
  repeat (first | with_reducible refine wpAny_loadPart_at at_ ?_ | (with_reducible refine wpAny_isSubtype_exc hC' ?_; rw [self_]) | wp_step)
  show wpAny _ _ (typeLookup (.ref C) _) _ _ _
  refine hi'.at (wpAny_holding (wpAny_bind (hb'.at (wpAny_bind (wpAny_call (codeAny_mono hq fun r s' z => ?_))))))
  cases r with
  | error e => exact z
  | ok f =>
    cases f with
    | ret v =>
      obtain ⟨rfl, z⟩ := z
      wp_walk
      exact z
    | next => exact z.elim
    | brk => exact z.elim
    | cont => exact z.elim
/-- the class called -/
theorem code_call (FB : BaseF B newId initId bmB) (hT : ∀ X : String, bm.contains (.type X) = bmB.contains (.type X)) {rest : List Value} {kw : List (Str × Value)} {fI : Addr} (hz : rest.length ≤ sizeLine)
    (hC : h.get? C = some (excClassObj nm q C N bs bm hdct sn sub ab col dd k0 k1 k2 k3 k5 newId))
    (hi : Looks (model prog w) h (typeLookup (.ref C) "__init__") (some (.ref fI))) (hb : ∀ x, Looks (model prog w) h (bindSpecial (.ref fI) x) (.ref fI, [x]))
    (hq : codeAny (model prog w) (A.under (.builtin "type.__call__" ⟨.ref C :: rest, kw⟩)) (.call (.ref fI) ⟨.ref (h.objs.size + 1) :: rest, kw⟩) (InitBack (h.objs.size + 1) R) ⟨(h.push (kdv_tup rest)).push (excO C h.objs.size), g, d, t, os⟩) :
    codeAny (model prog w) A (.call (.ref C) ⟨rest, kw⟩) R ⟨h, g, d, t, os⟩ := by
  have l1 := tc_lookup
  have l2 := tc_bind (.ref C)
  have l3 : (⟨h, g, d, t, os⟩ : Shared).TypeIs (.ref C) "type" := ⟨_, hC, rfl⟩
  refine codeAny_of_tree ?_
  show wpAny _ _ (callAny (.ref C) _) _ _ _
  repeat (any_goals (first | assumption | with_reducible refine wpAny_loadPart_at hC ?_ | wp_step))
  refine ⟨rfl, codeAny_call_builtin_at (Code.quiet_builtin _ (by decide +kernel)) entry_typeCall ?_⟩
  show wpAny _ _ (checkBuiltinCall "type.__call__" ⟨.ref C :: rest, kw⟩) _ _ _
  rw [chk_type_kw]
  refine wpAny_check_type_call_sub hC (run_type FB hT hz hC hi hb (codeAny_mono hq fun r s' z => ?_))
  cases r with
  | error e => exact z
  | ok f => cases f <;> exact z
end
/-- a made exception -/
structure Made (fld : Str) (h h' : Heap) (e C d : Addr) (v : Value) : Prop where
  keep : ∀ b o, h.get? b = some o → h'.get? b = some o
  new : h.objs.size ≤ e
  obj : ∃ t1 : Addr, h'.get? e = some { cls := .ref C, dict := some d, data := .fields #[.ref t1, .none, .none, .none, .bool false, .none] }
  dbig : h.objs.size ≤ d
  dne : d ≠ e
  ns : h'.Ns1 d (fun y => if y = fld then some v else none)
section
variable {prog : Program} {w : World} {A : Around} {E : Value → Shared → Prop} {R : Result → Shared → Prop} {s : Shared} {K : Frag} {mg mb : Str → Option Value} {C fI : Addr} {fld qual : Str} {B newId initId : String} {bmB : List Value}
theorem sx_made (T : Sx prog K C fI fld qual B newId initId bmB) (hf : FldOk fld) {v : Value} {rest : List Value} {kw : List (Str × Value)} (X : K.In s.heap) (hg : s.heap.Ns mainGlobals mg) (hb : s.heap.Ns builtinsNs mb) (hbb : mb "super" = bootBuiltins "super") (hlim : s.heap.NoLimit) (hroom : A.depth + 1 < recursionLimit)
    (iC : findIn K (.ref C) "__init__" = some (some (.ref fI))) (tC : typeIn K (.ref fI) = some (.type "function")) (hz : rest.length ≤ sizeLine)
    (hbind : ∀ (x : Addr) (s' : Shared) fd, (∃ oc od osl, K.lookup fI = some ⟨oc, od, .func fd, osl⟩) → BindsTo s' fd ⟨.ref x :: rest, kw⟩ [("self", .ref x), (fld, v)])
    (hq : ∀ h' tk e d, Made fld s.heap h' e C d v → R (.ok (.ret (.ref e))) { s with heap := h', toks := tk }) :
    codeAny (model prog w) A (.call (.ref C) ⟨rest, kw⟩) R s := by
  obtain ⟨nm, N, qn, bs, bm, hdct, sn, sub, ab, col, dd, k0, k1, k2, k3, k5, hC, hT⟩ := excInit_of X T.q
  have ho : ∃ oc od osl fd, K.lookup fI = some ⟨oc, od, .func fd, osl⟩ := by
    obtain ⟨oc, od, doc, pm, an, cda, cc, ct, osl, p, ho, _⟩ := T.fn
    exact ⟨_, _, _, _, ho⟩
  obtain ⟨oc, od, osl, fd, ho⟩ := ho
  obtain ⟨hp, g, d, tk, os⟩ := s
  have up : ∀ b o, hp.get? b = some o → ((hp.push (kdv_tup rest)).push (excO C hp.objs.size)).get? b = some o := fun b o z => Heap.get?_push_of_some _ (Heap.get?_push_of_some _ z)
  have at_ : ((hp.push (kdv_tup rest)).push (excO C hp.objs.size)).get? (hp.objs.size + 1) = some (excO C hp.objs.size) := by heap_get
  have hnx : K.lookup (hp.objs.size + 1) = none := by
    cases e : K.lookup (hp.objs.size + 1) with
    | none => rfl
    | some o => exact absurd (Nat.lt_of_succ_lt (Heap.lt_size (show hp.get? _ = some o from X _ _ e))) (Nat.lt_irrefl _)
  refine code_call T.FB hT hz hC (looks_findIn X iC) (fun x => bind_fn X x tC) ?_
  refine sx_init (s := ⟨(hp.push (kdv_tup rest)).push (excO C hp.objs.size), g, d, tk, os⟩) T (X.keeps up) (hg.keeps up) (hb.keeps up) hbb (hlim.keeps up) at_ hnx hroom (fun fd' z => hbind _ _ fd' z) hf (fun h' tk' dx I => ?_)
  have zz : hp.objs.size + 1 + 1 ≤ dx := by
    have q := I.dbig
    rw [Heap.size_push, Heap.size_push] at q
    exact q
  exact ⟨rfl, hq h' tk' _ dx ⟨fun b o z => I.keep b o (Nat.ne_of_lt (Nat.lt_succ_of_lt (Heap.lt_size z))) (up b o z), Nat.le_succ _, I.obj, Nat.le_trans (Nat.le_trans (Nat.le_succ _) (Nat.le_succ _)) zz, I.dne, I.ns⟩⟩
end
end SX
end PySem

/-! own exceptions over the hand layer: made as values, raised, their field read, isinstance -/
namespace L2
open PySem PySem.Spec PyProof.Rows PySem.SX
/-- all that a program's exception class wants -/
structure SxT (P : Program) (K : PySem.W.Frag) (mg : Str → Option Value) (x : Str) (C fI : Addr) (fld qual : Str) (B newId initId : String) (bmB : List Value) : Prop where
  T : Sx P K C fI fld qual B newId initId bmB
  f : FldOk fld
  gC : mg x = some (.ref C)
  kC : PySem.W.keepIn K (.ref C) = true
  iC : PySem.W.findIn K (.ref C) "__init__" = some (some (.ref fI))
  tI : PySem.W.typeIn K (.ref fI) = some (.type "function")
  bind1 : ∀ (y : Addr) (v : Value) (s' : Shared) fd, (∃ oc od osl, K.lookup fI = some ⟨oc, od, .func fd, osl⟩) → BindsTo s' fd ⟨[.ref y, v], []⟩ [("self", .ref y), (fld, v)]
  bindK : ∀ (y : Addr) (v : Value) (s' : Shared) fd, (∃ oc od osl, K.lookup fI = some ⟨oc, od, .func fd, osl⟩) → BindsTo s' fd ⟨[.ref y], [(fld, v)]⟩ [("self", .ref y), (fld, v)]
section
variable {X : Cx} {pins : List (Addr × Obj)} {σ : St} {H : Hp} {s : Shared} {x : Str} {C fI : Addr} {fld qual : Str} {B newId initId : String} {bmB : List Value}
/-- the state with a made exception, its dict tracked, itself not -/
theorem inv_made {v : V} {v' : Value} {h' : Heap} {tk e d : Addr} (I : Inv X pins σ H s) (rv : RelV v v') (M : Made fld s.heap h' e C d v') :
    ∃ (G : Heap), (∀ b o, G.get? b = some o → h'.get? b = some o) ∧ G.get? e = none ∧ H e = none ∧ H d = none ∧ Inv X pins σ (upd H d (.xd [(fld, v)])) { s with heap := G, toks := tk } := by
  obtain ⟨G, g1, g2⟩ := restrict h' fun b => decide (b ≠ e)
  have gk : ∀ b, b ≠ e → G.get? b = h'.get? b := fun b hb => g1 b (decide_eq_true hb)
  have ge : G.get? e = none := g2 e (by simp)
  have old : ∀ b o, s.heap.get? b = some o → G.get? b = some o := fun b o q => (gk b (Nat.ne_of_lt (Nat.lt_of_lt_of_le (Heap.lt_size q) M.new))).trans (M.keep b o q)
  have ob : ObjOk X.prog X.w (upd H d (.xd [(fld, v)])) G d (.xd [(fld, v)]) := ⟨_, M.ns.at (fun o q => (gk d M.dne).trans q), relO_put (fs := []) rv fun g => True.intro⟩
  refine ⟨G, fun b o q => ?_, ge, I.hok.fresh M.new, I.hok.fresh M.dbig, I.laid (t' := tk) old M.dbig ob⟩
  by_cases hb : b = e
  · rw [hb, ge] at q
    cases q
  · exact (gk b hb).symm.trans q
/-- .. and itself -/
theorem inv_made2 {v : V} {v' : Value} {h' : Heap} {tk e d : Addr} (I : Inv X pins σ H s) (rv : RelV v v') (M : Made fld s.heap h' e C d v') :
    H e = none ∧ H d = none ∧ Inv X pins σ (upd (upd H d (.xd [(fld, v)])) e (exo e C (some d))) { s with heap := h', toks := tk } := by
  obtain ⟨G, k, ge, he, hd, J⟩ := inv_made (tk := tk) I rv M
  obtain ⟨t1, ho⟩ := M.obj
  have hn : upd H d (.xd [(fld, v)]) e = none := by
    rw [upd_ne (Ne.symm M.dne)]
    exact he
  exact ⟨he, hd, J.laidN (h' := h') (t' := tk) k ge hn (exo_ok ho)⟩
/-- C(e), as a value -/
def tSx (C : Addr) (fld : Str) (te : TE) : TE := fun σ H Q => te σ H fun v H1 => ∀ a d, H1 a = none → H1 d = none → d ≠ a → Q (.ref a) (upd (upd H1 d (.xd [(fld, v)])) a (exo a C (some d)))
theorem run_sx {k : Nat} {v : V} {v' : Value} {rest : List Value} {kw : List (Str × Value)} {Q : VK} (T : SxT X.prog X.K X.mg x C fI fld qual B newId initId bmB) (hr : Room k X.A) (I : Inv X pins σ H s) (rv : RelV v v') (hz : (rest = [v'] ∧ kw = []) ∨ (rest = [] ∧ kw = [(fld, v')]))
    (q : ∀ a d, H a = none → H d = none → d ≠ a → Q (.ref a) (upd (upd H d (.xd [(fld, v)])) a (exo a C (some d)))) : wpAny (model X.prog X.w) X.A (call (.ref C) rest kw) (EP X pins σ Q) X.xe s := by
  obtain ⟨mb, hb, hbb⟩ := I.mod.blt
  have hl : rest.length ≤ sizeLine := by
    rw [sizeLine_eq]
    rcases hz with ⟨rfl, _⟩ | ⟨rfl, _⟩
    · exact (by decide : 1 ≤ 16777216)
    · exact (by decide : 0 ≤ 16777216)
  refine wpAny_call (sx_made (s := s) T.T T.f I.kIn (I.mod.glob.keeps I.bk) (hb.keeps I.bk) (hbb _ (by decide +kernel)) I.nolimit (by have := hr.dp; omega) T.iC T.tI hl (v := v') (fun y s' fd z => ?_) fun h' tk e d M => ?_)
  · rcases hz with ⟨rfl, rfl⟩ | ⟨rfl, rfl⟩
    · exact T.bind1 y v' s' fd z
    · exact T.bindK y v' s' fd z
  · obtain ⟨he, hd, J⟩ := inv_made2 (tk := tk) I rv M
    exact ⟨.ref e, _, J, rfl, q e d he hd M.dne⟩
theorem pe_sx {k : Nat} {e : Expr} {te : TE} {p pos : Pos} (T : SxT X.prog X.K X.mg x C fI fld qual B newId initId bmB) (hr : Room k X.A) (he : PE X e te) (hg : Gl X x := by rfl) (hs : starEach (e :: []) X.env = (false, eval e X.env) :: starEach [] X.env := by rfl) (hpl : (backTo pos (starEach [] X.env)).any (·.1) = false := by rfl)
    (hdb : (x == ("__debug__" : Str)) = false := by decide) : PE X (.Call (.Name x p) [e] [] pos) (tSx C fld te) := by
  refine ⟨fun pins s σ H Q I h => ?_⟩
  refine wpAny_Call_Name_kw (ld_glob I hg T.gC ?_ hdb)
  refine PySem.W.callWith_K (h₀ := X.base) I.ok.mod.kin T.kC ?_ hs hpl
  rw [hs]
  show wpAny _ _ (spliced ((false, eval e X.env) :: backTo pos (starEach [] X.env))) _ _ s
  refine Calls.spliced_cons (thn (he.run pins s σ H _ I h) fun u s1 ⟨v, H1, I1, r1, q1⟩ => ?_)
  refine Calls.spliced_nil ⟨I1.kIn, ?_⟩
  exact run_sx T hr I1 r1 (.inl ⟨rfl, rfl⟩) q1
/-- C(fld = e) -/
theorem pe_sxk {k : Nat} {kws : List Keyword} {tk : TA} {p pos : Pos} (T : SxT X.prog X.K X.mg x C fI fld qual B newId initId bmB) (hr : Room k X.A) (hkw : PK X kws tk) (hg : Gl X x := by rfl)
    (hall : (backToKw pos (keywordEach kws X.env)).all (·.1.isSome) = true := by rfl) (hks : (backToKw pos (keywordEach kws X.env)).filterMap (·.1) = [fld] := by rfl) (hdb : (x == ("__debug__" : Str)) = false := by decide)
    (hpl : ((backTo pos (starEach [] X.env)).any (·.1) || (backToKw pos (keywordEach kws X.env)).any (·.1.isNone)) = false := by rfl) :
    PE X (.Call (.Name x p) [] kws pos) (fun σ H Q => tk σ H fun vs H1 => ∃ v, vs = [v] ∧ ∀ a d, H1 a = none → H1 d = none → d ≠ a → Q (.ref a) (upd (upd H1 d (.xd [(fld, v)])) a (exo a C (some d)))) := by
  refine ⟨fun pins s σ H Q I h => ?_⟩
  refine wpAny_Call_Name_kw (ld_glob I hg T.gC ?_ hdb)
  refine PySem.W.callWith_KW0 (h₀ := X.base) I.ok.mod.kin T.kC hall ?_ hpl
  refine thn (hkw.run pos pins s σ H _ I h) fun ws s2 ⟨zs, H2, I2, rz, v, ev, q2⟩ => ⟨I2.kIn, ?_⟩
  subst ev
  rw [hks]
  cases rz with
  | cons rv rn =>
    cases rn
    exact run_sx T hr I2 rv (.inr ⟨rfl, rfl⟩) q2
/-- raise C(e) -/
theorem pmk_sx {k : Nat} {e : Expr} {te : TE} {p pos : Pos} (T : SxT X.prog X.K X.mg x C fI fld qual B newId initId bmB) (hr : Room k X.A) (r : Raises X (.ref C)) (he : PE X e te) (hg : Gl X x := by rfl) (hs : starEach (e :: []) X.env = (false, eval e X.env) :: starEach [] X.env := by rfl) (hpl : (backTo pos (starEach [] X.env)).any (·.1) = false := by rfl)
    (hdb : (x == ("__debug__" : Str)) = false := by decide) : PMk X (.Call (.Name x p) [e] [] pos) (fun σ H Q => te σ H fun v H1 => ∀ d, H1 d = none → Q (.ref C) (some d) (upd H1 d (.xd [(fld, v)]))) := by
  intro pins s σ H Q I h
  refine wpAny_Call_Name_kw (ld_glob I hg T.gC ?_ hdb)
  refine PySem.W.callWith_K (h₀ := X.base) I.ok.mod.kin T.kC ?_ hs hpl
  rw [hs]
  show wpAny _ _ (spliced ((false, eval e X.env) :: backTo pos (starEach [] X.env))) _ _ s
  refine Calls.spliced_cons (thn (he.run pins s σ H _ I h) fun u s1 ⟨v, H1, I1, r1, q1⟩ => ?_)
  refine Calls.spliced_nil ⟨I1.kIn, ?_⟩
  obtain ⟨mb, hb, hbb⟩ := I1.mod.blt
  refine wpAny_call (sx_made (s := s1) T.T T.f I1.kIn (I1.mod.glob.keeps I1.bk) (hb.keeps I1.bk) (hbb _ (by decide +kernel)) I1.nolimit (by have := hr.dp; omega) T.iC T.tI (by rw [sizeLine_eq]; exact (by decide : 1 ≤ 16777216)) (v := u) (fun y s' fd z => T.bind1 y u s' fd z) fun h' tk e d M => ?_)
  obtain ⟨G, kk, ge, he, hd, J⟩ := inv_made (tk := tk) I1 r1 M
  obtain ⟨t1, ho⟩ := M.obj
  refine ⟨e, _, _, _, _, .ref C, some d, rfl, J, kk, ge, ho, ⟨rfl, rfl⟩, rfl, rfl, ?_, rfl, J.bare, r, q1 d hd⟩
  rw [upd_ne (Ne.symm M.dne)]
  exact he
/-! ### a class without own __init__: C() -/
theorem pe_sx0 {bmB : List Value} {B newId initId : String} {p pos : Pos} (F : ExcBaseFacts B newId initId bmB) (q : PySem.W.excIn X.K C bmB newId = true) (gC : X.mg x = some (.ref C)) (kC : PySem.W.keepIn X.K (.ref C) = true) (hg : Gl X x := by rfl)
    (hdb : (x == ("__debug__" : Str)) = false := by decide) : PE X (.Call (.Name x p) [] [] pos) (fun _ H Q => ∀ a, H a = none → Q (.ref a) (upd H a (exo a C none))) := by
  refine ⟨fun pins s σ H Q I h => ?_⟩
  refine wpAny_Call_Name_kw (ld_glob I hg gC ?_ hdb)
  refine PySem.W.callWith_K0 I.kIn kC ?_
  show wpAny _ _ (call (.ref C) []) _ _ _
  obtain ⟨bm, N, nm, qn, bs, hdct, sn, sub, ab, col, dd, k0, k1, k2, k3, k5, mN, hC, hN, hni, T⟩ := exc_obj I.kIn q
  refine wpAny_call_exc_subT F T hC hN hni (fun h' a hm => ?_) (by rw [sizeLine_eq]; exact (by decide : 0 ≤ 16777216))
  have hn : H a = none := I.hok.gone hm.new
  obtain ⟨t, ht, _, _⟩ := hm.there
  exact ⟨.ref a, upd H a (exo a C none), I.laidN hm.keeps hm.new hn (exo_ok ht), rfl, h a hn⟩
theorem pmk_sx0 {bmB : List Value} {B newId initId : String} {p pos : Pos} (F : ExcBaseFacts B newId initId bmB) (q : PySem.W.excIn X.K C bmB newId = true) (gC : X.mg x = some (.ref C)) (kC : PySem.W.keepIn X.K (.ref C) = true) (r : Raises X (.ref C)) (hg : Gl X x := by rfl)
    (hdb : (x == ("__debug__" : Str)) = false := by decide) : PMk X (.Call (.Name x p) [] [] pos) (fun _ H Q => Q (.ref C) none H) := by
  intro pins s σ H Q I h
  refine wpAny_Call_Name_kw (ld_glob I hg gC ?_ hdb)
  refine PySem.W.callWith_K0 I.kIn kC ?_
  show wpAny _ _ (call (.ref C) []) _ _ _
  obtain ⟨bm, N, nm, qn, bs, hdct, sn, sub, ab, col, dd, k0, k1, k2, k3, k5, mN, hC, hN, hni, T⟩ := exc_obj I.kIn q
  refine wpAny_call_exc_subT F T hC hN hni (fun h' a hm => ?_) (by rw [sizeLine_eq]; exact (by decide : 0 ≤ 16777216))
  exact mk_of I hm r h (I.hok.gone hm.new)
/-! ### the field of a tracked exception -/
theorem inst_of {d : Option Addr} {a : Addr} (I : Inv X pins σ H s) (ha : H a = some (exo a C d)) (hd : ∀ dd, d = some dd → ∃ o, s.heap.get? dd = some o) : ∃ oe od, PySem.W.InstAt s.heap a oe C od ∧ (∀ dd, d = some dd → od = s.heap.get? dd) := by
  obtain ⟨t1, ho⟩ := exo_at I.hok ha
  cases d with
  | none => exact ⟨_, none, ⟨ho, rfl, rfl, trivial⟩, fun dd z => by cases z⟩
  | some dd =>
    obtain ⟨o, e⟩ := hd dd rfl
    exact ⟨_, some o, ⟨ho, rfl, rfl, e⟩, fun z hz => by cases hz; exact e.symm⟩
def tExF (C : Addr) (f : Str) (te : TE) : TE := fun σ H Q => te σ H fun x H1 => ∃ (a d : Addr) (fs : List (Str × V)) (v : V), x = .ref a ∧ H1 a = some (exo a C (some d)) ∧ H1 d = some (.xd fs) ∧ fs.lookup f = some v ∧ Q v H1
theorem pe_exf {e : Expr} {te : TE} {pos : Pos} {n : Str} (T : XfC X.K C) (hno : PySem.W.findIn X.K (.ref C) n = some none) (he : PE X e te) (hb : attributeBase e n X.env (eval e X.env) = eval e X.env := by rfl) : PE X (.Attribute e n pos) (tExF C n te) := by
  refine ⟨fun pins s σ H Q I h => ?_⟩
  refine attr_of hb (thn (he.run pins s σ H _ I h) fun u s1 hh => ?_)
  obtain ⟨x, H1, I1, rx, a, dd, fs, v, ex, ea, ed, el, q⟩ := hh
  subst ex
  obtain rfl : u = Value.ref a := rx
  have hx : ObjOk X.prog X.w H1 s1.heap dd (.xd fs) := I1.hok dd _ ed
  obtain ⟨mA, hns, hr⟩ := hx
  obtain ⟨od, ho, hl⟩ := lookIn_ns hns
  obtain ⟨u, hu, ru⟩ := RelO.some_of (v := v) (o := mA n) (by rw [← el]; exact hr n)
  obtain ⟨t1, hoa⟩ := exo_at I1.hok ea
  have J : PySem.W.InstAt s1.heap a _ C (some od) := ⟨hoa, rfl, rfl, ho⟩
  exact HandSPX.exc_get I1.kIn J T.ga T.gg T.exC (PySem.W.findObj_own T.hdC hno rfl (by rw [hl, hu])) (handed_of ru) ⟨v, H1, I1.tok _, ru, q⟩
/-! ### isinstance(e, c), e a tracked exception -/
def rIsX (K : PySem.W.Frag) (C : Addr) : List V → Hp → VK → Prop := fun xs H Q => ∃ (a : Addr) (d : Option Addr) (c : V) (cv : Value) (b : Bool), xs = [.ref a, c] ∧ H a = some (exo a C d) ∧ (∀ dd, d = some dd → ∃ fs, H dd = some (.xd fs)) ∧ (∀ u, RelV c u → u = cv) ∧ PySem.W.kitOne K (.ref C) cv = some b ∧ Q (.bl b) H
theorem call_isX (E : ExcC X.K C) : CallR X (.builtin "isinstance") (rIsX X.K C) := by
  intro pins s σ H xs us Q I r h
  obtain ⟨a, d, c, cv, b, rfl, ea, ed, hcv, e, q⟩ := h
  cases r with
  | cons rx rr =>
    cases rr with
    | cons rt rr =>
      cases rr
      cases rx
      have ec := hcv _ rt
      subst ec
      obtain ⟨oe, od, J, _⟩ := inst_of I ea fun dd z => by
        obtain ⟨fs, hf⟩ := ed dd z
        exact ⟨_, (show ∃ o, s.heap.get? dd = some o from by
          obtain ⟨mA, ⟨o, es, ep, e1, _⟩, _⟩ := (show ObjOk X.prog X.w H s.heap dd (.xd fs) from I.hok dd _ hf)
          exact ⟨o, e1⟩).choose_spec⟩
      exact PySem.W.kia_one (PySem.W.kitx_exc (by obtain ⟨cd, hc, _⟩ := PySem.W.any_some E.hd; rw [hc]; rfl) E.hg E.hk E.hs E.ha E.hn E.ht E.hm) I.kIn J e (fun z => nomatch z) fun tk => ⟨.bl b, H, I.kept (t' := tk) fun _ _ z => z, rfl, q⟩
end
end L2

/-! the head's facts of own exception classes; a Hook over any list of facts -/
namespace Hx
open PySem PySem.Spec PyProof.Rows L2 PySem.SX PySem.W
open He (ga ma fAd DefD)
/-! ### a class with __init__ -/
structure EDat where
  cls : Str
  fld : Str
  qual : Str
  B : String
  newId : String
  initId : String
  bmB : List Value
def eqb {α : Type} [DecidableEq α] (a b : α) : Bool := decide (a = b)
theorem eqb_ok {α : Type} [DecidableEq α] {a b : α} (h : eqb a b = true) : a = b := of_decide_eq_true h
def cellB (K : Frag) (cc C : Addr) : Bool := match K.lookup cc with
  | some ⟨_, _, .cell (some (.ref D)), _⟩ => eqb D C
  | _ => false
theorem cellB_ok {K : Frag} {cc C : Addr} (h : cellB K cc C = true) : ∃ cl cld csl, K.lookup cc = some ⟨cl, cld, .cell (some (.ref C)), csl⟩ := by
  unfold cellB at h
  split at h
  · rename_i cl cld D csl e
    rw [← eqb_ok h]
    exact ⟨cl, cld, csl, e⟩
  · cases h
def fileB (P : Program) (K : Frag) (cda : Addr) : Bool := match K.lookup cda with
  | some ⟨_, _, .fields vs, _⟩ => (match (vs[2]? : Option Value) with
    | some (Value.str file _) => (P.main.file : Str) == file
    | _ => false)
  | _ => false
theorem fileB_ok {P : Program} {K : Frag} {cda : Addr} (h : fileB P K cda = true) : ∃ ccl cdd vs ccs file tf, K.lookup cda = some ⟨ccl, cdd, .fields vs, ccs⟩ ∧ vs[2]? = some (.str file tf) ∧ ((P.main.file : Str) == file) = true := by
  unfold fileB at h
  split at h
  · rename_i ccl cdd vs ccs e
    split at h
    · rename_i file tf e2
      exact ⟨ccl, cdd, vs, ccs, file, tf, e, e2, h⟩
    · cases h
  · cases h
abbrev FnC : Type := Option (Str × Str × Arguments × FuncBody × Scope × Addr × Addr)
def fnC (K : Frag) (f : Addr) : FnC := match K.lookup f with
  | some ⟨_, _, .func fd, _⟩ => some (fd.name, fd.qualname, fd.params, fd.body, fd.scope, fd.globals, fd.builtins)
  | _ => none
def clO (cl : List (Str × Addr)) : Option Addr := match cl with
  | [(n, cc)] => if n = ("__class__" : Str) then some cc else none
  | _ => none
theorem clO_ok : ∀ {cl : List (Str × Addr)} {cc : Addr}, clO cl = some cc → cl = [(("__class__" : Str), cc)]
  | [], _, h => by cases h
  | [(n, c)], cc, h => by
    have h' : (if n = ("__class__" : Str) then some c else none) = some cc := h
    by_cases e : n = ("__class__" : Str)
    · rw [if_pos e] at h'
      cases h'
      rw [e]
    · rw [if_neg e] at h'
      cases h'
  | _ :: _ :: _, _, h => by cases h
def refO (v : Value) : Option Addr := match v with
  | .ref a => some a
  | _ => none
theorem refO_ok {v : Value} {a : Addr} (h : refO v = some a) : v = .ref a := by
  cases v with
  | ref b =>
    cases h
    rfl
  | _ => cases h
/-- the rest of what is asked of such an __init__ -/
def iniF (P : Program) (K : Frag) (C : Addr) (q : Str) (fd : FuncData) : Bool := eqb fd.defaults .none && (eqb fd.kwdefaults .none && ((clO fd.closure).any fun cc => (refO fd.code).any fun cda => cellB K cc C && (codeIn K (.ref cda) q && fileB P K cda)))
def iniB (P : Program) (K : Frag) (f C : Addr) (q : Str) : Bool := match K.lookup f with
  | some ⟨_, _, .func fd, _⟩ => iniF P K C q fd
  | _ => false
def eB (P : Program) (e : EDat) (K : Frag) : Bool :=
  excInitIn K (ga K e.cls) e.bmB e.newId && (excOver K (ga K e.cls) e.bmB && (hasDictIn K (ga K e.cls) && (eqb (ks_superIn K (ga K e.cls) (ga K e.cls) "__init__") (some (some (.builtin e.initId))) && (eqb (nsIn K cStatics "thirdparty.any") (some none) &&
  (eqb (findIn K (.ref (ga K e.cls)) "__setattr__") (some (some (.builtin "object.__setattr__"))) && (eqb (findIn K (.ref (ga K e.cls)) e.fld) (some none) && (eqb (takerIn K (ga K e.cls) e.fld) (some none) && (eqb (subIn K (.ref (ga K e.cls)) (.type e.B)) (some true) &&
  (eqb (mroIn K (ga K e.cls) (.ref (ga K e.cls))) (some true) && (eqb (nsIn K mainGlobals "super") (some none) && (!(P.main.scope.names.lookup ("super" : Str)).isSome && (iniB P K (ma K (ga K e.cls) "__init__") (ga K e.cls) e.qual &&
  (eqb (nsIn K mainGlobals e.cls) (some (some (.ref (ga K e.cls)))) && (keepIn K (.ref (ga K e.cls)) && (eqb (findIn K (.ref (ga K e.cls)) "__init__") (some (some (.ref (ma K (ga K e.cls) "__init__")))) && eqb (typeIn K (.ref (ma K (ga K e.cls) "__init__"))) (some (.type "function")))))))))))))))))
/-- the text of its __init__ -/
def eV (e : EDat) (p : Ps) : FnC := some (("__init__" : Str), e.qual, iA e.fld p, FuncBody.stmts (iB e.fld p), iS e.fld, mainGlobals, builtinsNs)
theorem and2 {a b : Bool} (h : (a && b) = true) : a = true ∧ b = true := Bool.and_eq_true_iff.mp h
theorem eB_ok {P : Program} {e : EDat} {K : Frag} {p : Ps} (FB : BaseF e.B e.newId e.initId e.bmB) (h : eB P e K = true) (t : fnC K (ma K (ga K e.cls) "__init__") = eV e p) (hl : (p.s3.endLine == p.s5.line) = true) :
    Sx P K (ga K e.cls) (ma K (ga K e.cls) "__init__") e.fld e.qual e.B e.newId e.initId e.bmB ∧ nsIn K mainGlobals e.cls = some (some (.ref (ga K e.cls))) ∧ keepIn K (.ref (ga K e.cls)) = true ∧
    findIn K (.ref (ga K e.cls)) "__init__" = some (some (.ref (ma K (ga K e.cls) "__init__"))) ∧ typeIn K (.ref (ma K (ga K e.cls) "__init__")) = some (.type "function") ∧
    (∀ fd, (∃ oc od osl, K.lookup (ma K (ga K e.cls) "__init__") = some ⟨oc, od, .func fd, osl⟩) → ∃ doc pm an cda ct cc, fd = ksFn "__init__" e.qual (iA e.fld p) (iB e.fld p) (iS e.fld) .none .none doc pm an (.ref cda) ct cc) := by
  unfold eB at h
  obtain ⟨h1, h⟩ := and2 h
  obtain ⟨h2, h⟩ := and2 h
  obtain ⟨h3, h⟩ := and2 h
  obtain ⟨h4, h⟩ := and2 h
  obtain ⟨h5, h⟩ := and2 h
  obtain ⟨h6, h⟩ := and2 h
  obtain ⟨h7, h⟩ := and2 h
  obtain ⟨h8, h⟩ := and2 h
  obtain ⟨h9, h⟩ := and2 h
  obtain ⟨h10, h⟩ := and2 h
  obtain ⟨h11, h⟩ := and2 h
  obtain ⟨h12, h⟩ := and2 h
  obtain ⟨h13, h⟩ := and2 h
  obtain ⟨h14, h⟩ := and2 h
  obtain ⟨h15, h⟩ := and2 h
  obtain ⟨h16, h17⟩ := and2 h
  generalize hf : ma K (ga K e.cls) "__init__" = f at *
  generalize hC : ga K e.cls = C at *
  have key : ∃ oc od doc pm an cda cc ct osl, K.lookup f = some ⟨oc, od, .func (ksFn "__init__" e.qual (iA e.fld p) (iB e.fld p) (iS e.fld) .none .none doc pm an (.ref cda) ct cc), osl⟩ ∧ codeIn K (.ref cda) e.qual = true ∧ cellB K cc C = true ∧ fileB P K cda = true := by
    unfold iniB at h13
    unfold fnC at t
    cases q : K.lookup f with
    | none =>
      rw [q] at h13
      cases h13
    | some o =>
      obtain ⟨oc, od, dt, osl⟩ := o
      rw [q] at h13 t
      cases dt with
      | func fd =>
        obtain ⟨n1, n2, n3, n4, n5, n6, n7, n8, n9, n10, n11, n12, n13, n14, n15⟩ := fd
        have t2 : (some (n1, n2, n3, n4, n5, n6, n15) : FnC) = some (("__init__" : Str), e.qual, iA e.fld p, FuncBody.stmts (iB e.fld p), iS e.fld, mainGlobals, builtinsNs) := t
        simp only [Option.some.injEq, Prod.mk.injEq] at t2
        obtain ⟨rfl, rfl, rfl, rfl, rfl, rfl, rfl⟩ := t2
        obtain ⟨k1, k2⟩ := and2 (show (eqb n8 .none && (eqb n9 .none && ((clO n7).any fun cc => (refO n13).any fun cda => cellB K cc C && (codeIn K (.ref cda) e.qual && fileB P K cda)))) = true from h13)
        obtain ⟨k2, k3⟩ := and2 k2
        obtain ⟨cc, k4, k5⟩ := (Option.any_eq_true _ _).mp k3
        obtain ⟨cda, k6, k7⟩ := (Option.any_eq_true _ _).mp k5
        obtain ⟨k7, k8⟩ := and2 k7
        obtain ⟨k8, k9⟩ := and2 k8
        have z8 := eqb_ok k1
        have z9 := eqb_ok k2
        have z7 := clO_ok k4
        have z13 := refO_ok k6
        subst z8 z9 z7 z13
        exact ⟨oc, od, n10, n11, n12, cda, cc, n14, osl, rfl, k8, k7, k9⟩
      | _ => cases h13
  obtain ⟨oc, od, doc, pm, an, cda, cc, ct, osl, l1, l2, l3, l4⟩ := key
  obtain ⟨cl, cld, csl, c1⟩ := cellB_ok l3
  obtain ⟨ccl, cdd, vs, ccs, file, tf, d1, d2, d3⟩ := fileB_ok l4
  refine ⟨{ FB := FB, q := h1, ov := h2, hd := h3, sup := eqb_ok h4, opq := eqb_ok h5, sa := eqb_ok h6, noN := eqb_ok h7, tk := eqb_ok h8, subB := eqb_ok h9, subS := eqb_ok h10, noSup := eqb_ok h11, top := by simpa using h12, fn := ⟨oc, od, doc, pm, an, cda, cc, ct, osl, p, l1, l2, ⟨cl, cld, csl, c1⟩, ccl, cdd, vs, ccs, file, tf, d1, d2, d3, hl⟩ },
    eqb_ok h14, h15, eqb_ok h16, eqb_ok h17, fun fd z => ?_⟩
  obtain ⟨oc', od', osl', z⟩ := z
  rw [l1] at z
  cases z
  exact ⟨doc, pm, an, cda, ct, cc, rfl⟩
/-! ### the Hook: facts (Bools of the written part), defs, inits -/
abbrev Al : Type := Bool × List He.FnW × List FnC
def obs (fs : List (Frag → Bool)) (fn : List DefD) (es : List EDat) (K : Frag) : Al := ((fs.all fun f => f K) && fn.all fun d => d.ok K, fn.map fun d => He.fnW K d.at_, es.map fun e => fnC K (ma K (ga K e.cls) "__init__"))
def val (fn : List DefD) (es : List (EDat × Ps)) : Al := (true, fn.map DefD.val, es.map fun e => eV e.1 e.2)
def Says (fs : List (Frag → Bool)) (fn : List DefD) (es : List (EDat × Ps)) (K : Frag) : Prop := obs fs fn (es.map Prod.fst) K = val fn es
def asX (g : Addr → Option Obj) (n : Nat) : List Addr := cStatics :: sysModules :: He.asD g n
def obsG (n : Nat) (fs : List (Frag → Bool)) (fn : List DefD) (es : List EDat) (g : Addr → Option Obj) : Al := obs fs fn es (He.frG g (asX g n))
def hook (n : Nat) (fs : List (Frag → Bool)) (fn : List DefD) (es : List (EDat × Ps)) : Hook where
  α := Al
  obs := fun s => obsG n fs fn (es.map Prod.fst) s.heap.get?
  val := fun _ => val fn es
  says := fun _ h => ∃ K : Frag, K.In h ∧ Says fs fn es K
  of := fun _ s e => ⟨He.frG s.heap.get? (asX s.heap.get? n), He.frG_in, (show obs fs fn (es.map Prod.fst) (He.frG s.heap.get? (asX s.heap.get? n)) = val fn es from e)⟩
  keeps := fun _ _ _ ⟨K, hK, c⟩ k => ⟨K, Frag.In.keeps hK k, c⟩
theorem obsG_eq {n : Nat} {fs : List (Frag → Bool)} {fn : List DefD} {es : List (EDat × Ps)} {g : Addr → Option Obj} {s : Shared} (h : ∀ a, g a = s.heap.get? a) : (obsG n fs fn (es.map Prod.fst) g : (hook n fs fn es).α) = (hook n fs fn es).obs s := by
  have e : g = s.heap.get? := funext h
  rw [e]
  rfl
section
variable {fs : List (Frag → Bool)} {fn : List DefD} {es : List (EDat × Ps)} {K : Frag}
theorem Says.fact (c : Says fs fn es K) (i : Nat) {f : Frag → Bool} (h : fs[i]? = some f := by rfl) : f K = true := by
  have c1 := (and2 (show ((fs.all fun f => f K) && fn.all fun d => d.ok K) = true from congrArg (fun z : Al => z.1) c)).1
  exact List.all_eq_true.mp c1 f (List.mem_of_getElem? h)
theorem Says.def_ (c : Says fs fn es K) (i : Nat) {d : DefD} (h : fn[i]? = some d := by rfl) : ∃ fd, FunD K d.name d.qual d.params d.body d.scope (d.dvs K) (d.kws K) (fAd K d.at_) fd := by
  have c1 := (and2 (show ((fs.all fun f => f K) && fn.all fun d => d.ok K) = true from congrArg (fun z : Al => z.1) c)).2
  have e : fn.map (fun d => He.fnW K d.at_) = fn.map DefD.val := congrArg (fun z : Al => z.2.1) c
  have e2 : (fn.map fun d => He.fnW K d.at_)[i]? = (fn.map DefD.val)[i]? := by rw [e]
  rw [List.getElem?_map, List.getElem?_map, h] at e2
  exact DefD.funD (Option.some.inj e2) (List.all_eq_true.mp c1 d (List.mem_of_getElem? h))
theorem Says.ini (c : Says fs fn es K) (i : Nat) {e : EDat × Ps} (h : es[i]? = some e := by rfl) : fnC K (ma K (ga K e.1.cls) "__init__") = eV e.1 e.2 := by
  have q : (es.map Prod.fst).map (fun e => fnC K (ma K (ga K e.cls) "__init__")) = es.map (fun e => eV e.1 e.2) := congrArg (fun z : Al => z.2.2) c
  have q2 : ((es.map Prod.fst).map fun e => fnC K (ma K (ga K e.cls) "__init__"))[i]? = (es.map fun e => eV e.1 e.2)[i]? := by rw [q]
  rw [List.getElem?_map, List.getElem?_map, List.getElem?_map, h] at q2
  exact Option.some.inj q2
end
end Hx

/-! defs that are called where no repr runs (A.guards = some []), the end of a law for such a def; repr of data; text * int -/
namespace L2
open PySem PySem.Spec PyProof.Rows
/-- the promise of a def, at calls that stand under no repr -/
structure FnG (P : Program) (w : World) (K : PySem.W.Frag) (mg : Str → Option Value) (base : Heap) (CX : CXT) (k : Nat) (f : Addr) (fd : FuncData) (ps : List Str) (sp : Sp) : Prop where
  len : ∀ vs H Q E, sp vs H Q E → vs.length = ps.length
  run : ∀ (A : Around) (outer : List Env) (s : Shared) (H : Hp) (args : Args) (us : List Value) (vs : List V) (Q : VK) (E : XK), A.guards = some [] → Room k A → Env0 P w K mg base A outer s H → BindsTo s fd args (ps.zip us) → Vals vs us → sp vs H Q E →
    codeAny (model P w) A (.call (.ref f) args) (CR CX outer P w H s Q E) s
section
variable {P : Program} {w : World} {K : PySem.W.Frag} {mg : Str → Option Value} {base : Heap} {CX : CXT} {k : Nat} {f : Addr} {fd : FuncData} {ps : List Str} {sp : Sp}
theorem FnOk.g (F : FnOk P w K mg base CX k f fd ps sp) : FnG P w K mg base CX k f fd ps sp := ⟨F.len, fun A outer s H args us vs Q E _ hr e0 hb r h => F.run A outer s H args us vs Q E hr e0 hb r h⟩
theorem FnG.mono {j : Nat} (F : FnG P w K mg base CX j f fd ps sp) (h : j ≤ k) : FnG P w K mg base CX k f fd ps sp := ⟨F.len, fun A outer s H args us vs Q E hg hr => F.run A outer s H args us vs Q E hg (hr.mono h)⟩
/-- a def of the text, by its body -/
theorem FunD.okG {x qual : Str} {params : Arguments} {body : List Stmt} {scope : Scope} {dvs : List V} {kws : List (Str × V)} {N : List Str} (F : FunD K x qual params body scope dvs kws f fd) (S : FnScope N ps scope) (len : ∀ vs H Q E, sp vs H Q E → vs.length = ps.length)
    (hbody : ∀ (cdv : Value) (A : Around) (outer : List Env) (s : Shared) (H : Hp) (vs : List V) (Q : VK) (E : XK), A.guards = some [] → Room k (A.deeper (envOfC qual scope s.heap.objs.size f cdv)) → sp vs H Q E →
      ∃ t, PSs (cxOf CX P w K mg base N qual scope f cdv A outer s H E) body t ∧ t { nx := fun _ H' => Q .non H', rt := Q } (start N vs) H) : FnG P w K mg base CX (k + 1) f fd ps sp := by
  obtain ⟨oc, od, dV, kV, doc, pm, an, cdv, ct, osl, rfl, lk, hcd, _, _⟩ := F.ex
  refine ⟨len, fun A outer s H args us vs Q E hg hr e0 hb r hsp => ?_⟩
  have hl := len _ _ _ _ hsp
  have kept : ∀ b o, base.get? b = some o → s.heap.get? b = some o := fun b o z => (e0.bs b o z).1
  have hk : ∀ y ∈ ps.zip us, scope.names.lookup y.1 = some .local ∨ (scope.names.lookup y.1 = some .cell ∧ ((cellsFrom (s.heap.objs.size + 1) scope.names []).lookup y.1).isSome = true) := fun y hy => by
    obtain ⟨n, v⟩ := y
    rcases S.par n (List.of_mem_zip hy).1 with q | q
    · exact Or.inl q
    · exact Or.inr ⟨q, PySem.W.cellsFrom_some _ _ _ (Or.inl q)⟩
  refine codeAny_call_function hr.depth (e0.mod.kin.keeps kept _ _ lk) rfl S.co S.gen rfl (PySem.W.codeRec_of (e0.mod.kin.keeps kept) hcd) (hb _ _ _ _ ?_)
  refine wpAny_newFunctionEnv_cells S.kind hk fun env he s1 x => ?_
  subst he
  refine ⟨(e0.mod.nolimit.keeps kept).keeps x.toInCall.keep, codeAny_func ?_⟩
  obtain ⟨t, ht, hq⟩ := hbody cdv A outer s H vs Q E hg (hr.deeper _) hsp
  have I : Inv (cxOf CX P w K mg base N qual scope f cdv A outer s H E) [] (start N vs) H s1 := inv_start S hr.hd e0 hl r x
  refine wpAny_mono (ht.run [] s1 (start N vs) H _ I hq) (fun fl s' hs => ?_) fun e s' hs => hs
  cases fl with
  | next =>
    obtain ⟨σ', H', J, q⟩ := hs
    exact ⟨V.non, H', J.os, J.bare, J.base, J.hok, rfl, q⟩
  | ret u =>
    obtain ⟨v, σ', H', J, rv, q⟩ := hs
    exact ⟨v, H', J.os, J.bare, J.base, J.hok, rv, q⟩
  | brk =>
    obtain ⟨_, _, _, q⟩ := hs
    exact q.elim
  | cont =>
    obtain ⟨_, _, _, q⟩ := hs
    exact q.elim
end
/-! ### the law's end for such a def -/
theorem law_callG {P : Program} {w : World} {K : PySem.W.Frag} {mg mb : Str → Option Value} {CX : CXT} {k : Nat} {fa a : Addr} {fd : FuncData} {x : Str} {sp : Sp} {s₁ : Shared} {vs : List Value} {ns : List Int}
    (KX : K.In s₁.heap) (hns : s₁.heap.Ns mainGlobals mg) (hb : s₁.heap.Ns builtinsNs mb) (hbb : ∀ x : Str, x ≠ "__name__" → mb x = bootBuiltins x) (hlim : s₁.heap.NoLimit) (hg : s₁.gens = #[])
    (ha : s₁.heap.get? a = some { cls := .type "list", data := .seq vs.toArray }) (hi : IntsAre vs ns) (hl : ns.length ≤ sizeLine) (hr : Room k callerA)
    (F : ∀ base : Heap, K.In base → base.Ns mainGlobals mg → FnG P w K mg base CX k fa fd [x] sp) (hbind : ∀ (s : Shared) (u : Value), BindsTo s fd ⟨[u], []⟩ [(x, u)])
    (hsp : ∀ H : Hp, Only H → SqL K H a (ns.map V.int) → sp [.ref a] H (fun v _ => v = .bl true) fun _ _ _ => False) (hCX : ∀ H e s', CX [] H s₁ (fun _ _ _ => False) e s' → False) :
    codeAny (model P w) callerA (.call (.ref fa) ⟨[.ref a], []⟩) (fun r s' => r = .ok (.ret (.bool true)) ∧ OldK s₁.heap s'.heap ∧ s'.os = s₁.os ∧ AllBare s'.gens) s₁ := by
  have rv := vals_ints hi
  -- the script alone is tracked, and it only where the written part does not hold it
  let H0 : Hp := fun b => if b = a ∧ K.lookup a = none then some (.frz { cls := .type "list", data := .seq vs.toArray } (.lst (ns.map V.int))) else none
  have tr : ∀ b u, H0 b = some u → b = a ∧ K.lookup a = none ∧ u = .frz { cls := .type "list", data := .seq vs.toArray } (.lst (ns.map V.int)) := fun b u z => by
    by_cases c : b = a ∧ K.lookup a = none
    · have z2 : some (HO.frz { cls := .type "list", data := .seq vs.toArray } (.lst (ns.map V.int))) = some u := (if_pos c).symm.trans z
      exact ⟨c.1, c.2, (Option.some.inj z2).symm⟩
    · have z2 : none = some u := (if_neg c).symm.trans z
      cases z2
  have off : ∀ {b : Addr} {o : Obj}, s₁.heap.get? b = some o → (∀ q n, o.data ≠ .seq q n) → H0 b = none := fun {b o} e d => by
    cases q : H0 b with
    | none => rfl
    | some u =>
      obtain ⟨rfl, _, _⟩ := tr b u q
      rw [ha] at e
      cases e
      exact (d _ _ rfl).elim
  have nsK : ∀ {b : Addr} {m : Str → Option Value}, s₁.heap.Ns b m → (hidT s₁.heap H0).Ns b m := fun {b m} z => by
    obtain ⟨o, es, ep, e, d, r⟩ := z
    exact ⟨o, es, ep, hidT_get e (off e fun q n y => by rw [d] at y; cases y), d, r⟩
  have hKb : K.In (hidT s₁.heap H0) := fun b o e => hidT_get (KX b o e) (by
    cases q : H0 b with
    | none => rfl
    | some u =>
      obtain ⟨rfl, n, _⟩ := tr b u q
      rw [n] at e
      cases e)
  have hok : HOk P w H0 s₁.heap := fun b u q => by
    obtain ⟨rfl, _, rfl⟩ := tr b u q
    exact ⟨ha, by rw [List.length_map]; exact hl, vs, _, rv, ha⟩
  have hO : Only H0 := fun b => by
    cases q : H0 b with
    | none => exact .inl rfl
    | some u =>
      obtain ⟨_, _, rfl⟩ := tr b u q
      exact .inr ⟨_, _, rfl⟩
  have hS : SqL K H0 a (ns.map V.int) := by
    cases hk : K.lookup a with
    | none => exact .inl (.inr ⟨_, if_pos ⟨rfl, hk⟩⟩)
    | some o =>
      have e := KX a o hk
      rw [ha] at e
      cases e
      exact .inr ⟨_, vs.toArray, _, hk, rfl, rfl, rfl, by rw [List.size_toArray, hi.length]; exact hl, by simpa using rv⟩
  have hM : Mod K mg (hidT s₁.heap H0) := ⟨hKb, nsK hns, ⟨mb, nsK hb, hbb⟩, by
    obtain ⟨mc, h1, h2⟩ := hlim
    exact ⟨mc, nsK h1, h2⟩⟩
  have e0 : Env0 P w K mg (hidT s₁.heap H0) callerA [] s₁ H0 := ⟨rfl, hM, fun b o e => of_hidT e, Nat.le_of_eq (hidT_size _ _), trivial, fun b hb => absurd (show b ∈ ([] : List Addr) from hb) (by simp), hok, .of_eq hg⟩
  refine codeAny_mono ((F _ hKb (nsK hns)).run callerA [] s₁ H0 ⟨[.ref a], []⟩ [.ref a] [.ref a] _ _ rfl hr e0 (hbind s₁ (.ref a)) (.cons rfl .nil) (hsp H0 hO hS)) fun r s' h => ?_
  cases r with
  | error e => exact (hCX H0 e s' h).elim
  | ok fl =>
    cases fl with
    | next => exact False.elim h
    | brk => exact False.elim h
    | cont => exact False.elim h
    | ret u =>
      obtain ⟨v, H', os, bare, un, hok', r', q⟩ := h
      have q' : v = .bl true := q
      subst q'
      obtain rfl : u = Value.bool true := r'
      refine ⟨rfl, OldK.of_keep fun b o e => ?_, os, bare⟩
      cases q : H0 b with
      | none => exact un.keep b o e q (fun z => absurd (show b ∈ ([] : List Addr) from z) (by simp)) (by simp)
      | some y =>
        obtain ⟨rfl, _, rfl⟩ := tr b y q
        have z2 := un.frzs _ _ _ q
        obtain ⟨e2, _⟩ := hok' _ _ z2
        rw [ha] at e
        cases e
        exact e2
theorem walk_ofG {l : PySem.W.OpenLaw} {n k : Nat} {q : Program} {loose : List Str} {XP : (Str → Option Value) → Heap → Prop} {YP : World → Heap → Prop} {d : DefRec} {CX : CXT} {x : Str}
    (hn : l.most = some n) (hn2 : n ≤ sizeLine) (hdf : d.params.defaults = []) (hr : Room k callerA)
    (F : ∀ (w : World) (mg : Str → Option Value) (fa : Addr) (h : Heap), YP w h → h.Ns mainGlobals mg → mg d.name = some (.ref fa) →
      ∃ (K : PySem.W.Frag) (fd : FuncData) (sp : Sp), K.In h ∧ (∀ (s : Shared) (u : Value), BindsTo s fd ⟨[u], []⟩ [(x, u)]) ∧
        (∀ (H : Hp) (a : Addr) (ns : List Int), ns.length ≤ n → (∀ z ∈ ns, Builtin.Int.intBits z ≤ 1048576) → Only H → SqL K H a (ns.map V.int) → sp [.ref a] H (fun v _ => v = .bl true) fun _ _ _ => False) ∧
        ∀ base : Heap, K.In base → base.Ns mainGlobals mg → FnG l.prog w K mg base CX k fa fd [x] sp)
    (hCX : ∀ (H : Hp) (s : Shared) (e : Value) (s' : Shared), CX [] H s (fun _ _ _ => False) e s' → False) :
    PySem.W.WalkO q loose XP YP l.row.toRowW d [] (fun f vs => PySem.call f vs) := by
  refine Att.attach_callB hn hdf fun w s₀ s₁ mg mb fa o pm cd doc a vs ns G Y ho hd hcd hmg hobj hints hlen hbits hg => ?_
  obtain ⟨K, fd, sp, KX, hb, hsp, hF⟩ := F w mg fa _ Y G.T.g hmg
  exact law_callG KX G.T.g G.T.b G.T.builtins G.T.nolimit hg hobj hints (Nat.le_trans hlen hn2) hr hF hb (fun H hO hS => hsp H a ns hlen hbits hO hS) fun H e s' => hCX H s₁ e s'
end L2

/-! heaps that only grow; made exceptions as relations; the field, isinstance with a class that the reading names; repr of data; text * int -/
namespace L2
open PySem PySem.Spec PyProof.Rows PySem.SX
/-- every tracked thing stays -/
def Grow (H H' : Hp) : Prop := ∀ a o, H a = some o → H' a = some o
theorem Grow.rfl' {H : Hp} : Grow H H := fun _ _ e => e
theorem Grow.trans {H H1 H2 : Hp} (a : Grow H H1) (b : Grow H1 H2) : Grow H H2 := fun x o e => b x o (a x o e)
theorem Grow.new {H : Hp} {a : Addr} {o : HO} (h : H a = none) : Grow H (upd H a o) := fun b u e => by
  rw [upd_ne (ne_of_none e h)]
  exact e
theorem Grow.to {H H1 : Hp} {a : Addr} {o : HO} (g : Grow H H1) (h : H1 a = none) : Grow H (upd H1 a o) := g.trans (.new h)
theorem Grow.sql {K : PySem.W.Frag} {H H' : Hp} {a : Addr} {xs : List V} (g : Grow H H') (h : SqL K H a xs) : SqL K H' a xs := by
  rcases h with h | h
  · rcases h with h | ⟨o, h⟩
    · exact .inl (.inl (g _ _ h))
    · exact .inl (.inr ⟨o, g _ _ h⟩)
  · exact .inr h
theorem PE.mono {X : Cx} {e : Expr} {t t' : TE} (h : PE X e t) (m : ∀ σ H Q, t' σ H Q → t σ H Q) : PE X e t' := ⟨fun pins s σ H Q I q => h.run pins s σ H Q I (m σ H Q q)⟩
theorem PA.mono {X : Cx} {es : List Expr} {t t' : TA} (h : PA X es t) (m : ∀ σ H Q, t' σ H Q → t σ H Q) : PA X es t' := ⟨fun pos pins s σ H Q I q => h.run pos pins s σ H Q I (m σ H Q q)⟩
/-- an exception of class C with its one field -/
def Ex1 (H : Hp) (v : V) (C : Addr) (f : Str) (e : Addr) : Prop := ∃ d, H e = some (exo e C (some d)) ∧ H d = some (.xd [(f, v)])
theorem Ex1.grow {H H' : Hp} {v : V} {C e : Addr} {f : Str} (h : Ex1 H v C f e) (g : Grow H H') : Ex1 H' v C f e := by
  obtain ⟨d, a, b⟩ := h
  exact ⟨d, g _ _ a, g _ _ b⟩
/-- C(e): the new exception, the heap grown -/
def tMk (C : Addr) (fld : Str) (te : TE) : TE := fun σ H Q => te σ H fun v H1 => ∀ e H', Grow H1 H' → Ex1 H' v C fld e → Q (.ref e) H'
def tMkK (C : Addr) (fld : Str) (tk : TA) : TE := fun σ H Q => tk σ H fun vs H1 => ∃ v, vs = [v] ∧ ∀ e H', Grow H1 H' → Ex1 H' v C fld e → Q (.ref e) H'
theorem ex1_new {H : Hp} {v : V} {C : Addr} {f : Str} {a d : Addr} (ha : H a = none) (hd : H d = none) (n : d ≠ a) : Grow H (upd (upd H d (.xd [(f, v)])) a (exo a C (some d))) ∧ Ex1 (upd (upd H d (.xd [(f, v)])) a (exo a C (some d))) v C f a := by
  refine ⟨(Grow.new hd).to ?_, d, upd_same, ?_⟩
  · rw [upd_ne (Ne.symm n)]
    exact ha
  · rw [upd_ne n]
    exact upd_same
section
variable {X : Cx} {pins : List (Addr × Obj)} {σ : St} {H : Hp} {s : Shared} {x : Str} {C fI : Addr} {fld qual : Str} {B newId initId : String} {bmB : List Value}
theorem pe_mk {k : Nat} {e : Expr} {te : TE} {p pos : Pos} (T : SxT X.prog X.K X.mg x C fI fld qual B newId initId bmB) (hr : Room k X.A) (he : PE X e te) (hm : ∀ σ H Q Q', (∀ v H, Q v H → Q' v H) → te σ H Q → te σ H Q') (hg : Gl X x := by rfl) (hs : starEach (e :: []) X.env = (false, eval e X.env) :: starEach [] X.env := by rfl) (hpl : (backTo pos (starEach [] X.env)).any (·.1) = false := by rfl)
    (hdb : (x == ("__debug__" : Str)) = false := by decide) : PE X (.Call (.Name x p) [e] [] pos) (tMk C fld te) :=
  (pe_sx T hr he hg hs hpl hdb).mono fun σ H Q q => hm _ _ _ _ (fun v H1 z a d ha hd n => z a _ (ex1_new ha hd n).1 (ex1_new ha hd n).2) q
theorem pe_mkK {k : Nat} {kws : List Keyword} {tk : TA} {p pos : Pos} (T : SxT X.prog X.K X.mg x C fI fld qual B newId initId bmB) (hr : Room k X.A) (hkw : PK X kws tk) (hm : ∀ σ H Q Q', (∀ v H, Q v H → Q' v H) → tk σ H Q → tk σ H Q') (hg : Gl X x := by rfl)
    (hall : (backToKw pos (keywordEach kws X.env)).all (·.1.isSome) = true := by rfl) (hks : (backToKw pos (keywordEach kws X.env)).filterMap (·.1) = [fld] := by rfl) (hdb : (x == ("__debug__" : Str)) = false := by decide)
    (hpl : ((backTo pos (starEach [] X.env)).any (·.1) || (backToKw pos (keywordEach kws X.env)).any (·.1.isNone)) = false := by rfl) : PE X (.Call (.Name x p) [] kws pos) (tMkK C fld tk) :=
  (pe_sxk T hr hkw hg hall hks hdb hpl).mono fun σ H Q q => hm _ _ _ _ (fun vs H1 z => by
    obtain ⟨v, e, z⟩ := z
    exact ⟨v, e, fun a d ha hd n => z a _ (ex1_new ha hd n).1 (ex1_new ha hd n).2⟩) q
theorem var_mono {i : Nat} : ∀ (σ : St) (H : Hp) (Q Q' : VK), (∀ v H, Q v H → Q' v H) → tVar i σ H Q → tVar i σ H Q' := fun σ H Q Q' m h => by
  obtain ⟨v, e, q⟩ := h
  exact ⟨v, e, m _ _ q⟩
/-! the field, its class told in the reading -/
structure XfA (K : PySem.W.Frag) (C : Addr) (n : Str) : Prop where
  c : XfC K C
  no : PySem.W.findIn K (.ref C) n = some none
def tExD (K : PySem.W.Frag) (f : Str) (te : TE) : TE := fun σ H Q => te σ H fun x H1 => ∃ (a C : Addr) (v : V), x = .ref a ∧ XfA K C f ∧ Ex1 H1 v C f a ∧ Q v H1
theorem pe_exD {e : Expr} {te : TE} {pos : Pos} {n : Str} (he : PE X e te) (hb : attributeBase e n X.env (eval e X.env) = eval e X.env := by rfl) : PE X (.Attribute e n pos) (tExD X.K n te) := by
  refine ⟨fun pins s σ H Q I h => ?_⟩
  refine attr_of hb (thn (he.run pins s σ H _ I h) fun u s1 hh => ?_)
  obtain ⟨x, H1, I1, rx, a, C, v, ex, T, ⟨dd, ea, ed⟩, q⟩ := hh
  subst ex
  obtain rfl : u = Value.ref a := rx
  have hx : ObjOk X.prog X.w H1 s1.heap dd (.xd [(n, v)]) := I1.hok dd _ ed
  obtain ⟨mA, hns, hr⟩ := hx
  obtain ⟨od, ho, hl⟩ := lookIn_ns hns
  have el : ([(n, v)] : List (Str × V)).lookup n = some v := by simp
  obtain ⟨u, hu, ru⟩ := RelO.some_of (v := v) (o := mA n) (by rw [← el]; exact hr n)
  obtain ⟨t1, hoa⟩ := exo_at I1.hok ea
  have J : PySem.W.InstAt s1.heap a _ C (some od) := ⟨hoa, rfl, rfl, ho⟩
  exact HandSPX.exc_get I1.kIn J T.c.ga T.c.gg T.c.exC (PySem.W.findObj_own T.c.hdC T.no rfl (by rw [hl, hu])) (handed_of ru) ⟨v, H1, I1.tok _, ru, q⟩
/-! isinstance(e, c), e a tracked exception whose class the reading tells -/
def rIsD (K : PySem.W.Frag) : List V → Hp → VK → Prop := fun xs H Q => ∃ (a C : Addr) (d : Option Addr) (c : V) (cv : Value) (b : Bool), xs = [.ref a, c] ∧ ExcC K C ∧ H a = some (exo a C d) ∧ (∀ dd, d = some dd → ∃ fs, H dd = some (.xd fs)) ∧ (∀ u, RelV c u → u = cv) ∧ PySem.W.kitOne K (.ref C) cv = some b ∧ Q (.bl b) H
theorem call_isD : CallR X (.builtin "isinstance") (rIsD X.K) := by
  intro pins s σ H xs us Q I r h
  obtain ⟨a, C, d, c, cv, b, e1, E, ea, ed, hcv, e, q⟩ := h
  exact call_isX E pins s σ H xs us Q I r ⟨a, d, c, cv, b, e1, ea, ed, hcv, e, q⟩
/-! text * int -/
def rStrMul : R2 := fun x y H Q => ∃ a n, x = .str a ∧ y = .int n ∧ MulOk a n ∧ Q (.str (Txt.mul a n)) H
theorem op_strMul : OpR X (binaryOp .Mult) rStrMul := by
  intro pins s σ H x y v u Q I rx ry h
  obtain ⟨a, n, rfl, rfl, ok, q⟩ := h
  obtain ⟨t, rfl⟩ := rx
  obtain ⟨t2, rfl⟩ := ry
  exact SB.mul ok fun t' k => ⟨.str _, H, I.tok k, ⟨t', rfl⟩, q⟩
end
/-! ### repr of data -/
mutual
inductive Sh (H : Hp) : V → PyData → Prop
  | non : Sh H .non .none
  | bl (b : Bool) : Sh H (.bl b) (.bool b)
  | int (i : Int) : Sh H (.int i) (.int i)
  | str (x : Str) : Sh H (.str x) (.str x)
  | lst {a : Addr} {xs : List V} {ds : List PyData} : H a = some (.lst xs) → ShA H xs ds → Sh H (.ref a) (.list ds)
  | tup {a : Addr} {xs : List V} {ds : List PyData} : H a = some (.tup xs) → ShA H xs ds → Sh H (.ref a) (.tuple ds)
  | dct {a : Addr} {kvs : List (Key × V)} {ds : List (PyData × PyData)} : H a = some (.dK kvs) → ShA H (kvs.map fun p => kV p.1) (ds.map (·.1)) → ShA H (kvs.map (·.2)) (ds.map (·.2)) → Sh H (.ref a) (.dict ds)
inductive ShA (H : Hp) : List V → List PyData → Prop
  | nil : ShA H [] []
  | cons {v : V} {vs : List V} {d : PyData} {ds : List PyData} : Sh H v d → ShA H vs ds → ShA H (v :: vs) (d :: ds)
end
mutual
theorem Sh.grow {H H' : Hp} (g : Grow H H') : ∀ {v : V} {d : PyData}, Sh H v d → Sh H' v d
  | _, _, .non => .non
  | _, _, .bl b => .bl b
  | _, _, .int i => .int i
  | _, _, .str x => .str x
  | _, _, .lst e a => .lst (g _ _ e) (ShA.grow g a)
  | _, _, .tup e a => .tup (g _ _ e) (ShA.grow g a)
  | _, _, .dct e a b => .dct (g _ _ e) (ShA.grow g a) (ShA.grow g b)
theorem ShA.grow {H H' : Hp} (g : Grow H H') : ∀ {v : List V} {d : List PyData}, ShA H v d → ShA H' v d
  | _, _, .nil => .nil
  | _, _, .cons a b => .cons (Sh.grow g a) (ShA.grow g b)
end
theorem ShA.get {H : Hp} : ∀ {vs : List V} {ds : List PyData}, ShA H vs ds → ∀ (i : Nat) (v : V), vs[i]? = some v → ∃ d, ds[i]? = some d ∧ Sh H v d
  | _, _, .nil, i, v, e => by simp at e
  | _, _, .cons a b, 0, v, e => by
    simp at e
    subst e
    exact ⟨_, rfl, a⟩
  | _, _, .cons a b, i + 1, v, e => by
    obtain ⟨d, h1, h2⟩ := ShA.get b i v (by simpa using e)
    exact ⟨d, by simpa using h1, h2⟩
theorem ShA.app {H : Hp} : ∀ {vs ws : List V} {ds es : List PyData}, ShA H vs ds → ShA H ws es → ShA H (vs ++ ws) (ds ++ es)
  | _, _, _, _, .nil, h => h
  | _, _, _, _, .cons a b, h => .cons a (ShA.app b h)
theorem ShA.take {H : Hp} : ∀ {vs : List V} {ds : List PyData} (n : Nat), ShA H vs ds → ShA H (vs.take n) (ds.take n)
  | _, _, 0, _ => .nil
  | _, _, n + 1, .nil => .nil
  | _, _, n + 1, .cons a b => .cons a (ShA.take n b)
theorem ShA.drop {H : Hp} : ∀ {vs : List V} {ds : List PyData} (n : Nat), ShA H vs ds → ShA H (vs.drop n) (ds.drop n)
  | _, _, 0, h => h
  | _, _, n + 1, .nil => .nil
  | _, _, n + 1, .cons a b => ShA.drop n b
theorem ShA.rep {H : Hp} {v : V} {d : PyData} (h : Sh H v d) : ∀ n : Nat, ShA H (List.replicate n v) (List.replicate n d)
  | 0 => .nil
  | n + 1 => .cons h (ShA.rep h n)
theorem ShA.len {H : Hp} : ∀ {vs : List V} {ds : List PyData}, ShA H vs ds → vs.length = ds.length
  | _, _, .nil => rfl
  | _, _, .cons _ b => by
    show _ + 1 = _ + 1
    rw [ShA.len b]
/-- the written part says that the table of modules is a dict -/
def SmD (K : PySem.W.Frag) : Prop := ∃ o, K.lookup sysModules = some o ∧ o.cls ≠ .type "list"
section
variable {X : Cx} {pins : List (Addr × Obj)} {σ : St} {H : Hp} {s : Shared}
theorem kv_keys {P : Program} {w : World} : ∀ {es : List DictEntry} {kvs : List (Key × Value)} {ks : List (Key × V)}, Pairs (mixKind P w) es kvs → KV ks kvs → Vals (ks.map fun q => kV q.1) (es.map (·.key)) ∧ Vals (ks.map (·.2)) (es.map (·.val))
  | [], [], ks, _, r => by
    cases r
    exact ⟨.nil, .nil⟩
  | e :: es, kv :: kvs, _, p, r => by
    cases r with
    | @cons q _ qs _ hr t =>
      obtain ⟨h1, h2, p2⟩ : keyIs kv.1 e.key = true ∧ e.val = kv.2 ∧ Pairs (mixKind P w) es kvs := by
        cases p with
        | cons a b c => first | exact ⟨b, a, c⟩ | exact ⟨a, b, c⟩ | skip
      obtain ⟨i1, i2⟩ := kv_keys p2 t
      obtain ⟨r1, r2⟩ := hr
      refine ⟨.cons ?_ i1, .cons ?_ i2⟩
      · have h1' : keyIs kv.1 e.key = true := h1
        rw [← r1] at h1'
        show RelV (kV q.1) e.key
        rcases keyIs_shape h1' with ⟨i, t, e1, e2⟩ | ⟨i, t, e1, e2⟩
        · rw [e1, e2]
          exact ⟨t, rfl⟩
        · rw [e1, e2]
          exact ⟨t, rfl⟩
      · show RelV q.2 e.val
        rw [h2]
        exact r2
mutual
theorem Sh.reads (I : Inv X pins σ H s) (m : SmD X.K) : ∀ {v : V} {d : PyData}, Sh H v d → ∀ u : Value, RelV v u → ∃ as, Reads s.heap u d as ∧ sysModules ∉ as
  | _, _, .non, _, r => by
    cases r
    exact ⟨_, Reads.none, by simp⟩
  | _, _, .bl b, _, r => by
    cases r
    exact ⟨_, Reads.bool b, by simp⟩
  | _, _, .int i, _, r => by
    obtain ⟨t, rfl⟩ := r
    exact ⟨_, Reads.int i t, by simp⟩
  | _, _, .str x, _, r => by
    obtain ⟨t, rfl⟩ := r
    exact ⟨_, Reads.str x t, by simp⟩
  | _, _, @Sh.lst _ a xs ds e ha, _, r => by
    cases r
    obtain ⟨_, its, n, rv, ho⟩ := (show ObjOk X.prog X.w H s.heap a (.lst xs) from I.hok a _ e)
    obtain ⟨as, hr, hn⟩ := ShA.reads I m ha its rv
    refine ⟨_, Reads.list ho rfl rfl hr, fun z => ?_⟩
    rcases List.mem_cons.mp z with z | z
    · obtain ⟨o, ko, hc⟩ := m
      have q := I.kIn _ _ ko
      rw [z, ho] at q
      cases q
      exact hc rfl
    · exact hn z
  | _, _, @Sh.tup _ a xs ds e ha, _, r => by
    cases r
    obtain ⟨_, its, rv, o, ho, hc, n, hd⟩ := (show ObjOk X.prog X.w H s.heap a (.tup xs) from I.hok a _ e)
    obtain ⟨as, hr, hn⟩ := ShA.reads I m ha its rv
    exact ⟨_, Reads.tuple ho hc hd hr, hn⟩
  | _, _, @Sh.dct _ a kvs ds e ha hb, _, r => by
    cases r
    obtain ⟨_, hs, vs, rk, o, es, ep, ho, hx, hd, _, hp, _⟩ := (show ObjOk X.prog X.w H s.heap a (.dK kvs) from I.hok a _ e)
    obtain ⟨k1, k2⟩ := kv_keys hp rk
    obtain ⟨as, hr, hn⟩ := ShA.reads I m ha _ k1
    obtain ⟨bs, hr2, hn2⟩ := ShA.reads I m hb _ k2
    refine ⟨_, Reads.dict ho hx.1 hd hr hr2, fun z => ?_⟩
    rcases List.mem_append.mp z with z | z
    · rcases List.mem_cons.mp z with z | z
      · rw [← z] at hs
        simp at hs
      · exact hn z
    · exact hn2 z
theorem ShA.reads (I : Inv X pins σ H s) (m : SmD X.K) : ∀ {vs : List V} {ds : List PyData}, ShA H vs ds → ∀ us : List Value, Vals vs us → ∃ as, ReadsAll s.heap us ds as ∧ sysModules ∉ as
  | _, _, .nil, _, r => by
    cases r
    exact ⟨_, ReadsAll.nil, by simp⟩
  | _, _, .cons h1 h2, _, r => by
    cases r with
    | cons r1 r2 =>
      obtain ⟨as, q1, n1⟩ := Sh.reads I m h1 _ r1
      obtain ⟨bs, q2, n2⟩ := ShA.reads I m h2 _ r2
      exact ⟨_, ReadsAll.cons q1 q2, fun z => (List.mem_append.mp z).elim n1 n2⟩
end
/-- repr(x), x a list or a tuple or a dict of data -/
def rRepr : List V → Hp → VK → Prop := fun xs H Q => ∃ a d, xs = [.ref a] ∧ Sh H (.ref a) d ∧ d.showable = true ∧ d.shown.length ≤ sizeLine ∧ d.depth ≤ 60 ∧ Q (.str d.shown) H
theorem call_repr (hg : X.A.guards = some []) (hu : X.A.units + 64 < cLine) (m : SmD X.K) : CallR X (.builtin "repr") rRepr := by
  intro pins s σ H xs us Q I r h
  obtain ⟨a, d, rfl, sh, hs, hz, hd, q⟩ := h
  rw [Vals.ref1 r]
  obtain ⟨as, rd, hn⟩ := Sh.reads I m sh _ (show RelV (.ref a) (.ref a) from rfl)
  exact repr_of_reads' rd hs (fun _ => hn) hg (by omega) (fun b o e => e) (fun h' u tk k => ⟨.str _, H, I.kept (t' := tk) k, ⟨u, rfl⟩, q⟩) hz
end
end L2

/-! data written out, by what it shows as -/
namespace L2
open PySem PySem.Spec PyProof.Rows PySem.SX
mutual
/-- data without dicts does not see a dict that is filled -/
theorem Sh.off {H : Hp} {a : Addr} {k : List (Key × V)} {o : HO} (e : H a = some (.dK k)) : ∀ {v : V} {d : PyData}, Sh H v d → d.hasDict = false → Sh (upd H a o) v d
  | _, _, .non, _ => .non
  | _, _, .bl b, _ => .bl b
  | _, _, .int i, _ => .int i
  | _, _, .str x, _ => .str x
  | _, _, .lst q r, z => .lst (by
      rw [upd_ne (ne_of q e (by intro y; cases y))]
      exact q) (ShA.off e r (by simpa only [PyData.hasDict] using z))
  | _, _, .tup q r, z => .tup (by
      rw [upd_ne (ne_of q e (by intro y; cases y))]
      exact q) (ShA.off e r (by simpa only [PyData.hasDict] using z))
  | _, _, .dct _ _ _, z => by simp only [PyData.hasDict] at z; cases z
theorem ShA.off {H : Hp} {a : Addr} {k : List (Key × V)} {o : HO} (e : H a = some (.dK k)) : ∀ {vs : List V} {ds : List PyData}, ShA H vs ds → PyData.hasDictAll ds = false → ShA (upd H a o) vs ds
  | _, _, .nil, _ => .nil
  | _, _, .cons q r, z => by
    simp only [PyData.hasDictAll, Bool.or_eq_false_iff] at z
    exact .cons (Sh.off e q z.1) (ShA.off e r z.2)
end
def tSh (d : PyData) : TE := fun _ H Q => ∀ v H', Grow H H' → Sh H' v d → Q v H'
def tShA (ds : List PyData) : TA := fun _ H Q => ∀ vs H', Grow H H' → ShA H' vs ds → Q vs H'
section
variable {X : Cx} {e : Expr} {es : List Expr} {te : TE} {t : TA} {pos : Pos} {d : PyData} {ds : List PyData}
theorem sh_non {j : Nat} : PE X (.Constant .none j pos) (tSh .none) := pe_non.mono fun _ H Q q => q _ _ Grow.rfl' .non
theorem sh_bl {b : Bool} {j : Nat} : PE X (.Constant (.bool b) j pos) (tSh (.bool b)) := pe_bl.mono fun _ H Q q => q _ _ Grow.rfl' (.bl b)
theorem sh_int {i : Int} {j : Nat} : PE X (.Constant (.int i) j pos) (tSh (.int i)) := pe_int.mono fun _ H Q q => q _ _ Grow.rfl' (.int i)
theorem sh_str {x : Str} {j : Nat} : PE X (.Constant (.str x) j pos) (tSh (.str x)) := pe_str.mono fun _ H Q q => q _ _ Grow.rfl' (.str x)
theorem sh_neg {i : Int} {j : Nat} {p : Pos} : PE X (.UnaryOp .USub (.Constant (.int i) j p) pos) (tSh (.int (-i))) := (pe_un un_neg pe_int).mono fun _ H Q q => ⟨i, rfl, q _ _ Grow.rfl' (.int (-i))⟩
theorem sh_pow {i k : Int} {j1 j2 : Nat} {p p2 : Pos} (h : CPow i k := by decide) : PE X (.BinOp (.Constant (.int i) j1 p) .Pow (.Constant (.int k) j2 p2) pos) (tSh (.int (i ^ k.toNat))) := (pe_op op_pow pe_int pe_int).mono fun _ H Q q => ⟨i, k, rfl, rfl, h, q _ _ Grow.rfl' (.int _)⟩
theorem sha_nil : PA X [] (tShA []) := pa_nil.mono fun _ H Q q => q _ _ Grow.rfl' .nil
theorem sha_cons (h : PE X e (tSh d)) (r : PA X es (tShA ds)) (hs : starEach (e :: es) X.env = (false, eval e X.env) :: starEach es X.env := by rfl) : PA X (e :: es) (tShA (d :: ds)) :=
  (pa_cons h r hs).mono fun _ H Q q v H1 g s vs H2 g2 s2 => q _ _ (g.trans g2) (.cons (s.grow g2) s2)
theorem sh_lst (r : PA X es (tShA ds)) (hz : ds.length ≤ sizeLine := by (rw [sizeLine_eq]; decide)) : PE X (.List es pos) (tSh (.list ds)) :=
  (pe_lst r).mono fun _ H Q q vs H1 g s => ⟨by rw [s.len]; exact hz, fun p hp => q _ _ (g.to hp) (.lst upd_same (s.grow (Grow.new hp)))⟩
theorem sh_tup {x1 : Nat} (r : PA X es (tShA ds)) (hz : ds.length ≤ sizeLine := by (rw [sizeLine_eq]; decide)) : PE X (.Tuple es x1 pos) (tSh (.tuple ds)) :=
  (pe_tup r).mono fun _ H Q q vs H1 g s => ⟨by rw [s.len]; exact hz, fun p hp => q _ _ (g.to hp) (.tup upd_same (s.grow (Grow.new hp)))⟩
theorem sh_dct0 : PE X (.Dict [] [] pos) (tSh (.dict [])) := pe_dnewK.mono fun _ H Q q => fun p hp => q _ _ (Grow.new hp) (.dct upd_same .nil .nil)
theorem sh_dct1 {x : Str} {j : Nat} {p : Pos} (h : PE X e (tSh d)) (hd : d.hasDict = false := by decide) : PE X (.Dict [some (.Constant (.str x) j p)] [e] pos) (tSh (.dict [(.str x, d)])) :=
  (pe_disp (pps_cons pe_str h pps_nil) rfl rfl (by simp) (by simp)).mono fun σ H Q q => fun p hp => fun v H1 g s => by
    have hp1 : H1 p = some (.dK []) := g _ _ upd_same
    have gz : Grow H (upd H1 p (.dK [(Sum.inr x, v)])) := fun b o e => by
      have nb : b ≠ p := ne_of_none e hp
      rw [upd_ne nb]
      exact g b o (by rw [upd_ne nb]; exact e)
    refine ⟨hp1, [(Sum.inr x, v)], rfl, by simp, q _ _ gz ?_⟩
    have s' : Sh (upd H1 p (.dK [(Sum.inr x, v)])) v d := s.off hp1 hd
    exact .dct upd_same (.cons (.str x) .nil) (.cons s' .nil)
end
end L2

namespace K96
open PySem PySem.Spec PyProof.Rows L2 PySem.SX Hx
def top (i : Nat) : Stmt := PySem.Challenge.pw_lendroads_k96_errors_and_their_fields.main.body.getD i (.Pass ⟨0, 0, 0, 0⟩)
abbrev sValues : Stmt := top 21
abbrev sMade : Stmt := top 22
abbrev sNamed : Stmt := top 23
abbrev sFields : Stmt := top 24
abbrev sKinds : Stmt := top 25
abbrev sPython : Stmt := top 26
abbrev sLaw : Stmt := top 27
def dValues : He.DefD := ⟨("_law_values", none), "_law_values", "_law_values", defArgs sValues, defBody sValues, defScope sValues, [], []⟩
def dMade : He.DefD := ⟨("_law_made", none), "_law_made", "_law_made", defArgs sMade, defBody sMade, defScope sMade, [], []⟩
def dNamed : He.DefD := ⟨("_law_named", none), "_law_named", "_law_named", defArgs sNamed, defBody sNamed, defScope sNamed, [], []⟩
def dFields : He.DefD := ⟨("_law_fields", none), "_law_fields", "_law_fields", defArgs sFields, defBody sFields, defScope sFields, [], []⟩
def dKinds : He.DefD := ⟨("_law_kinds", none), "_law_kinds", "_law_kinds", defArgs sKinds, defBody sKinds, defScope sKinds, [], []⟩
def dPython : He.DefD := ⟨("_law_python", none), "_law_python", "_law_python", defArgs sPython, defBody sPython, defScope sPython, [], []⟩
def dLaw : He.DefD := ⟨("law", none), "law", "law", defArgs sLaw, defBody sLaw, defScope sLaw, [], []⟩
def fn : List He.DefD := [dValues, dMade, dNamed, dFields, dKinds, dPython, dLaw]
abbrev R : PySem.W.OpenRow := PySem.W.OpenLaw.row PySem.Challenge.rw_lendroads_k96_errors_and_their_fields
def cn0 : List Str := ["InvalidNode", "InvalidEdge", "InvalidLength", "InvalidNodes", "UnknownNode", "UnknownEdge", "OutOfRange", "InvalidText", "InvalidCommand", "InvalidChange"]
def cn1 : List Str := ["NotPath", "NotCalm", "NotLeast", "TooMany", "OtherNetwork", "NotJoined", "NothingToUndo", "NothingToRedo", "InTrial"]
def cn : List Str := cn0 ++ cn1
abbrev reMro : List Value := [.type "RuntimeError", .type "Exception", .type "BaseException", .type "object"]
def en : List (EDat × Ps) := [
  (⟨"InvalidNode", "value", "InvalidNode.__init__", "ValueError", "ValueError.__new__", "ValueError.__init__", veMro⟩, ⟨⟨4, 17, 4, 21⟩, ⟨4, 23, 4, 28⟩, ⟨5, 8, 5, 13⟩, ⟨5, 8, 5, 15⟩, ⟨5, 8, 5, 24⟩, ⟨5, 25, 5, 30⟩, ⟨5, 8, 5, 31⟩, ⟨5, 8, 5, 31⟩, ⟨6, 8, 6, 12⟩, ⟨6, 8, 6, 18⟩, ⟨6, 21, 6, 26⟩, ⟨6, 8, 6, 26⟩⟩),
  (⟨"InvalidEdge", "value", "InvalidEdge.__init__", "ValueError", "ValueError.__new__", "ValueError.__init__", veMro⟩, ⟨⟨9, 17, 9, 21⟩, ⟨9, 23, 9, 28⟩, ⟨10, 8, 10, 13⟩, ⟨10, 8, 10, 15⟩, ⟨10, 8, 10, 24⟩, ⟨10, 25, 10, 30⟩, ⟨10, 8, 10, 31⟩, ⟨10, 8, 10, 31⟩, ⟨11, 8, 11, 12⟩, ⟨11, 8, 11, 18⟩, ⟨11, 21, 11, 26⟩, ⟨11, 8, 11, 26⟩⟩),
  (⟨"InvalidLength", "value", "InvalidLength.__init__", "ValueError", "ValueError.__new__", "ValueError.__init__", veMro⟩, ⟨⟨14, 17, 14, 21⟩, ⟨14, 23, 14, 28⟩, ⟨15, 8, 15, 13⟩, ⟨15, 8, 15, 15⟩, ⟨15, 8, 15, 24⟩, ⟨15, 25, 15, 30⟩, ⟨15, 8, 15, 31⟩, ⟨15, 8, 15, 31⟩, ⟨16, 8, 16, 12⟩, ⟨16, 8, 16, 18⟩, ⟨16, 21, 16, 26⟩, ⟨16, 8, 16, 26⟩⟩),
  (⟨"InvalidNodes", "value", "InvalidNodes.__init__", "ValueError", "ValueError.__new__", "ValueError.__init__", veMro⟩, ⟨⟨24, 17, 24, 21⟩, ⟨24, 23, 24, 28⟩, ⟨25, 8, 25, 13⟩, ⟨25, 8, 25, 15⟩, ⟨25, 8, 25, 24⟩, ⟨25, 25, 25, 30⟩, ⟨25, 8, 25, 31⟩, ⟨25, 8, 25, 31⟩, ⟨26, 8, 26, 12⟩, ⟨26, 8, 26, 18⟩, ⟨26, 21, 26, 26⟩, ⟨26, 8, 26, 26⟩⟩),
  (⟨"UnknownNode", "value", "UnknownNode.__init__", "KeyError", "LookupError.__new__", "KeyError.__init__", keMro⟩, ⟨⟨58, 17, 58, 21⟩, ⟨58, 23, 58, 28⟩, ⟨59, 8, 59, 13⟩, ⟨59, 8, 59, 15⟩, ⟨59, 8, 59, 24⟩, ⟨59, 25, 59, 30⟩, ⟨59, 8, 59, 31⟩, ⟨59, 8, 59, 31⟩, ⟨60, 8, 60, 12⟩, ⟨60, 8, 60, 18⟩, ⟨60, 21, 60, 26⟩, ⟨60, 8, 60, 26⟩⟩),
  (⟨"UnknownEdge", "value", "UnknownEdge.__init__", "KeyError", "LookupError.__new__", "KeyError.__init__", keMro⟩, ⟨⟨63, 17, 63, 21⟩, ⟨63, 23, 63, 28⟩, ⟨64, 8, 64, 13⟩, ⟨64, 8, 64, 15⟩, ⟨64, 8, 64, 24⟩, ⟨64, 25, 64, 30⟩, ⟨64, 8, 64, 31⟩, ⟨64, 8, 64, 31⟩, ⟨65, 8, 65, 12⟩, ⟨65, 8, 65, 18⟩, ⟨65, 21, 65, 26⟩, ⟨65, 8, 65, 26⟩⟩),
  (⟨"OutOfRange", "value", "OutOfRange.__init__", "IndexError", "IndexError.__new__", "IndexError.__init__", ieMro⟩, ⟨⟨68, 17, 68, 21⟩, ⟨68, 23, 68, 28⟩, ⟨69, 8, 69, 13⟩, ⟨69, 8, 69, 15⟩, ⟨69, 8, 69, 24⟩, ⟨69, 25, 69, 30⟩, ⟨69, 8, 69, 31⟩, ⟨69, 8, 69, 31⟩, ⟨70, 8, 70, 12⟩, ⟨70, 8, 70, 18⟩, ⟨70, 21, 70, 26⟩, ⟨70, 8, 70, 26⟩⟩),
  (⟨"InvalidText", "line", "InvalidText.__init__", "ValueError", "ValueError.__new__", "ValueError.__init__", veMro⟩, ⟨⟨19, 17, 19, 21⟩, ⟨19, 23, 19, 27⟩, ⟨20, 8, 20, 13⟩, ⟨20, 8, 20, 15⟩, ⟨20, 8, 20, 24⟩, ⟨20, 25, 20, 29⟩, ⟨20, 8, 20, 30⟩, ⟨20, 8, 20, 30⟩, ⟨21, 8, 21, 12⟩, ⟨21, 8, 21, 17⟩, ⟨21, 20, 21, 24⟩, ⟨21, 8, 21, 24⟩⟩),
  (⟨"InvalidCommand", "line", "InvalidCommand.__init__", "ValueError", "ValueError.__new__", "ValueError.__init__", veMro⟩, ⟨⟨34, 17, 34, 21⟩, ⟨34, 23, 34, 27⟩, ⟨35, 8, 35, 13⟩, ⟨35, 8, 35, 15⟩, ⟨35, 8, 35, 24⟩, ⟨35, 25, 35, 29⟩, ⟨35, 8, 35, 30⟩, ⟨35, 8, 35, 30⟩, ⟨36, 8, 36, 12⟩, ⟨36, 8, 36, 17⟩, ⟨36, 20, 36, 24⟩, ⟨36, 8, 36, 24⟩⟩),
  (⟨"InvalidChange", "index", "InvalidChange.__init__", "ValueError", "ValueError.__new__", "ValueError.__init__", veMro⟩, ⟨⟨29, 17, 29, 21⟩, ⟨29, 23, 29, 28⟩, ⟨30, 8, 30, 13⟩, ⟨30, 8, 30, 15⟩, ⟨30, 8, 30, 24⟩, ⟨30, 25, 30, 30⟩, ⟨30, 8, 30, 31⟩, ⟨30, 8, 30, 31⟩, ⟨31, 8, 31, 12⟩, ⟨31, 8, 31, 18⟩, ⟨31, 21, 31, 26⟩, ⟨31, 8, 31, 26⟩⟩),
  (⟨"NotPath", "index", "NotPath.__init__", "ValueError", "ValueError.__new__", "ValueError.__init__", veMro⟩, ⟨⟨39, 17, 39, 21⟩, ⟨39, 23, 39, 28⟩, ⟨40, 8, 40, 13⟩, ⟨40, 8, 40, 15⟩, ⟨40, 8, 40, 24⟩, ⟨40, 25, 40, 30⟩, ⟨40, 8, 40, 31⟩, ⟨40, 8, 40, 31⟩, ⟨41, 8, 41, 12⟩, ⟨41, 8, 41, 18⟩, ⟨41, 21, 41, 26⟩, ⟨41, 8, 41, 26⟩⟩),
  (⟨"NotCalm", "cycle", "NotCalm.__init__", "ValueError", "ValueError.__new__", "ValueError.__init__", veMro⟩, ⟨⟨44, 17, 44, 21⟩, ⟨44, 23, 44, 28⟩, ⟨45, 8, 45, 13⟩, ⟨45, 8, 45, 15⟩, ⟨45, 8, 45, 24⟩, ⟨45, 25, 45, 30⟩, ⟨45, 8, 45, 31⟩, ⟨45, 8, 45, 31⟩, ⟨46, 8, 46, 12⟩, ⟨46, 8, 46, 18⟩, ⟨46, 21, 46, 26⟩, ⟨46, 8, 46, 26⟩⟩),
  (⟨"NotLeast", "better", "NotLeast.__init__", "ValueError", "ValueError.__new__", "ValueError.__init__", veMro⟩, ⟨⟨49, 17, 49, 21⟩, ⟨49, 23, 49, 29⟩, ⟨50, 8, 50, 13⟩, ⟨50, 8, 50, 15⟩, ⟨50, 8, 50, 24⟩, ⟨50, 25, 50, 31⟩, ⟨50, 8, 50, 32⟩, ⟨50, 8, 50, 32⟩, ⟨51, 8, 51, 12⟩, ⟨51, 8, 51, 19⟩, ⟨51, 22, 51, 28⟩, ⟨51, 8, 51, 28⟩⟩),
  (⟨"TooMany", "limit", "TooMany.__init__", "OverflowError", "OverflowError.__new__", "OverflowError.__init__", oeMro⟩, ⟨⟨73, 17, 73, 21⟩, ⟨73, 23, 73, 28⟩, ⟨74, 8, 74, 13⟩, ⟨74, 8, 74, 15⟩, ⟨74, 8, 74, 24⟩, ⟨74, 25, 74, 30⟩, ⟨74, 8, 74, 31⟩, ⟨74, 8, 74, 31⟩, ⟨75, 8, 75, 12⟩, ⟨75, 8, 75, 18⟩, ⟨75, 21, 75, 26⟩, ⟨75, 8, 75, 26⟩⟩)]
def gl : List Str := ["_law_values", "_law_made", "_law_named", "_law_fields", "_law_kinds", "_law_python", "law"]
def fr : List Str := ["len", "abs", "sum", "repr", "isinstance", "int", "range", "ValueError", "KeyError", "IndexError", "OverflowError", "RuntimeError", "TypeError"]
def bt : List String := ["ValueError", "KeyError", "IndexError", "OverflowError", "RuntimeError", "TypeError"]
def tb : List (List Bool) := [[true, false, false, false, false, false], [true, false, false, false, false, false], [true, false, false, false, false, false], [true, false, false, false, false, false], [false, true, false, false, false, false], [false, true, false, false, false, false], [false, false, true, false, false, false], [true, false, false, false, false, false], [true, false, false, false, false, false], [true, false, false, false, false, false], [true, false, false, false, false, false], [true, false, false, false, false, false], [true, false, false, false, false, false], [false, false, false, true, false, false], [true, false, false, false, false, false], [true, false, false, false, false, false], [false, false, false, false, true, false], [false, false, false, false, true, false], [false, false, false, false, true, false]]
def ca (K : PySem.W.Frag) (i : Nat) : Addr := He.ga K (cn.getD i "")
abbrev opO (a b : Option Bool) : Bool := decide (a = b)
def exB (K : PySem.W.Frag) (D : Addr) : Bool := decide (PySem.W.findIn K (.ref D) "__getattribute__" = some (some (.builtin "BaseException.__getattribute__"))) && (decide (PySem.W.findIn K (.ref D) "__getattr__" = some none) && (decide (PySem.W.subIn K (.ref D) (.type "BaseException") = some true) && (PySem.W.hasDictIn K D &&
  (decide (PySem.W.findIn K (.ref D) "__class__" = some (some (.builtin "object.__class__"))) && (decide (PySem.W.specialIn K (.builtin "object.__class__") "__get__" = some (some (.builtin "getset_descriptor.__get__"))) && (decide (PySem.W.takesIn K (.builtin "object.__class__") = some true) && decide (PySem.W.mroIn K D (.type "object") = some true)))))))
def smB (K : PySem.W.Frag) : Bool := match K.lookup sysModules with
  | some o => (match o.cls with
    | .type t => !(t == "list")
    | _ => false)
  | none => false
def p0B (K : PySem.W.Frag) (x : Str) (bm : List Value) (nw : String) : Bool := PySem.W.excIn K (He.ga K x) bm nw && ((He.Fa.glo x).ok K && PySem.W.keepIn K (.ref (He.ga K x)))
def fs : List (PySem.W.Frag → Bool) := [
  fun K => gl.all fun x => (He.Fa.glo x).ok K,
  fun K => fr.all fun x => (He.Fa.free x).ok K,
  fun K => en.all fun e => eB R.prog e.1 K,
  fun K => p0B K "OtherNetwork" veMro "ValueError.__new__" && (p0B K "NotJoined" veMro "ValueError.__new__" && (p0B K "NothingToUndo" reMro "RuntimeError.__new__" && (p0B K "NothingToRedo" reMro "RuntimeError.__new__" && p0B K "InTrial" reMro "RuntimeError.__new__"))),
  fun K => (List.range 19).all fun i => xfB K (ca K i) && exB K (ca K i),
  fun K => (List.range 19).all fun i => (List.range 19).all fun j => opO (PySem.W.kitOne K (.ref (ca K i)) (.ref (ca K j))) (some (i == j)),
  fun K => (List.range 19).all fun i => (List.range 6).all fun j => opO (PySem.W.kitOne K (.ref (ca K i)) (.type (bt.getD j ""))) (some ((tb.getD i []).getD j false)),
  smB]
def nm0 : List PySem.Str := ["InvalidNode", "InvalidEdge", "InvalidLength", "InvalidText", "InvalidNodes", "InvalidChange", "InvalidCommand", "NotPath", "NotCalm", "NotLeast", "OtherNetwork", "NotJoined", "UnknownNode", "UnknownEdge", "OutOfRange", "TooMany", "NothingToUndo", "NothingToRedo", "InTrial", "_law_values", "_law_made", "_law_named", "_law_fields", "_law_kinds", "_law_python"]
def names : List PySem.Str := nm0
end K96

namespace K96
open PySem PySem.Spec PyProof.Rows L2 PySem.SX Hx PySem.W
/-! the classes' facts -/
section
variable {q : Str} {p : Ps} {b : List Stmt} {sc : Scope} {doc pm cda ct : Value} {an : Option Addr} {cc y : Addr} {v : Value} {s' : Shared}
def BndAt (fld : Str) : Prop := ∀ (q : Str) (p : Ps) (b : List Stmt) (sc : Scope) (doc pm cda ct : Value) (an : Option Addr) (cc y : Addr) (v : Value) (s' : Shared),
  BindsTo s' (ksFn "__init__" q (iA fld p) b sc .none .none doc pm an cda ct cc) ⟨[.ref y, v], []⟩ [("self", .ref y), (fld, v)] ∧ BindsTo s' (ksFn "__init__" q (iA fld p) b sc .none .none doc pm an cda ct cc) ⟨[.ref y], [(fld, v)]⟩ [("self", .ref y), (fld, v)]
theorem bnd_value : BndAt "value" := fun _ _ _ _ _ _ _ _ _ _ _ _ _ => ⟨.of_eq rfl, .of_eq rfl⟩
theorem bnd_line : BndAt "line" := fun _ _ _ _ _ _ _ _ _ _ _ _ _ => ⟨.of_eq rfl, .of_eq rfl⟩
theorem bnd_index : BndAt "index" := fun _ _ _ _ _ _ _ _ _ _ _ _ _ => ⟨.of_eq rfl, .of_eq rfl⟩
theorem bnd_cycle : BndAt "cycle" := fun _ _ _ _ _ _ _ _ _ _ _ _ _ => ⟨.of_eq rfl, .of_eq rfl⟩
theorem bnd_better : BndAt "better" := fun _ _ _ _ _ _ _ _ _ _ _ _ _ => ⟨.of_eq rfl, .of_eq rfl⟩
theorem bnd_limit : BndAt "limit" := fun _ _ _ _ _ _ _ _ _ _ _ _ _ => ⟨.of_eq rfl, .of_eq rfl⟩
def FOk (fld : Str) : Prop := FldOk fld ∧ BndAt fld
theorem fok_all : ∀ e ∈ en, FOk e.1.fld := by
  intro e h
  simp only [en, List.mem_cons, List.not_mem_nil, or_false] at h
  rcases h with rfl | rfl | rfl | rfl | rfl | rfl | rfl | rfl | rfl | rfl | rfl | rfl | rfl | rfl
  all_goals first
    | exact ⟨by constructor <;> decide, bnd_value⟩
    | exact ⟨by constructor <;> decide, bnd_line⟩
    | exact ⟨by constructor <;> decide, bnd_index⟩
    | exact ⟨by constructor <;> decide, bnd_cycle⟩
    | exact ⟨by constructor <;> decide, bnd_better⟩
    | exact ⟨by constructor <;> decide, bnd_limit⟩
theorem base_all : ∀ e ∈ en, BaseF e.1.B e.1.newId e.1.initId e.1.bmB := by
  intro e h
  simp only [en, List.mem_cons, List.not_mem_nil, or_false] at h
  rcases h with rfl | rfl | rfl | rfl | rfl | rfl | rfl | rfl | rfl | rfl | rfl | rfl | rfl | rfl
  all_goals first
    | exact ve_base
    | exact ke_base
    | exact ie_base
    | exact oe_base
theorem line_all : (en.all fun e => e.2.s3.endLine == e.2.s5.line) = true := by decide +kernel
end
def fldOf (i : Nat) : Str := ((en[i]?).map fun e => e.1.fld).getD ""
structure CT (K : Frag) (mg : Str → Option Value) : Prop where
  T : ∀ (i : Nat) (e : EDat × Ps), en[i]? = some e → SxT R.prog K mg e.1.cls (He.ga K e.1.cls) (He.ma K (He.ga K e.1.cls) "__init__") e.1.fld e.1.qual e.1.B e.1.newId e.1.initId e.1.bmB
  z14 : excIn K (ca K 14) veMro "ValueError.__new__" = true ∧ mg "OtherNetwork" = some (.ref (ca K 14)) ∧ keepIn K (.ref (ca K 14)) = true
  z15 : excIn K (ca K 15) veMro "ValueError.__new__" = true ∧ mg "NotJoined" = some (.ref (ca K 15)) ∧ keepIn K (.ref (ca K 15)) = true
  z16 : excIn K (ca K 16) reMro "RuntimeError.__new__" = true ∧ mg "NothingToUndo" = some (.ref (ca K 16)) ∧ keepIn K (.ref (ca K 16)) = true
  z17 : excIn K (ca K 17) reMro "RuntimeError.__new__" = true ∧ mg "NothingToRedo" = some (.ref (ca K 17)) ∧ keepIn K (.ref (ca K 17)) = true
  z18 : excIn K (ca K 18) reMro "RuntimeError.__new__" = true ∧ mg "InTrial" = some (.ref (ca K 18)) ∧ keepIn K (.ref (ca K 18)) = true
  xf : ∀ i, i < 14 → XfA K (ca K i) (fldOf i)
  xc : ∀ i, i < 19 → ExcC K (ca K i)
  kk : ∀ i j, i < 19 → j < 19 → kitOne K (.ref (ca K i)) (.ref (ca K j)) = some (i == j)
  kb : ∀ i j, i < 19 → j < 6 → kitOne K (.ref (ca K i)) (.type (bt.getD j "")) = some ((tb.getD i []).getD j false)
  sm : SmD K
  gl : ∀ x ∈ gl, mg x = some (.ref (He.ga K x))
  fr : ∀ x ∈ fr, mg x = none
theorem exB_ok {K : Frag} {D : Addr} (h : exB K D = true) : ExcC K D := by
  unfold exB at h
  obtain ⟨h1, h⟩ := and2 h
  obtain ⟨h2, h⟩ := and2 h
  obtain ⟨h3, h⟩ := and2 h
  obtain ⟨h4, h⟩ := and2 h
  obtain ⟨h5, h⟩ := and2 h
  obtain ⟨h6, h⟩ := and2 h
  obtain ⟨h7, h8⟩ := and2 h
  exact ⟨of_decide_eq_true h1, of_decide_eq_true h2, of_decide_eq_true h3, h4, of_decide_eq_true h5, of_decide_eq_true h6, of_decide_eq_true h7, of_decide_eq_true h8⟩
theorem smB_ok {K : Frag} (h : smB K = true) : SmD K := by
  unfold smB at h
  split at h
  · rename_i o e
    refine ⟨o, e, fun z => ?_⟩
    rw [z] at h
    simp at h
  · cases h
theorem ct_of {K : Frag} {h : Heap} {mg : Str → Option Value} (X : K.In h) (G : h.Ns mainGlobals mg) (c : Says fs fn en K) : CT K mg := by
  have f2 : (en.all fun e => eB R.prog e.1 K) = true := c.fact 2
  have f3 : (p0B K "OtherNetwork" veMro "ValueError.__new__" && (p0B K "NotJoined" veMro "ValueError.__new__" && (p0B K "NothingToUndo" reMro "RuntimeError.__new__" && (p0B K "NothingToRedo" reMro "RuntimeError.__new__" && p0B K "InTrial" reMro "RuntimeError.__new__")))) = true := c.fact 3
  have f4 : ((List.range 19).all fun i => xfB K (ca K i) && exB K (ca K i)) = true := c.fact 4
  have f5 : ((List.range 19).all fun i => (List.range 19).all fun j => opO (PySem.W.kitOne K (.ref (ca K i)) (.ref (ca K j))) (some (i == j))) = true := c.fact 5
  have f6 : ((List.range 19).all fun i => (List.range 6).all fun j => opO (PySem.W.kitOne K (.ref (ca K i)) (.type (bt.getD j ""))) (some ((tb.getD i []).getD j false))) = true := c.fact 6
  have f7 : smB K = true := c.fact 7
  have f0 : (gl.all fun x => (He.Fa.glo x).ok K) = true := c.fact 0
  have f1 : (fr.all fun x => (He.Fa.free x).ok K) = true := c.fact 1
  have z : ∀ {x : Str} {bm : List Value} {nw : String}, p0B K x bm nw = true → excIn K (He.ga K x) bm nw = true ∧ mg x = some (.ref (He.ga K x)) ∧ keepIn K (.ref (He.ga K x)) = true := fun {x bm nw} q => by
    obtain ⟨q1, q2⟩ := and2 q
    obtain ⟨q2, q3⟩ := and2 q2
    exact ⟨q1, He.glo_ok X G q2, q3⟩
  obtain ⟨a1, f3⟩ := and2 f3
  obtain ⟨a2, f3⟩ := and2 f3
  obtain ⟨a3, f3⟩ := and2 f3
  obtain ⟨a4, a5⟩ := and2 f3
  have at4 : ∀ i, i < 19 → xfB K (ca K i) = true ∧ exB K (ca K i) = true := fun i hi => and2 (List.all_eq_true.mp f4 i (List.mem_range.mpr hi))
  have tt : ∀ (i : Nat) (e : EDat × Ps), en[i]? = some e → Sx R.prog K (He.ga K e.1.cls) (He.ma K (He.ga K e.1.cls) "__init__") e.1.fld e.1.qual e.1.B e.1.newId e.1.initId e.1.bmB ∧
      SxT R.prog K mg e.1.cls (He.ga K e.1.cls) (He.ma K (He.ga K e.1.cls) "__init__") e.1.fld e.1.qual e.1.B e.1.newId e.1.initId e.1.bmB := fun i e he => by
    have me : e ∈ en := List.mem_of_getElem? he
    have ln : (e.2.s3.endLine == e.2.s5.line) = true := List.all_eq_true.mp line_all e me
    obtain ⟨t1, t2, t3, t4, t5, t6⟩ := eB_ok (p := e.2) (base_all e me) (List.all_eq_true.mp f2 e me) (c.ini i he) ln
    have fo := fok_all e me
    refine ⟨t1, t1, fo.1, mg_of X G t2, t3, t4, t5, fun y v s' fd q => ?_, fun y v s' fd q => ?_⟩
    · obtain ⟨doc, pm, an, cda, ct, cc, rfl⟩ := t6 fd q
      exact (fo.2 _ _ _ _ _ _ _ _ _ _ _ _ _).1
    · obtain ⟨doc, pm, an, cda, ct, cc, rfl⟩ := t6 fd q
      exact (fo.2 _ _ _ _ _ _ _ _ _ _ _ _ _).2
  have hn : ∀ (i : Nat), i < 14 → ∃ e, en[i]? = some e ∧ e.1.cls = cn.getD i "" ∧ e.1.fld = fldOf i := by
    intro i hi
    have k : ((List.range 14).all fun i => match en[i]? with
      | some e => decide (e.1.cls = cn.getD i "") && decide (e.1.fld = fldOf i)
      | none => false) = true := by decide +kernel
    have k2 := List.all_eq_true.mp k i (List.mem_range.mpr hi)
    cases q : en[i]? with
    | none =>
      rw [q] at k2
      cases k2
    | some e =>
      rw [q] at k2
      obtain ⟨k3, k4⟩ := and2 k2
      exact ⟨e, rfl, of_decide_eq_true k3, of_decide_eq_true k4⟩
  refine ⟨fun i e he => (tt i e he).2, z a1, z a2, z a3, z a4, z a5, fun i hi => ?_, fun i hi => exB_ok (at4 i hi).2, fun i j hi hj => ?_, fun i j hi hj => ?_, smB_ok f7, fun x hx => ?_, fun x hx => ?_⟩
  · obtain ⟨e, h1, h2, h3⟩ := hn i hi
    have t := (tt i e h1).1.noN
    rw [h2, h3] at t
    exact ⟨xfB_ok (at4 i (by omega)).1, t⟩
  · exact of_decide_eq_true (List.all_eq_true.mp (List.all_eq_true.mp f5 i (List.mem_range.mpr hi)) j (List.mem_range.mpr hj))
  · exact of_decide_eq_true (List.all_eq_true.mp (List.all_eq_true.mp f6 i (List.mem_range.mpr hi)) j (List.mem_range.mpr hj))
  · exact He.glo_ok X G (List.all_eq_true.mp f0 x hx)
  · exact He.free_ok X G (List.all_eq_true.mp f1 x hx)
end K96

namespace K96
open PySem PySem.Spec PyProof.Rows L2 PySem.SX Hx
/-! what the defs promise -/
def Md (K : PySem.W.Frag) (H : Hp) (x : V) (i : Nat) (e : Addr) : Prop := if i < 14 then Ex1 H x (ca K i) (fldOf i) e else H e = some (exo e (ca K i) none)
theorem Md.grow {K : PySem.W.Frag} {H H' : Hp} {x : V} {i : Nat} {e : Addr} (m : Md K H x i e) (g : Grow H H') : Md K H' x i e := by
  unfold Md at m ⊢
  by_cases h : i < 14
  · rw [if_pos h] at m ⊢
    exact m.grow g
  · rw [if_neg h] at m ⊢
    exact g _ _ m
def MdN (K : PySem.W.Frag) (H : Hp) (x : V) (k n : Nat) (es : List Addr) : Prop := es.length = n ∧ ∀ i e, es[i]? = some e → Md K H x (k + i) e
theorem MdN.grow {K : PySem.W.Frag} {H H' : Hp} {x : V} {k n : Nat} {es : List Addr} (m : MdN K H x k n es) (g : Grow H H') : MdN K H' x k n es := ⟨m.1, fun i e h => (m.2 i e h).grow g⟩
theorem MdN.nil {K : PySem.W.Frag} {H : Hp} {x : V} {k : Nat} : MdN K H x k 0 [] := ⟨rfl, fun i e h => by simp at h⟩
theorem MdN.cons {K : PySem.W.Frag} {H : Hp} {x : V} {k n : Nat} {e : Addr} {es : List Addr} (h : Md K H x k e) (m : MdN K H x (k + 1) n es) : MdN K H x k (n + 1) (e :: es) := by
  refine ⟨by show es.length + 1 = n + 1; rw [m.1], fun i e' h' => ?_⟩
  cases i with
  | zero =>
    simp at h'
    subst h'
    exact h
  | succ i =>
    have z := m.2 i e' (by simpa using h')
    rw [show k + (i + 1) = k + 1 + i from by omega]
    exact z
theorem MdN.app {K : PySem.W.Frag} {H : Hp} {x : V} {k n n2 : Nat} {es es2 : List Addr} (m : MdN K H x k n es) (m2 : MdN K H x (k + n) n2 es2) : MdN K H x k (n + n2) (es ++ es2) := by
  refine ⟨by rw [List.length_append, m.1, m2.1], fun i e h => ?_⟩
  by_cases hi : i < es.length
  · rw [List.getElem?_append_left hi] at h
    exact m.2 i e h
  · rw [List.getElem?_append_right (by omega)] at h
    have z := m2.2 _ e h
    rw [show k + i = k + n + (i - es.length) from by rw [m.1] at hi ⊢; omega]
    exact z
def tMkA (K : PySem.W.Frag) (i : Nat) : TE := fun σ H Q => ∃ x, σ[0]? = some (some x) ∧ ∀ e H', Grow H H' → Md K H' x i e → Q (.ref e) H'
def tMks (K : PySem.W.Frag) (k n : Nat) : TA := fun σ H Q => ∃ x, σ[0]? = some (some x) ∧ ∀ es H', Grow H H' → MdN K H' x k n es → Q (es.map V.ref) H'
section
variable {X : Cx} {e : Expr} {es : List Expr} {pos : Pos} {K : PySem.W.Frag}
theorem mks0 {k : Nat} (hx : True := trivial) : PA X [] (tMks K k 0) := pa_nil.mono fun σ H Q q => by
  obtain ⟨x, _, q⟩ := q
  exact q [] H Grow.rfl' .nil
theorem mks1 {k n : Nat} (h : PE X e (tMkA K k)) (r : PA X es (tMks K (k + 1) n)) (hs : starEach (e :: es) X.env = (false, eval e X.env) :: starEach es X.env := by rfl) : PA X (e :: es) (tMks K k (n + 1)) :=
  (pa_cons h r hs).mono fun σ H Q q => by
    obtain ⟨x, hx, q⟩ := q
    refine ⟨x, hx, fun a H1 g1 m1 => ⟨x, hx, fun as H2 g2 m2 => q (a :: as) H2 (g1.trans g2) (.cons (m1.grow g2) m2)⟩⟩
theorem mk_lt {i : Nat} {C : Addr} {f : Str} (hi : i < 14) (hC : ca K i = C) (hf : fldOf i = f) : ∀ σ H Q, tMkA K i σ H Q → tMk C f (tVar 0) σ H Q := fun σ H Q q => by
  obtain ⟨x, hx, q⟩ := q
  refine ⟨x, hx, fun e H' g m => q e H' g ?_⟩
  unfold Md
  rw [if_pos hi, hC, hf]
  exact m
theorem mkK_lt {i : Nat} {C : Addr} {f : Str} (hi : i < 14) (hC : ca K i = C) (hf : fldOf i = f) : ∀ σ H Q, tMkA K i σ H Q → tMkK C f (tCons (tVar 0) tNil) σ H Q := fun σ H Q q => by
  obtain ⟨x, hx, q⟩ := q
  refine ⟨x, hx, x, rfl, fun e H' g m => q e H' g ?_⟩
  unfold Md
  rw [if_pos hi, hC, hf]
  exact m
theorem mk_ge {i : Nat} {C : Addr} (hi : ¬ i < 14) (hC : ca K i = C) : ∀ σ H Q, tMkA K i σ H Q → (∀ a, H a = none → Q (.ref a) (upd H a (exo a C none))) := fun σ H Q q a ha => by
  obtain ⟨x, hx, q⟩ := q
  refine q a _ (Grow.new ha) ?_
  unfold Md
  rw [if_neg hi, hC]
  exact upd_same
theorem kv_mono : ∀ (σ : L2.St) (H : Hp) (Q Q' : List V → Hp → Prop), (∀ v H, Q v H → Q' v H) → tCons (tVar 0) tNil σ H Q → tCons (tVar 0) tNil σ H Q' := fun σ H Q Q' m h => by
  obtain ⟨v, e, q⟩ := h
  exact ⟨v, e, m _ _ q⟩
end
def tRows (K : PySem.W.Frag) (n m : Nat) : TE := fun σ H Q => ∃ x L es, σ[0]? = some (some x) ∧ σ[1]? = some (some (.ref L)) ∧ H L = some (.lst (es.map V.ref)) ∧ MdN K H x 0 n es ∧ ∀ L' es' H', Grow H H' → H' L' = some (.lst (es'.map V.ref)) → MdN K H' x 0 (n + m) es' → Q (.ref L') H'
def tRow0 (K : PySem.W.Frag) (m : Nat) : TE := fun σ H Q => ∃ x, σ[0]? = some (some x) ∧ ∀ L' es' H', Grow H H' → H' L' = some (.lst (es'.map V.ref)) → MdN K H' x 0 m es' → Q (.ref L') H'
theorem small19 {n : Nat} (h : n ≤ 19) : n ≤ sizeLine := by
  rw [sizeLine_eq]
  omega
theorem rows0 {K : PySem.W.Frag} {m : Nat} (hm : m ≤ 19) : ∀ σ H Q, tRow0 K m σ H Q → tLst (tMks K 0 m) σ H Q := fun σ H Q q => by
  obtain ⟨x, hx, q⟩ := q
  refine ⟨x, hx, fun es H1 g mm => ⟨by rw [List.length_map, mm.1]; exact small19 hm, fun p hp => q p es _ (g.to hp) upd_same (mm.grow (.new hp))⟩⟩
theorem rows1 {K : PySem.W.Frag} {n m : Nat} (hm : n + m ≤ 19) : ∀ σ H Q, tRows K n m σ H Q → tOp rCat (tVar 1) (tLst (tMks K n m)) σ H Q := fun σ H Q q => by
  obtain ⟨x, L, es, hx, hl, hL, mm, q⟩ := q
  refine ⟨_, hl, x, hx, fun es2 H1 g m2 => ⟨by rw [List.length_map, m2.1]; exact small19 (by omega), fun p hp => ?_⟩⟩
  refine ⟨L, p, _, _, rfl, rfl, (g.to hp) _ _ hL, upd_same, by rw [List.length_map, List.length_map, mm.1, m2.1]; exact small19 hm, fun p2 hp2 => ?_⟩
  have g2 : Grow H (upd (upd H1 p (.lst (es2.map V.ref))) p2 (.lst (es.map V.ref ++ es2.map V.ref))) := (g.to hp).to hp2
  have g3 : Grow H1 (upd (upd H1 p (.lst (es2.map V.ref))) p2 (.lst (es.map V.ref ++ es2.map V.ref))) := (Grow.new hp).to hp2
  refine q p2 (es ++ es2) _ g2 (by rw [List.map_append]; exact upd_same) ((mm.grow g2).app ?_)
  rw [Nat.zero_add]
  exact m2.grow g3

section
variable {K : PySem.W.Frag} {mg : Str → Option Value}
theorem t0 (c : CT K mg) : SxT R.prog K mg "InvalidNode" (ca K 0) (He.ma K (ca K 0) "__init__") "value" "InvalidNode.__init__" "ValueError" "ValueError.__new__" "ValueError.__init__" veMro := c.T 0 _ rfl
theorem t1 (c : CT K mg) : SxT R.prog K mg "InvalidEdge" (ca K 1) (He.ma K (ca K 1) "__init__") "value" "InvalidEdge.__init__" "ValueError" "ValueError.__new__" "ValueError.__init__" veMro := c.T 1 _ rfl
theorem t2 (c : CT K mg) : SxT R.prog K mg "InvalidLength" (ca K 2) (He.ma K (ca K 2) "__init__") "value" "InvalidLength.__init__" "ValueError" "ValueError.__new__" "ValueError.__init__" veMro := c.T 2 _ rfl
theorem t3 (c : CT K mg) : SxT R.prog K mg "InvalidNodes" (ca K 3) (He.ma K (ca K 3) "__init__") "value" "InvalidNodes.__init__" "ValueError" "ValueError.__new__" "ValueError.__init__" veMro := c.T 3 _ rfl
theorem t4 (c : CT K mg) : SxT R.prog K mg "UnknownNode" (ca K 4) (He.ma K (ca K 4) "__init__") "value" "UnknownNode.__init__" "KeyError" "LookupError.__new__" "KeyError.__init__" keMro := c.T 4 _ rfl
theorem t5 (c : CT K mg) : SxT R.prog K mg "UnknownEdge" (ca K 5) (He.ma K (ca K 5) "__init__") "value" "UnknownEdge.__init__" "KeyError" "LookupError.__new__" "KeyError.__init__" keMro := c.T 5 _ rfl
theorem t6 (c : CT K mg) : SxT R.prog K mg "OutOfRange" (ca K 6) (He.ma K (ca K 6) "__init__") "value" "OutOfRange.__init__" "IndexError" "IndexError.__new__" "IndexError.__init__" ieMro := c.T 6 _ rfl
theorem t7 (c : CT K mg) : SxT R.prog K mg "InvalidText" (ca K 7) (He.ma K (ca K 7) "__init__") "line" "InvalidText.__init__" "ValueError" "ValueError.__new__" "ValueError.__init__" veMro := c.T 7 _ rfl
theorem t8 (c : CT K mg) : SxT R.prog K mg "InvalidCommand" (ca K 8) (He.ma K (ca K 8) "__init__") "line" "InvalidCommand.__init__" "ValueError" "ValueError.__new__" "ValueError.__init__" veMro := c.T 8 _ rfl
theorem t9 (c : CT K mg) : SxT R.prog K mg "InvalidChange" (ca K 9) (He.ma K (ca K 9) "__init__") "index" "InvalidChange.__init__" "ValueError" "ValueError.__new__" "ValueError.__init__" veMro := c.T 9 _ rfl
theorem t10 (c : CT K mg) : SxT R.prog K mg "NotPath" (ca K 10) (He.ma K (ca K 10) "__init__") "index" "NotPath.__init__" "ValueError" "ValueError.__new__" "ValueError.__init__" veMro := c.T 10 _ rfl
theorem t11 (c : CT K mg) : SxT R.prog K mg "NotCalm" (ca K 11) (He.ma K (ca K 11) "__init__") "cycle" "NotCalm.__init__" "ValueError" "ValueError.__new__" "ValueError.__init__" veMro := c.T 11 _ rfl
theorem t12 (c : CT K mg) : SxT R.prog K mg "NotLeast" (ca K 12) (He.ma K (ca K 12) "__init__") "better" "NotLeast.__init__" "ValueError" "ValueError.__new__" "ValueError.__init__" veMro := c.T 12 _ rfl
theorem t13 (c : CT K mg) : SxT R.prog K mg "TooMany" (ca K 13) (He.ma K (ca K 13) "__init__") "limit" "TooMany.__init__" "OverflowError" "OverflowError.__new__" "OverflowError.__init__" oeMro := c.T 13 _ rfl
end
abbrev Ctx (P : Program) (w : World) (K : PySem.W.Frag) (mg : Str → Option Value) (base : Heap) (N : List Str) (st : Stmt) (x : Str) (f : Addr) (cdv : Value) (A : Around) (outer : List Env) (s : Shared) (H : Hp) (E : XK) : Cx := cxOf CX0 P w K mg base N x (defScope st) f cdv A outer s H E
section
variable {w : World} {K : PySem.W.Frag} {mg : Str → Option Value} {base : Heap} {f : Addr} {fd : FuncData}
abbrev FnP (K : PySem.W.Frag) (x : Str) (st : Stmt) (f : Addr) (fd : FuncData) : Prop := FunD K x x (defArgs st) (defBody st) (defScope st) [] [] f fd
def NM : List Str := ["_law_thing", "_law_rows"]
theorem scMade : FnScope NM ["_law_thing"] (defScope sMade) := ⟨rfl, rfl, rfl, by decide +kernel, rfl, by decide +kernel, by decide +kernel⟩
theorem scNamed : FnScope NM ["_law_thing"] (defScope sNamed) := ⟨rfl, rfl, rfl, by decide +kernel, rfl, by decide +kernel, by decide +kernel⟩
def spMade (K : PySem.W.Frag) : Sp := fun vs H Q _ => ∃ x, vs = [x] ∧ ∀ L es H', Grow H H' → H' L = some (.lst (es.map V.ref)) → MdN K H' x 0 19 es → Q (.ref L) H'
def tMade (K : PySem.W.Frag) : TS := tSeq (tAsg (tRow0 K 4) (gName 1)) (tSeq (tAsg (tRows K 4 4) (gName 1)) (tSeq (tAsg (tRows K 8 4) (gName 1)) (tSeq (tAsg (tRows K 12 2) (gName 1)) (tRet (tRows K 14 5)))))
theorem rd_made (vs : List V) (H : Hp) (Q : VK) (E : XK) (h : spMade K vs H Q E) : tMade K { nx := fun _ H' => Q .non H', rt := Q } (start NM vs) H := by
  obtain ⟨x, rfl, q⟩ := h
  refine ⟨x, rfl, fun L0 es0 H0 g0 h0 m0 => ?_⟩
  refine ⟨x, L0, es0, rfl, rfl, h0, m0, fun L1 es1 H1 g1 h1 m1 => ?_⟩
  refine ⟨x, L1, es1, rfl, rfl, h1, m1, fun L2 es2 H2 g2 h2 m2 => ?_⟩
  refine ⟨x, L2, es2, rfl, rfl, h2, m2, fun L3 es3 H3 g3 h3 m3 => ?_⟩
  exact ⟨x, L3, es3, rfl, rfl, h3, m3, fun L es H' g h m => q L es H' ((((g0.trans g1).trans g2).trans g3).trans g) h m⟩
theorem ok_made (F : FnP K "_law_made" sMade f fd) (c : CT K mg) : FnOk R.prog w K mg base CX0 1 f fd ["_law_thing"] (spMade K) := by
  refine F.ok scMade (fun vs H Q E h => ?_) (fun cdv A outer s H vs Q E hr h => ⟨tMade K, PSs.nox ?_, rd_made vs H Q E h⟩)
  · obtain ⟨x, rfl, _⟩ := h
    rfl
  · exact (pss_cons (ps_set (i := 1) scMade.nd rfl (Or.inl rfl) ((pe_lst (mks1 ((pe_mk (t0 c) hr (pv 0) var_mono).mono (mk_lt (by decide) rfl rfl)) (mks1 ((pe_mk (t1 c) hr (pv 0) var_mono).mono (mk_lt (by decide) rfl rfl)) (mks1 ((pe_mk (t2 c) hr (pv 0) var_mono).mono (mk_lt (by decide) rfl rfl)) (mks1 ((pe_mk (t3 c) hr (pv 0) var_mono).mono (mk_lt (by decide) rfl rfl)) mks0))))).mono (rows0 (by decide))))
    (pss_cons (ps_set (i := 1) scMade.nd rfl (Or.inl rfl) ((pe_op op_cat (pv 1) (pe_lst (mks1 ((pe_mk (t4 c) hr (pv 0) var_mono).mono (mk_lt (by decide) rfl rfl)) (mks1 ((pe_mk (t5 c) hr (pv 0) var_mono).mono (mk_lt (by decide) rfl rfl)) (mks1 ((pe_mk (t6 c) hr (pv 0) var_mono).mono (mk_lt (by decide) rfl rfl)) (mks1 ((pe_mk (t7 c) hr (pv 0) var_mono).mono (mk_lt (by decide) rfl rfl)) mks0)))))).mono (rows1 (by decide))))
    (pss_cons (ps_set (i := 1) scMade.nd rfl (Or.inl rfl) ((pe_op op_cat (pv 1) (pe_lst (mks1 ((pe_mk (t8 c) hr (pv 0) var_mono).mono (mk_lt (by decide) rfl rfl)) (mks1 ((pe_mk (t9 c) hr (pv 0) var_mono).mono (mk_lt (by decide) rfl rfl)) (mks1 ((pe_mk (t10 c) hr (pv 0) var_mono).mono (mk_lt (by decide) rfl rfl)) (mks1 ((pe_mk (t11 c) hr (pv 0) var_mono).mono (mk_lt (by decide) rfl rfl)) mks0)))))).mono (rows1 (by decide))))
    (pss_cons (ps_set (i := 1) scMade.nd rfl (Or.inl rfl) ((pe_op op_cat (pv 1) (pe_lst (mks1 ((pe_mk (t12 c) hr (pv 0) var_mono).mono (mk_lt (by decide) rfl rfl)) (mks1 ((pe_mk (t13 c) hr (pv 0) var_mono).mono (mk_lt (by decide) rfl rfl)) mks0)))).mono (rows1 (by decide))))
    (pss_one (ps_ret ((pe_op op_cat (pv 1) (pe_lst (mks1 ((pe_sx0 (C := ca K 14) PySem.F.excBase_ValueError c.z14.1 c.z14.2.1 c.z14.2.2).mono (mk_ge (by decide) rfl)) (mks1 ((pe_sx0 (C := ca K 15) PySem.F.excBase_ValueError c.z15.1 c.z15.2.1 c.z15.2.2).mono (mk_ge (by decide) rfl)) (mks1 ((pe_sx0 (C := ca K 16) PySem.F.excBase_RuntimeError c.z16.1 c.z16.2.1 c.z16.2.2).mono (mk_ge (by decide) rfl)) (mks1 ((pe_sx0 (C := ca K 17) PySem.F.excBase_RuntimeError c.z17.1 c.z17.2.1 c.z17.2.2).mono (mk_ge (by decide) rfl)) (mks1 ((pe_sx0 (C := ca K 18) PySem.F.excBase_RuntimeError c.z18.1 c.z18.2.1 c.z18.2.2).mono (mk_ge (by decide) rfl)) mks0))))))).mono (rows1 (by decide)))))))))
def tNamed (K : PySem.W.Frag) : TS := tSeq (tAsg (tRow0 K 3) (gName 1)) (tSeq (tAsg (tRows K 3 3) (gName 1)) (tSeq (tAsg (tRows K 6 3) (gName 1)) (tSeq (tAsg (tRows K 9 3) (gName 1)) (tSeq (tAsg (tRows K 12 2) (gName 1)) (tRet (tRows K 14 5))))))
theorem rd_named (vs : List V) (H : Hp) (Q : VK) (E : XK) (h : spMade K vs H Q E) : tNamed K { nx := fun _ H' => Q .non H', rt := Q } (start NM vs) H := by
  obtain ⟨x, rfl, q⟩ := h
  refine ⟨x, rfl, fun L0 es0 H0 g0 h0 m0 => ?_⟩
  refine ⟨x, L0, es0, rfl, rfl, h0, m0, fun L1 es1 H1 g1 h1 m1 => ?_⟩
  refine ⟨x, L1, es1, rfl, rfl, h1, m1, fun L2 es2 H2 g2 h2 m2 => ?_⟩
  refine ⟨x, L2, es2, rfl, rfl, h2, m2, fun L3 es3 H3 g3 h3 m3 => ?_⟩
  refine ⟨x, L3, es3, rfl, rfl, h3, m3, fun L4 es4 H4 g4 h4 m4 => ?_⟩
  exact ⟨x, L4, es4, rfl, rfl, h4, m4, fun L es H' g h m => q L es H' (((((g0.trans g1).trans g2).trans g3).trans g4).trans g) h m⟩
theorem ok_named (F : FnP K "_law_named" sNamed f fd) (c : CT K mg) : FnOk R.prog w K mg base CX0 1 f fd ["_law_thing"] (spMade K) := by
  refine F.ok scNamed (fun vs H Q E h => ?_) (fun cdv A outer s H vs Q E hr h => ⟨tNamed K, PSs.nox ?_, rd_named vs H Q E h⟩)
  · obtain ⟨x, rfl, _⟩ := h
    rfl
  · exact (pss_cons (ps_set (i := 1) scNamed.nd rfl (Or.inl rfl) ((pe_lst (mks1 ((pe_mkK (t0 c) hr (pk_cons (pv 0) pk_nil) kv_mono).mono (mkK_lt (by decide) rfl rfl)) (mks1 ((pe_mkK (t1 c) hr (pk_cons (pv 0) pk_nil) kv_mono).mono (mkK_lt (by decide) rfl rfl)) (mks1 ((pe_mkK (t2 c) hr (pk_cons (pv 0) pk_nil) kv_mono).mono (mkK_lt (by decide) rfl rfl)) mks0)))).mono (rows0 (by decide))))
    (pss_cons (ps_set (i := 1) scNamed.nd rfl (Or.inl rfl) ((pe_op op_cat (pv 1) (pe_lst (mks1 ((pe_mkK (t3 c) hr (pk_cons (pv 0) pk_nil) kv_mono).mono (mkK_lt (by decide) rfl rfl)) (mks1 ((pe_mkK (t4 c) hr (pk_cons (pv 0) pk_nil) kv_mono).mono (mkK_lt (by decide) rfl rfl)) (mks1 ((pe_mkK (t5 c) hr (pk_cons (pv 0) pk_nil) kv_mono).mono (mkK_lt (by decide) rfl rfl)) mks0))))).mono (rows1 (by decide))))
    (pss_cons (ps_set (i := 1) scNamed.nd rfl (Or.inl rfl) ((pe_op op_cat (pv 1) (pe_lst (mks1 ((pe_mkK (t6 c) hr (pk_cons (pv 0) pk_nil) kv_mono).mono (mkK_lt (by decide) rfl rfl)) (mks1 ((pe_mkK (t7 c) hr (pk_cons (pv 0) pk_nil) kv_mono).mono (mkK_lt (by decide) rfl rfl)) (mks1 ((pe_mkK (t8 c) hr (pk_cons (pv 0) pk_nil) kv_mono).mono (mkK_lt (by decide) rfl rfl)) mks0))))).mono (rows1 (by decide))))
    (pss_cons (ps_set (i := 1) scNamed.nd rfl (Or.inl rfl) ((pe_op op_cat (pv 1) (pe_lst (mks1 ((pe_mkK (t9 c) hr (pk_cons (pv 0) pk_nil) kv_mono).mono (mkK_lt (by decide) rfl rfl)) (mks1 ((pe_mkK (t10 c) hr (pk_cons (pv 0) pk_nil) kv_mono).mono (mkK_lt (by decide) rfl rfl)) (mks1 ((pe_mkK (t11 c) hr (pk_cons (pv 0) pk_nil) kv_mono).mono (mkK_lt (by decide) rfl rfl)) mks0))))).mono (rows1 (by decide))))
    (pss_cons (ps_set (i := 1) scNamed.nd rfl (Or.inl rfl) ((pe_op op_cat (pv 1) (pe_lst (mks1 ((pe_mkK (t12 c) hr (pk_cons (pv 0) pk_nil) kv_mono).mono (mkK_lt (by decide) rfl rfl)) (mks1 ((pe_mkK (t13 c) hr (pk_cons (pv 0) pk_nil) kv_mono).mono (mkK_lt (by decide) rfl rfl)) mks0)))).mono (rows1 (by decide))))
    (pss_one (ps_ret ((pe_op op_cat (pv 1) (pe_lst (mks1 ((pe_sx0 (C := ca K 14) PySem.F.excBase_ValueError c.z14.1 c.z14.2.1 c.z14.2.2).mono (mk_ge (by decide) rfl)) (mks1 ((pe_sx0 (C := ca K 15) PySem.F.excBase_ValueError c.z15.1 c.z15.2.1 c.z15.2.2).mono (mk_ge (by decide) rfl)) (mks1 ((pe_sx0 (C := ca K 16) PySem.F.excBase_RuntimeError c.z16.1 c.z16.2.1 c.z16.2.2).mono (mk_ge (by decide) rfl)) (mks1 ((pe_sx0 (C := ca K 17) PySem.F.excBase_RuntimeError c.z17.1 c.z17.2.1 c.z17.2.2).mono (mk_ge (by decide) rfl)) (mks1 ((pe_sx0 (C := ca K 18) PySem.F.excBase_RuntimeError c.z18.1 c.z18.2.1 c.z18.2.2).mono (mk_ge (by decide) rfl)) mks0))))))).mono (rows1 (by decide))))))))))
end
end K96

namespace K96
open PySem PySem.Spec PyProof.Rows L2 PySem.SX Hx
theorem small_of {n : Nat} (h : n ≤ 14) : n ≤ sizeLine := by
  rw [sizeLine_eq]
  omega
theorem small_lt {n : Nat} (h : n < 14) : n < sizeLine := by
  rw [sizeLine_eq]
  omega
def gsl (L L1 : Addr) : L2.St := [some (.ref L), some (.ref L1), none]
/-! ### the fields -/
/-- the list of the 19, in slot 0 -/
def In0 (K : PySem.W.Frag) (σ : L2.St) (H : Hp) (x : V) : Prop := ∃ L y z es, σ = [some (.ref L), y, z] ∧ H L = some (.lst (es.map V.ref)) ∧ MdN K H x 0 19 es
def tFl (K : PySem.W.Frag) (n : Nat) : TE := fun σ H Q => ∃ x, In0 K σ H x ∧ ∀ L' H', Grow H H' → H' L' = some (.lst (List.replicate n x)) → Q (.ref L') H'
theorem In0.grow {K : PySem.W.Frag} {σ : L2.St} {H H' : Hp} {x : V} (h : In0 K σ H x) (g : Grow H H') : In0 K σ H' x := by
  obtain ⟨L, y, z, es, e, hL, m⟩ := h
  exact ⟨L, y, z, es, e, g _ _ hL, m.grow g⟩
theorem fl_lc {K : PySem.W.Frag} {mg : Str → Option Value} (c : CT K mg) {tl th : TO} {lo hi : Option Int} {k n : Nat} {f : Str} (htl : ∀ σ H Q, Q lo H → tl σ H Q) (hth : ∀ σ H Q, Q hi H → th σ H Q) (h1 : HT.sIx 19 0 lo = k) (h2 : HT.sIx 19 19 hi = k + n) (hn : k + n ≤ 14)
    (hf : ∀ i, i < n → fldOf (k + i) = f) : ∀ σ H Q, tFl K n σ H Q → tLc (iList K (tSl (rSlL K) (tVar 0) tl th)) (gName 2) tYes (tExD K f (tVar 2)) [2] σ H Q := by
  intro σ H Q h
  obtain ⟨x, ⟨L, y, z, es, rfl, hL, m⟩, q⟩ := h
  refine ⟨.ref L, rfl, htl _ _ _ (hth _ _ _ ⟨L, _, rfl, SqL.of hL, fun p hp => ⟨p, rfl, ⟨_, SqL.of upd_same⟩, fun D hD => ?_⟩⟩)⟩
  have hcut : cutV (es.map V.ref) lo hi = ((es.drop k).take n).map V.ref := by
    unfold cutV
    rw [List.length_map, m.1, h1, h2, show k + n - k = n from by omega, List.map_take, List.map_drop]
  have hlen : ((es.drop k).take n).length = n := by
    rw [List.length_take, List.length_drop, m.1]
    omega
  rw [hcut] at hD ⊢
  have gp : Grow H (upd H p (.lst (((es.drop k).take n).map V.ref))) := .new hp
  refine lc_list (xs := ((es.drop k).take n).map V.ref) (fun i H' => Grow (upd H p (.lst (((es.drop k).take n).map V.ref))) H' ∧ H' D = some (.lst (List.replicate i x))) ⟨.new hD, upd_same⟩ (fun i H' _ g => SqL.of (g.1 _ _ upd_same)) (fun i v H' hv g => ?_) (fun H' g => ?_)
  · obtain ⟨e, he, rfl⟩ : ∃ e, ((es.drop k).take n)[i]? = some e ∧ v = .ref e := by
      rw [List.getElem?_map] at hv
      cases e : ((es.drop k).take n)[i]? with
      | none =>
        rw [e] at hv
        cases hv
      | some b =>
        rw [e] at hv
        exact ⟨b, rfl, (Option.some.inj hv).symm⟩
    have hi : i < n := by
      have := (List.getElem?_eq_some_iff.mp he).1
      omega
    have he2 : es[k + i]? = some e := by
      rw [List.getElem?_take, if_pos hi, List.getElem?_drop] at he
      exact he
    have me := (m.2 _ _ he2).grow (gp.trans g.1)
    rw [Nat.zero_add] at me
    unfold Md at me
    rw [if_pos (by omega), hf i hi] at me
    refine ⟨rfl, ?_⟩
    simp only [tYes, ↓reduceIte]
    have xf := c.xf (k + i) (by omega)
    rw [hf i hi] at xf
    refine ⟨.ref e, rfl, e, _, x, rfl, xf, me, _, g.2, by rw [List.length_replicate]; exact small_lt (by omega), ?_, ?_⟩
    · intro b o hb
      have nb : b ≠ D := ne_of_none hb hD
      rw [upd_ne nb]
      exact g.1 b o hb
    · rw [upd_same, ← List.replicate_succ']
  · rw [List.length_map, hlen] at g
    exact q D H' (gp.trans g.1) g.2
def tFlA (K : PySem.W.Frag) (n : Nat) : TE := fun σ H Q => ∃ x L1 j, σ[1]? = some (some (.ref L1)) ∧ H L1 = some (.lst (List.replicate j x)) ∧ In0 K σ H x ∧ j + n ≤ 14 ∧ ∀ L' H', Grow H H' → H' L' = some (.lst (List.replicate (j + n) x)) → Q (.ref L') H'
theorem rep_app {α : Type} (x : α) (i j : Nat) : List.replicate i x ++ List.replicate j x = List.replicate (i + j) x := by
  rw [List.replicate_append_replicate]
theorem fl_cat {K : PySem.W.Frag} {n k : Nat} (hz : n + k ≤ 14) : ∀ σ H Q, tFl K (n + k) σ H Q → tOp rCat (tFl K n) (tFl K k) σ H Q := by
  intro σ H Q h
  obtain ⟨x, hi, q⟩ := h
  refine ⟨x, hi, fun L1 H1 g1 h1 => ⟨x, hi.grow g1, fun L2 H2 g2 h2 => ⟨L1, L2, _, _, rfl, rfl, g2 _ _ h1, h2, by rw [List.length_replicate, List.length_replicate]; exact small_of (by omega), fun p hp => ?_⟩⟩⟩
  refine q p _ ((g1.trans g2).to hp) ?_
  rw [upd_same, rep_app]
theorem fl_catA {K : PySem.W.Frag} {n : Nat} : ∀ σ H Q, tFlA K n σ H Q → tOp rCat (tVar 1) (tFl K n) σ H Q := by
  intro σ H Q h
  obtain ⟨x, L1, j, h1, hL, hi, hz, q⟩ := h
  refine ⟨_, h1, x, hi, fun L2 H2 g2 h2 => ⟨L1, L2, _, _, rfl, rfl, g2 _ _ hL, h2, by rw [List.length_replicate, List.length_replicate]; exact small_of hz, fun p hp => ?_⟩⟩
  refine q p _ (g2.to hp) ?_
  rw [upd_same, rep_app]
/-- some[i].f -/
def tF1 (K : PySem.W.Frag) : TE := fun σ H Q => ∃ x, In0 K σ H x ∧ Q x H
theorem fl_ix {K : PySem.W.Frag} {mg : Str → Option Value} (c : CT K mg) {i : Nat} {f : Str} (hi : i < 14) (hf : fldOf i = f) : ∀ σ H Q, tF1 K σ H Q → tExD K f (tOp (rIxL K) (tVar 0) (tC (.int (i : Int)))) σ H Q := by
  intro σ H Q h
  obtain ⟨x, ⟨L, y, z, es, rfl, hL, m⟩, q⟩ := h
  have hl : i < es.length := by
    rw [m.1]
    omega
  have he : es[i]? = some es[i] := List.getElem?_eq_getElem hl
  have me := m.2 _ _ he
  rw [Nat.zero_add] at me
  unfold Md at me
  rw [if_pos hi, hf] at me
  have xf := c.xf i hi
  rw [hf] at xf
  exact ⟨_, rfl, L, _, _, .ref es[i], rfl, rfl, SqL.of hL, atI_nat (by rw [List.getElem?_map, he]; rfl), es[i], _, x, rfl, xf, me, q⟩
theorem fl_three {K : PySem.W.Frag} : ∀ σ H Q, tFl K 3 σ H Q → tLst (tCons (tF1 K) (tCons (tF1 K) (tCons (tF1 K) tNil))) σ H Q := by
  intro σ H Q h
  obtain ⟨x, hi, q⟩ := h
  exact ⟨x, hi, x, hi, x, hi, small_of (by decide : 3 ≤ 14), fun p hp => q p _ (.new hp) upd_same⟩
def NF : List Str := ["_law_some", "_law_rows", "_law_one"]
theorem scFields : FnScope NF ["_law_some"] (defScope sFields) := ⟨rfl, rfl, rfl, by decide +kernel, rfl, by decide +kernel, by decide +kernel⟩
def spFields (K : PySem.W.Frag) : Sp := fun vs H Q _ => ∃ L es x, vs = [.ref L] ∧ H L = some (.lst (es.map V.ref)) ∧ MdN K H x 0 19 es ∧ ∀ L' H', Grow H H' → H' L' = some (.lst (List.replicate 14 x)) → Q (.ref L') H'
def tFields (K : PySem.W.Frag) : TS := tSeq (tAsg (tFl K 9) (gName 1)) (tRet (tOp rCat (tFlA K 2) (tFl K 3)))
theorem rd_fields {K : PySem.W.Frag} (vs : List V) (H : Hp) (Q : VK) (E : XK) (h : spFields K vs H Q E) : tFields K { nx := fun _ H' => Q .non H', rt := Q } (start NF vs) H := by
  obtain ⟨L, es, x, rfl, hL, m, q⟩ := h
  refine ⟨x, ⟨L, none, none, es, rfl, hL, m⟩, fun L1 H1 g1 h1 => ?_⟩
  have i1 : In0 K (gsl L L1) H1 x := ⟨L, _, _, es, rfl, g1 _ _ hL, m.grow g1⟩
  refine ⟨x, L1, 9, rfl, h1, i1, by decide, fun L2 H2 g2 h2 => ?_⟩
  refine ⟨x, i1.grow g2, fun L3 H3 g3 h3 => ⟨L2, L3, _, _, rfl, rfl, g3 _ _ h2, h3, by rw [List.length_replicate, List.length_replicate]; exact small_of (by decide : 11 + 3 ≤ 14), fun p hp => ?_⟩⟩
  refine q p _ (((g1.trans g2).trans g3).to hp) ?_
  rw [upd_same, rep_app]
section
variable {w : World} {K : PySem.W.Frag} {mg : Str → Option Value} {base : Heap} {f : Addr} {fd : FuncData}
theorem ok_fields (F : FnP K "_law_fields" sFields f fd) (c : CT K mg) : FnOk R.prog w K mg base CX0 1 f fd ["_law_some"] (spFields K) := by
  refine F.ok scFields (fun vs H Q E h => ?_) (fun cdv A outer s H vs Q E hr h => ⟨tFields K, PSs.nox ?_, rd_fields vs H Q E h⟩)
  · obtain ⟨L, es, x, rfl, _⟩ := h
    rfl
  · exact (pss_cons (ps_set (i := 1) scFields.nd rfl (Or.inl rfl) ((pe_op op_cat ((pe_lc (own := [("_law_one", 2)]) (g := gName 2) (tt := tYes) rfl scFields.nd (pi_list (pe_slice sl_list (pv 0) po_none (po_some pe_int))) (blkOk_by (N := NF) (sc := defScope sFields) (by decide +kernel)) (fun _ _ _ _ _ => pg_name (i := 2) scFields.nd rfl (Or.inl rfl)) (fun _ _ _ _ _ => pts_nil) (fun _ _ _ _ _ => pe_exD (pv 2))).mono (fl_lc c (lo := none) (hi := some 7) (k := 0) (n := 7) (f := "value") (fun _ _ _ q => q) (fun _ _ _ q => ⟨_, rfl, q⟩) rfl rfl (by decide) (by decide +kernel))) ((pe_lc (own := [("_law_one", 2)]) (g := gName 2) (tt := tYes) rfl scFields.nd (pi_list (pe_slice sl_list (pv 0) (po_some pe_int) (po_some pe_int))) (blkOk_by (N := NF) (sc := defScope sFields) (by decide +kernel)) (fun _ _ _ _ _ => pg_name (i := 2) scFields.nd rfl (Or.inl rfl)) (fun _ _ _ _ _ => pts_nil) (fun _ _ _ _ _ => pe_exD (pv 2))).mono (fl_lc c (lo := (some 7)) (hi := some 9) (k := 7) (n := 2) (f := "line") (fun _ _ _ q => ⟨_, rfl, q⟩) (fun _ _ _ q => ⟨_, rfl, q⟩) rfl rfl (by decide) (by decide +kernel)))).mono (fl_cat (n := 7) (k := 2) (by decide))))
      (pss_one (ps_ret (pe_op op_cat ((pe_op op_cat (pv 1) ((pe_lc (own := [("_law_one", 2)]) (g := gName 2) (tt := tYes) rfl scFields.nd (pi_list (pe_slice sl_list (pv 0) (po_some pe_int) (po_some pe_int))) (blkOk_by (N := NF) (sc := defScope sFields) (by decide +kernel)) (fun _ _ _ _ _ => pg_name (i := 2) scFields.nd rfl (Or.inl rfl)) (fun _ _ _ _ _ => pts_nil) (fun _ _ _ _ _ => pe_exD (pv 2))).mono (fl_lc c (lo := (some 9)) (hi := some 11) (k := 9) (n := 2) (f := "index") (fun _ _ _ q => ⟨_, rfl, q⟩) (fun _ _ _ q => ⟨_, rfl, q⟩) rfl rfl (by decide) (by decide +kernel)))).mono fl_catA) ((pe_lst (pa_cons ((pe_exD (pe_ix ix_list (pv 0) pe_int (fun _ _ => rfl))).mono (fl_ix c (i := 11) (f := "cycle") (by decide) rfl)) (pa_cons ((pe_exD (pe_ix ix_list (pv 0) pe_int (fun _ _ => rfl))).mono (fl_ix c (i := 12) (f := "better") (by decide) rfl)) (pa_cons ((pe_exD (pe_ix ix_list (pv 0) pe_int (fun _ _ => rfl))).mono (fl_ix c (i := 13) (f := "limit") (by decide) rfl)) pa_nil)))).mono fl_three)))))

end
end K96

namespace K96
open PySem PySem.Spec PyProof.Rows L2 PySem.SX Hx
/-! ### the kinds -/
def kdl (i k n : Nat) : List V := (List.range' k n).map fun j => V.bl (i == j)
theorem kdl_len (i k n : Nat) : (kdl i k n).length = n := by
  unfold kdl
  rw [List.length_map, List.length_range']
theorem kdl_app (i k n m : Nat) : kdl i k n ++ kdl i (k + n) m = kdl i k (n + m) := by
  unfold kdl
  rw [← List.map_append, ← List.range'_append_1]
/-- the exception in slot 0 -/
def Ob0 (K : PySem.W.Frag) (σ : L2.St) (H : Hp) (i : Nat) : Prop := ∃ e x, σ[0]? = some (some (.ref e)) ∧ i < 19 ∧ Md K H x i e
theorem Ob0.grow {K : PySem.W.Frag} {σ : L2.St} {H H' : Hp} {i : Nat} (h : Ob0 K σ H i) (g : Grow H H') : Ob0 K σ H' i := by
  obtain ⟨e, x, h1, h2, m⟩ := h
  exact ⟨e, x, h1, h2, m.grow g⟩
theorem Md.exo {K : PySem.W.Frag} {H : Hp} {x : V} {i : Nat} {e : Addr} (m : Md K H x i e) : ∃ d, H e = some (exo e (ca K i) d) ∧ ∀ dd, d = some dd → ∃ fs, H dd = some (.xd fs) := by
  unfold Md at m
  by_cases h : i < 14
  · rw [if_pos h] at m
    obtain ⟨d, a, b⟩ := m
    exact ⟨some d, a, fun dd z => by cases z; exact ⟨_, b⟩⟩
  · rw [if_neg h] at m
    exact ⟨none, m, fun dd z => by cases z⟩
def tI1 (K : PySem.W.Frag) (j : Nat) : TE := fun σ H Q => ∃ i, Ob0 K σ H i ∧ Q (.bl (i == j)) H
def tIs (K : PySem.W.Frag) (k n : Nat) : TA := fun σ H Q => ∃ i, Ob0 K σ H i ∧ Q (kdl i k n) H
section
variable {X : Cx} {e : Expr} {es : List Expr} {pos : Pos} {K : PySem.W.Frag} {mg : Str → Option Value}
theorem is_cls (c : CT K mg) {j : Nat} {a : Addr} (hj : j < 19) (ha : ca K j = a) : ∀ σ H Q, tI1 K j σ H Q → tCB (rIsD K) (tCons (tVar 0) (tCons (tC (.ref a)) tNil)) σ H Q := by
  intro σ H Q h
  obtain ⟨i, ⟨e, x, h1, hi, m⟩, q⟩ := h
  obtain ⟨d, m1, m2⟩ := m.exo
  have kk := c.kk i j hi hj
  rw [ha] at kk
  exact ⟨_, h1, e, ca K i, d, .ref a, .ref a, i == j, rfl, c.xc i hi, m1, m2, fun u r => r, kk, q⟩
theorem is0 {k : Nat} : PA X [] (tIs K k 0) := pa_nil.mono fun σ H Q q => by
  obtain ⟨i, _, q⟩ := q
  exact q
theorem is1 {k n : Nat} (h : PE X e (tI1 K k)) (r : PA X es (tIs K (k + 1) n)) (hs : starEach (e :: es) X.env = (false, eval e X.env) :: starEach es X.env := by rfl) : PA X (e :: es) (tIs K k (n + 1)) :=
  (pa_cons h r hs).mono fun σ H Q q => by
    obtain ⟨i, ho, q⟩ := q
    exact ⟨i, ho, i, ho, q⟩
end
def tKd0 (K : PySem.W.Frag) (n : Nat) : TE := fun σ H Q => ∃ i, Ob0 K σ H i ∧ ∀ L' H', Grow H H' → H' L' = some (.lst (kdl i 0 n)) → Q (.ref L') H'
def tKd (K : PySem.W.Frag) (n m : Nat) : TE := fun σ H Q => ∃ i L, Ob0 K σ H i ∧ σ[1]? = some (some (.ref L)) ∧ H L = some (.lst (kdl i 0 n)) ∧ ∀ L' H', Grow H H' → H' L' = some (.lst (kdl i 0 (n + m))) → Q (.ref L') H'
theorem kd0 {K : PySem.W.Frag} {m : Nat} (hm : m ≤ 19) : ∀ σ H Q, tKd0 K m σ H Q → tLst (tIs K 0 m) σ H Q := fun σ H Q q => by
  obtain ⟨i, ho, q⟩ := q
  exact ⟨i, ho, by rw [kdl_len]; exact small19 hm, fun p hp => q p _ (.new hp) upd_same⟩
theorem kd1 {K : PySem.W.Frag} {n m : Nat} (hm : n + m ≤ 19) : ∀ σ H Q, tKd K n m σ H Q → tOp rCat (tVar 1) (tLst (tIs K n m)) σ H Q := fun σ H Q q => by
  obtain ⟨i, L, ho, h1, hL, q⟩ := q
  refine ⟨_, h1, i, ho, by rw [kdl_len]; exact small19 (by omega), fun p hp => ⟨L, p, _, _, rfl, rfl, (Grow.new hp) _ _ hL, upd_same, by rw [kdl_len, kdl_len]; exact small19 hm, fun p2 hp2 => ?_⟩⟩
  refine q p2 _ ((Grow.new hp).to hp2) ?_
  have z := kdl_app i 0 n m
  rw [Nat.zero_add] at z
  rw [upd_same, z]
def NK : List Str := ["_law_thing", "_law_rows"]
theorem scKinds : FnScope NK ["_law_thing"] (defScope sKinds) := ⟨rfl, rfl, rfl, by decide +kernel, rfl, by decide +kernel, by decide +kernel⟩
def spKinds (K : PySem.W.Frag) : Sp := fun vs H Q _ => ∃ e x i, vs = [.ref e] ∧ i < 19 ∧ Md K H x i e ∧ ∀ L' H', Grow H H' → H' L' = some (.lst (kdl i 0 19)) → Q (.ref L') H'
def tKinds (K : PySem.W.Frag) : TS := tSeq (tAsg (tKd0 K 3) (gName 1)) (tSeq (tAsg (tKd K 3 3) (gName 1)) (tSeq (tAsg (tKd K 6 3) (gName 1)) (tSeq (tAsg (tKd K 9 3) (gName 1)) (tSeq (tAsg (tKd K 12 3) (gName 1)) (tSeq (tAsg (tKd K 15 2) (gName 1)) (tRet (tKd K 17 2)))))))
theorem rd_kinds {K : PySem.W.Frag} (vs : List V) (H : Hp) (Q : VK) (E : XK) (h : spKinds K vs H Q E) : tKinds K { nx := fun _ H' => Q .non H', rt := Q } (start NK vs) H := by
  obtain ⟨e, x, i, rfl, hi, m, q⟩ := h
  refine ⟨i, ⟨e, x, rfl, hi, m⟩, fun L0 H0 g0 h0 => ?_⟩
  refine ⟨i, L0, ⟨e, x, rfl, hi, m.grow g0⟩, rfl, h0, fun L1 H1 g1 h1 => ?_⟩
  refine ⟨i, L1, ⟨e, x, rfl, hi, m.grow (g0.trans g1)⟩, rfl, h1, fun L2 H2 g2 h2 => ?_⟩
  refine ⟨i, L2, ⟨e, x, rfl, hi, m.grow ((g0.trans g1).trans g2)⟩, rfl, h2, fun L3 H3 g3 h3 => ?_⟩
  refine ⟨i, L3, ⟨e, x, rfl, hi, m.grow (((g0.trans g1).trans g2).trans g3)⟩, rfl, h3, fun L4 H4 g4 h4 => ?_⟩
  refine ⟨i, L4, ⟨e, x, rfl, hi, m.grow ((((g0.trans g1).trans g2).trans g3).trans g4)⟩, rfl, h4, fun L5 H5 g5 h5 => ?_⟩
  exact ⟨i, L5, ⟨e, x, rfl, hi, m.grow (((((g0.trans g1).trans g2).trans g3).trans g4).trans g5)⟩, rfl, h5, fun L H' g h => q L H' ((((((g0.trans g1).trans g2).trans g3).trans g4).trans g5).trans g) h⟩

section
variable {w : World} {K : PySem.W.Frag} {mg : Str → Option Value} {base : Heap} {f : Addr} {fd : FuncData}
theorem ok_kinds (F : FnP K "_law_kinds" sKinds f fd) (c : CT K mg) : FnOk R.prog w K mg base CX0 1 f fd ["_law_thing"] (spKinds K) := by
  refine F.ok scKinds (fun vs H Q E h => ?_) (fun cdv A outer s H vs Q E hr h => ⟨tKinds K, PSs.nox ?_, rd_kinds vs H Q E h⟩)
  · obtain ⟨e, x, i, rfl, _⟩ := h
    rfl
  · exact (pss_cons (ps_set (i := 1) scKinds.nd rfl (Or.inl rfl) (PE.mono (pe_lst (is1 (PE.mono (pe_callB call_isD rfl (c.fr _ (by decide)) boot_isinstance (pa_cons (pv 0) (pa_cons (pe_glob (v := .ref (ca K 0)) rfl (t0 c).gC rfl) pa_nil))) (is_cls c (j := 0) (by decide) rfl)) (is1 (PE.mono (pe_callB call_isD rfl (c.fr _ (by decide)) boot_isinstance (pa_cons (pv 0) (pa_cons (pe_glob (v := .ref (ca K 1)) rfl (t1 c).gC rfl) pa_nil))) (is_cls c (j := 1) (by decide) rfl)) (is1 (PE.mono (pe_callB call_isD rfl (c.fr _ (by decide)) boot_isinstance (pa_cons (pv 0) (pa_cons (pe_glob (v := .ref (ca K 2)) rfl (t2 c).gC rfl) pa_nil))) (is_cls c (j := 2) (by decide) rfl)) is0)))) (kd0 (by decide))))
    (pss_cons (ps_set (i := 1) scKinds.nd rfl (Or.inl rfl) (PE.mono (pe_op op_cat (pv 1) (pe_lst (is1 (PE.mono (pe_callB call_isD rfl (c.fr _ (by decide)) boot_isinstance (pa_cons (pv 0) (pa_cons (pe_glob (v := .ref (ca K 3)) rfl (t3 c).gC rfl) pa_nil))) (is_cls c (j := 3) (by decide) rfl)) (is1 (PE.mono (pe_callB call_isD rfl (c.fr _ (by decide)) boot_isinstance (pa_cons (pv 0) (pa_cons (pe_glob (v := .ref (ca K 4)) rfl (t4 c).gC rfl) pa_nil))) (is_cls c (j := 4) (by decide) rfl)) (is1 (PE.mono (pe_callB call_isD rfl (c.fr _ (by decide)) boot_isinstance (pa_cons (pv 0) (pa_cons (pe_glob (v := .ref (ca K 5)) rfl (t5 c).gC rfl) pa_nil))) (is_cls c (j := 5) (by decide) rfl)) is0))))) (kd1 (by decide))))
    (pss_cons (ps_set (i := 1) scKinds.nd rfl (Or.inl rfl) (PE.mono (pe_op op_cat (pv 1) (pe_lst (is1 (PE.mono (pe_callB call_isD rfl (c.fr _ (by decide)) boot_isinstance (pa_cons (pv 0) (pa_cons (pe_glob (v := .ref (ca K 6)) rfl (t6 c).gC rfl) pa_nil))) (is_cls c (j := 6) (by decide) rfl)) (is1 (PE.mono (pe_callB call_isD rfl (c.fr _ (by decide)) boot_isinstance (pa_cons (pv 0) (pa_cons (pe_glob (v := .ref (ca K 7)) rfl (t7 c).gC rfl) pa_nil))) (is_cls c (j := 7) (by decide) rfl)) (is1 (PE.mono (pe_callB call_isD rfl (c.fr _ (by decide)) boot_isinstance (pa_cons (pv 0) (pa_cons (pe_glob (v := .ref (ca K 8)) rfl (t8 c).gC rfl) pa_nil))) (is_cls c (j := 8) (by decide) rfl)) is0))))) (kd1 (by decide))))
    (pss_cons (ps_set (i := 1) scKinds.nd rfl (Or.inl rfl) (PE.mono (pe_op op_cat (pv 1) (pe_lst (is1 (PE.mono (pe_callB call_isD rfl (c.fr _ (by decide)) boot_isinstance (pa_cons (pv 0) (pa_cons (pe_glob (v := .ref (ca K 9)) rfl (t9 c).gC rfl) pa_nil))) (is_cls c (j := 9) (by decide) rfl)) (is1 (PE.mono (pe_callB call_isD rfl (c.fr _ (by decide)) boot_isinstance (pa_cons (pv 0) (pa_cons (pe_glob (v := .ref (ca K 10)) rfl (t10 c).gC rfl) pa_nil))) (is_cls c (j := 10) (by decide) rfl)) (is1 (PE.mono (pe_callB call_isD rfl (c.fr _ (by decide)) boot_isinstance (pa_cons (pv 0) (pa_cons (pe_glob (v := .ref (ca K 11)) rfl (t11 c).gC rfl) pa_nil))) (is_cls c (j := 11) (by decide) rfl)) is0))))) (kd1 (by decide))))
    (pss_cons (ps_set (i := 1) scKinds.nd rfl (Or.inl rfl) (PE.mono (pe_op op_cat (pv 1) (pe_lst (is1 (PE.mono (pe_callB call_isD rfl (c.fr _ (by decide)) boot_isinstance (pa_cons (pv 0) (pa_cons (pe_glob (v := .ref (ca K 12)) rfl (t12 c).gC rfl) pa_nil))) (is_cls c (j := 12) (by decide) rfl)) (is1 (PE.mono (pe_callB call_isD rfl (c.fr _ (by decide)) boot_isinstance (pa_cons (pv 0) (pa_cons (pe_glob (v := .ref (ca K 13)) rfl (t13 c).gC rfl) pa_nil))) (is_cls c (j := 13) (by decide) rfl)) (is1 (PE.mono (pe_callB call_isD rfl (c.fr _ (by decide)) boot_isinstance (pa_cons (pv 0) (pa_cons (pe_glob (v := .ref (ca K 14)) rfl c.z14.2.1 rfl) pa_nil))) (is_cls c (j := 14) (by decide) rfl)) is0))))) (kd1 (by decide))))
    (pss_cons (ps_set (i := 1) scKinds.nd rfl (Or.inl rfl) (PE.mono (pe_op op_cat (pv 1) (pe_lst (is1 (PE.mono (pe_callB call_isD rfl (c.fr _ (by decide)) boot_isinstance (pa_cons (pv 0) (pa_cons (pe_glob (v := .ref (ca K 15)) rfl c.z15.2.1 rfl) pa_nil))) (is_cls c (j := 15) (by decide) rfl)) (is1 (PE.mono (pe_callB call_isD rfl (c.fr _ (by decide)) boot_isinstance (pa_cons (pv 0) (pa_cons (pe_glob (v := .ref (ca K 16)) rfl c.z16.2.1 rfl) pa_nil))) (is_cls c (j := 16) (by decide) rfl)) is0)))) (kd1 (by decide))))
    (pss_one (ps_ret (PE.mono (pe_op op_cat (pv 1) (pe_lst (is1 (PE.mono (pe_callB call_isD rfl (c.fr _ (by decide)) boot_isinstance (pa_cons (pv 0) (pa_cons (pe_glob (v := .ref (ca K 17)) rfl c.z17.2.1 rfl) pa_nil))) (is_cls c (j := 17) (by decide) rfl)) (is1 (PE.mono (pe_callB call_isD rfl (c.fr _ (by decide)) boot_isinstance (pa_cons (pv 0) (pa_cons (pe_glob (v := .ref (ca K 18)) rfl c.z18.2.1 rfl) pa_nil))) (is_cls c (j := 18) (by decide) rfl)) is0)))) (kd1 (by decide)))))))))))
end
/-! ### Python's own kinds -/
def ltr (j : Nat) : Str := (["v", "k", "i", "o", "r", "t"] : List Str).getD j ""
def tbb (i j : Nat) : Bool := (tb.getD i []).getD j false
def pyt (i j : Nat) : Str := Txt.mul (ltr j) (if tbb i j then 1 else 0)
def pyl (i k n : Nat) : List V := (List.range' k n).map fun j => V.str (pyt i j)
theorem pyl_len (i k n : Nat) : (pyl i k n).length = n := by
  unfold pyl
  rw [List.length_map, List.length_range']
theorem pyl_app (i k n m : Nat) : pyl i k n ++ pyl i (k + n) m = pyl i k (n + m) := by
  unfold pyl
  rw [← List.map_append, ← List.range'_append_1]
theorem mul_ok (j : Nat) (b : Bool) (hj : j < 6) : MulOk (ltr j) (if b then 1 else 0) := by
  have h1 : MulOk (ltr j) 0 := ⟨by decide, fun z => absurd (by decide) z, fun z => absurd (by decide) z⟩
  have h2 : MulOk (ltr j) 1 := ⟨by decide, fun _ z => by simp at z, fun _ z => by simp at z⟩
  cases b
  · exact h1
  · exact h2
def tP1 (K : PySem.W.Frag) (j : Nat) : TE := fun σ H Q => ∃ i, Ob0 K σ H i ∧ Q (.str (pyt i j)) H
def tPs (K : PySem.W.Frag) (k n : Nat) : TA := fun σ H Q => ∃ i, Ob0 K σ H i ∧ Q (pyl i k n) H
theorem is_bt {K : PySem.W.Frag} {mg : Str → Option Value} (c : CT K mg) {j : Nat} {s : Str} {t : String} (hj : j < 6) (hs : ltr j = s) (ht : bt.getD j "" = t) : ∀ σ H Q, tP1 K j σ H Q →
    tOp rStrMul (tC (.str s)) (tCB (fun xs H Q => (∃ i, xs = [.int i] ∧ Q (.int i) H) ∨ ∃ k, xs = [.bl k] ∧ Q (.int (if k then 1 else 0)) H) (tCons (tCB (rIsD K) (tCons (tVar 0) (tCons (tC (.ty t)) tNil))) tNil)) σ H Q := by
  intro σ H Q h
  obtain ⟨i, ⟨e, x, h1, hi, m⟩, q⟩ := h
  obtain ⟨d, m1, m2⟩ := m.exo
  have kb := c.kb i j hi hj
  rw [ht] at kb
  have mo := mul_ok j (tbb i j) hj
  rw [hs] at mo
  refine ⟨_, h1, e, ca K i, d, .ty t, .type t, tbb i j, rfl, c.xc i hi, m1, m2, fun u r => r, kb, .inr ⟨_, rfl, s, _, rfl, rfl, mo, ?_⟩⟩
  rw [← hs]
  exact q
section
variable {X : Cx} {e : Expr} {es : List Expr} {pos : Pos} {K : PySem.W.Frag} {mg : Str → Option Value}
theorem py0 {k : Nat} : PA X [] (tPs K k 0) := pa_nil.mono fun σ H Q q => by
  obtain ⟨i, _, q⟩ := q
  exact q
theorem py1 {k n : Nat} (h : PE X e (tP1 K k)) (r : PA X es (tPs K (k + 1) n)) (hs : starEach (e :: es) X.env = (false, eval e X.env) :: starEach es X.env := by rfl) : PA X (e :: es) (tPs K k (n + 1)) :=
  (pa_cons h r hs).mono fun σ H Q q => by
    obtain ⟨i, ho, q⟩ := q
    exact ⟨i, ho, i, ho, q⟩
end
def due (i : Nat) : Str := Txt.join "" ((List.range 6).map (pyt i))
def tPy0 (K : PySem.W.Frag) (n : Nat) : TE := fun σ H Q => ∃ i, Ob0 K σ H i ∧ ∀ L' H', Grow H H' → H' L' = some (.lst (pyl i 0 n)) → Q (.ref L') H'
def tPy (K : PySem.W.Frag) (n m : Nat) : TE := fun σ H Q => ∃ i L, Ob0 K σ H i ∧ σ[1]? = some (some (.ref L)) ∧ H L = some (.lst (pyl i 0 n)) ∧ ∀ L' H', Grow H H' → H' L' = some (.lst (pyl i 0 (n + m))) → Q (.ref L') H'
theorem pyl0 {K : PySem.W.Frag} {m : Nat} (hm : m ≤ 19) : ∀ σ H Q, tPy0 K m σ H Q → tLst (tPs K 0 m) σ H Q := fun σ H Q q => by
  obtain ⟨i, ho, q⟩ := q
  exact ⟨i, ho, by rw [pyl_len]; exact small19 hm, fun p hp => q p _ (.new hp) upd_same⟩
theorem pyl1 {K : PySem.W.Frag} {n m : Nat} (hm : n + m ≤ 19) : ∀ σ H Q, tPy K n m σ H Q → tOp rCat (tVar 1) (tLst (tPs K n m)) σ H Q := fun σ H Q q => by
  obtain ⟨i, L, ho, h1, hL, q⟩ := q
  refine ⟨_, h1, i, ho, by rw [pyl_len]; exact small19 (by omega), fun p hp => ⟨L, p, _, _, rfl, rfl, (Grow.new hp) _ _ hL, upd_same, by rw [pyl_len, pyl_len]; exact small19 hm, fun p2 hp2 => ?_⟩⟩
  refine q p2 _ ((Grow.new hp).to hp2) ?_
  have z := pyl_app i 0 n m
  rw [Nat.zero_add] at z
  rw [upd_same, z]
theorem py_len (i : Nat) (hi : i < 19) : ((((List.range 6).map (pyt i)).map (·.length)).sum + ((List.range 6).map (pyt i)).length * (Str.length "")) ≤ 16777216 := by
  have k : ((List.range 19).all fun i => decide (((((List.range 6).map (pyt i)).map (·.length)).sum + ((List.range 6).map (pyt i)).length * (Str.length "")) ≤ 16777216)) = true := by decide +kernel
  exact of_decide_eq_true (List.all_eq_true.mp k i (List.mem_range.mpr hi))
theorem scPython : FnScope NK ["_law_thing"] (defScope sPython) := ⟨rfl, rfl, rfl, by decide +kernel, rfl, by decide +kernel, by decide +kernel⟩
def spPython (K : PySem.W.Frag) : Sp := fun vs H Q _ => ∃ e x i, vs = [.ref e] ∧ i < 19 ∧ Md K H x i e ∧ ∀ H', Grow H H' → Q (.str (due i)) H'
abbrev rJoin (K : PySem.W.Frag) : V → List V → Hp → VK → Prop := fun x xs H Q => ∃ a p, ∃ ys : List Str, x = .str a ∧ xs = [.ref p] ∧ (SqL K H p (ys.map V.str) ∨ SqT K H p (ys.map V.str)) ∧ (ys.map (·.length)).sum + ys.length * a.length ≤ 16777216 ∧ Q (.str (Txt.join a ys)) H
def tPython (K : PySem.W.Frag) : TS := tSeq (tAsg (tPy0 K 2) (gName 1)) (tSeq (tAsg (tPy K 2 2) (gName 1)) (tRet (tM1 (rJoin K) (tC (.str "")) (tPy K 4 2))))
theorem rd_python {K : PySem.W.Frag} (vs : List V) (H : Hp) (Q : VK) (E : XK) (h : spPython K vs H Q E) : tPython K { nx := fun _ H' => Q .non H', rt := Q } (start NK vs) H := by
  obtain ⟨e, x, i, rfl, hi, m, q⟩ := h
  refine ⟨i, ⟨e, x, rfl, hi, m⟩, fun L0 H0 g0 h0 => ?_⟩
  refine ⟨i, L0, ⟨e, x, rfl, hi, m.grow g0⟩, rfl, h0, fun L1 H1 g1 h1 => ?_⟩
  refine ⟨⟨_, rfl⟩, i, L1, ⟨e, x, rfl, hi, m.grow (g0.trans g1)⟩, rfl, h1, fun L2 H2 g2 h2 => ⟨_, L2, (List.range 6).map (pyt i), rfl, rfl, .inl (SqL.of ?_), py_len i hi, q H2 ((g0.trans g1).trans g2)⟩⟩
  rw [h2]
  rfl

section
variable {w : World} {K : PySem.W.Frag} {mg : Str → Option Value} {base : Heap} {f : Addr} {fd : FuncData}
theorem ok_python (F : FnP K "_law_python" sPython f fd) (c : CT K mg) : FnOk R.prog w K mg base CX0 1 f fd ["_law_thing"] (spPython K) := by
  refine F.ok scPython (fun vs H Q E h => ?_) (fun cdv A outer s H vs Q E hr h => ⟨tPython K, PSs.nox ?_, rd_python vs H Q E h⟩)
  · obtain ⟨e, x, i, rfl, _⟩ := h
    rfl
  · exact pss_cons (ps_set (i := 1) scPython.nd rfl (Or.inl rfl) (PE.mono (pe_lst (py1 (PE.mono (pe_op op_strMul pe_str (pe_callTy call_int1 rfl (c.fr _ (by decide)) boot_int (pa_cons (pe_callB call_isD rfl (c.fr _ (by decide)) boot_isinstance (pa_cons (pv 0) (pa_cons (pe_bltn (v := .ty "ValueError") (u := .type "ValueError") rfl (c.fr _ (by decide)) (by decide +kernel) rfl) pa_nil))) pa_nil))) (is_bt c (j := 0) (s := "v") (t := "ValueError") (by decide) rfl rfl)) (py1 (PE.mono (pe_op op_strMul pe_str (pe_callTy call_int1 rfl (c.fr _ (by decide)) boot_int (pa_cons (pe_callB call_isD rfl (c.fr _ (by decide)) boot_isinstance (pa_cons (pv 0) (pa_cons (pe_bltn (v := .ty "KeyError") (u := .type "KeyError") rfl (c.fr _ (by decide)) (by decide +kernel) rfl) pa_nil))) pa_nil))) (is_bt c (j := 1) (s := "k") (t := "KeyError") (by decide) rfl rfl)) py0))) (pyl0 (by decide))))
      (pss_cons (ps_set (i := 1) scPython.nd rfl (Or.inl rfl) (PE.mono (pe_op op_cat (pv 1) (pe_lst (py1 (PE.mono (pe_op op_strMul pe_str (pe_callTy call_int1 rfl (c.fr _ (by decide)) boot_int (pa_cons (pe_callB call_isD rfl (c.fr _ (by decide)) boot_isinstance (pa_cons (pv 0) (pa_cons (pe_bltn (v := .ty "IndexError") (u := .type "IndexError") rfl (c.fr _ (by decide)) (by decide +kernel) rfl) pa_nil))) pa_nil))) (is_bt c (j := 2) (s := "i") (t := "IndexError") (by decide) rfl rfl)) (py1 (PE.mono (pe_op op_strMul pe_str (pe_callTy call_int1 rfl (c.fr _ (by decide)) boot_int (pa_cons (pe_callB call_isD rfl (c.fr _ (by decide)) boot_isinstance (pa_cons (pv 0) (pa_cons (pe_bltn (v := .ty "OverflowError") (u := .type "OverflowError") rfl (c.fr _ (by decide)) (by decide +kernel) rfl) pa_nil))) pa_nil))) (is_bt c (j := 3) (s := "o") (t := "OverflowError") (by decide) rfl rfl)) py0)))) (pyl1 (by decide))))
      (pss_one (ps_ret (pe_join pe_str (PE.mono (pe_op op_cat (pv 1) (pe_lst (py1 (PE.mono (pe_op op_strMul pe_str (pe_callTy call_int1 rfl (c.fr _ (by decide)) boot_int (pa_cons (pe_callB call_isD rfl (c.fr _ (by decide)) boot_isinstance (pa_cons (pv 0) (pa_cons (pe_bltn (v := .ty "RuntimeError") (u := .type "RuntimeError") rfl (c.fr _ (by decide)) (by decide +kernel) rfl) pa_nil))) pa_nil))) (is_bt c (j := 4) (s := "r") (t := "RuntimeError") (by decide) rfl rfl)) (py1 (PE.mono (pe_op op_strMul pe_str (pe_callTy call_int1 rfl (c.fr _ (by decide)) boot_int (pa_cons (pe_callB call_isD rfl (c.fr _ (by decide)) boot_isinstance (pa_cons (pv 0) (pa_cons (pe_bltn (v := .ty "TypeError") (u := .type "TypeError") rfl (c.fr _ (by decide)) (by decide +kernel) rfl) pa_nil))) pa_nil))) (is_bt c (j := 5) (s := "t") (t := "TypeError") (by decide) rfl rfl)) py0)))) (pyl1 (by decide)))))))
end
end K96

namespace K96
open PySem PySem.Spec PyProof.Rows L2 PySem.SX Hx
/-! ### the values -/
def dat0 : List PyData := [.none, .bool true, .bool false, .int 0, .int (-7), .int (10 ^ (59 : Int).toNat), .str "", .str "a", .str "A b", .tuple [], .tuple [.str "a", .int 1], .list [], .dict [], .dict [(.str "a", .list [.int 1])], .tuple [.none, .list [.tuple []]]]
def dats (t : Nat) : List PyData := (dat0.drop t ++ dat0.take t) ++ [.int ((t : Int) * 1009), .tuple [.str (Txt.mul "a" (t : Int)), .int (t : Int)]]
theorem can_ints : ∀ ns : List Int, PyData.canLayAll0 (ns.map PyData.int) = true
  | [] => by simp only [List.map_nil, PyData.canLayAll0]
  | n :: ns => by simp only [List.map_cons, PyData.canLayAll0, PyData.canLay0, can_ints ns, Bool.and_self]
theorem dep_ints : ∀ ns : List Int, PyData.depthAll (ns.map PyData.int) ≤ 1
  | [] => by simp only [List.map_nil, PyData.depthAll]; omega
  | n :: ns => by
    have := dep_ints ns
    simp only [List.map_cons, PyData.depthAll, PyData.depth]
    omega
theorem shaped_ints (ns : List Int) : SeqAt.shaped (.list (ns.map PyData.int)) = true := by
  unfold SeqAt.shaped
  have h1 := can_ints ns
  have h2 := dep_ints ns
  rw [Bool.and_eq_true]
  refine ⟨by simp only [PyData.canLay0]; exact h1, decide_eq_true ?_⟩
  simp only [PyData.depth]
  omega
theorem dp_ints {K : PySem.W.Frag} {H : Hp} : ∀ ns : List Int, DpAll K H (ns.map V.int) (ns.map PyData.int)
  | [] => .nil
  | n :: ns => .cons (.int n) (dp_ints ns)
theorem cut_from (vs : List V) (t : Nat) (h : t ≤ vs.length) : cutV vs (some (t : Int)) none = vs.drop t := by
  unfold cutV
  rw [HT.sIx_nat, HT.sIx_none, Nat.min_eq_left h, ← List.length_drop, List.take_length]
theorem cut_to (vs : List V) (t : Nat) (h : t ≤ vs.length) : cutV vs none (some (t : Int)) = vs.take t := by
  unfold cutV
  rw [HT.sIx_nat, HT.sIx_none, Nat.min_eq_left h, Nat.sub_zero, List.drop_zero]
theorem cut_ints (ns : List Int) (lo hi : Option Int) : ∃ ms : List Int, cutV (ns.map V.int) lo hi = ms.map V.int :=
  ⟨((ns.drop (HT.sIx (ns.map V.int).length 0 lo)).take (HT.sIx (ns.map V.int).length (ns.map V.int).length hi - HT.sIx (ns.map V.int).length 0 lo)), by unfold cutV; rw [List.map_take, List.map_drop]⟩
theorem mul_okT {t : Nat} (h : t < 15) : MulOk "a" (t : Int) := by
  have k : ∀ i : Fin 15, decide ((decide ((i.val : Int) < -(2 ^ 63 : Int)) || decide ((i.val : Int) ≥ 2 ^ 63)) = false ∧ ¬ (((Str.length "a" : Nat) : Int) > (2 ^ 63 - 1) / (i.val : Int)) ∨ (i.val = 0)) = true := by decide +kernel
  refine ⟨?_, fun _ _ => ?_, fun _ _ => ?_⟩
  · have h1 : ¬ ((t : Int) < -(2 ^ 63 : Int)) := by omega
    have h2 : ¬ ((t : Int) ≥ 2 ^ 63) := by omega
    rw [decide_eq_false h1, decide_eq_false h2]
    rfl
  · rcases of_decide_eq_true (k ⟨t, h⟩) with ⟨_, q⟩ | q
    · exact q
    · exfalso
      have q' : t = 0 := q
      omega
  · have e : Str.length "a" = 1 := by decide +kernel
    rw [e]
    have z : 1 * (t : Int).toNat ≤ 16 := by omega
    unfold Builtin.Str.tooLong
    simp
    rw [sizeLine_eq]
    omega
def NV : List Str := ["_law_script", "_law_some", "_law_turn"]
theorem scValues : FnScope NV ["_law_script"] (defScope sValues) := ⟨rfl, rfl, rfl, by decide +kernel, rfl, by decide +kernel, by decide +kernel⟩
def spValues (K : PySem.W.Frag) : Sp := fun vs H Q _ => ∃ (a : Addr) (ns : List Int), vs = [.ref a] ∧ SqL K H a (ns.map V.int) ∧ ∀ t L us H', t < 15 → Grow H H' → H' L = some (.lst us) → ShA H' us (dats t) → Q (.ref L) H'
def tTurn (K : PySem.W.Frag) : TE := tIf (tTest (tOp (rNeD K) (tVar 0) (tLst tNil))) (tOp (rI (fun _ j => 0 < j) fun i j => .int (i % j)) (tCB (fun xs H Q => ∃ i, xs = [.int i] ∧ Q (.int (if i < 0 then -i else i)) H) (tCons (tCB (rSum K) (tCons (tSl (rSlL K) (tVar 0) tNoPart (tPart (tC (.int 63)))) tNil)) tNil)) (tCB (fun xs H Q => ∃ p ys, xs = [.ref p] ∧ (SqL K H p ys ∨ SqT K H p ys) ∧ Q (.int ys.length) H) (tCons (tVar 1) tNil))) (tC (.int 0))
def tValues (K : PySem.W.Frag) : TS := tSeq (tAsg (tSh (.list dat0)) (gName 1)) (tSeq (tAsg (tTurn K) (gName 2)) (tRet (tOp rCat (tOp rCat (tSl (rSlL K) (tVar 1) (tPart (tVar 2)) tNoPart) (tSl (rSlL K) (tVar 1) tNoPart (tPart (tVar 2)))) (tLst (tCons (tOp (rI CMul fun i j => .int (i * j)) (tVar 2) (tC (.int 1009))) (tCons (tTup (tCons (tOp rStrMul (tC (.str "a")) (tVar 2)) (tCons (tVar 2) tNil))) tNil))))))
theorem rd_turn {K : PySem.W.Frag} {H : Hp} {a L : Addr} {ns : List Int} {vs : List V} {Q : VK} {z : Option V} (ha : SqL K H a (ns.map V.int)) (hL : H L = some (.lst vs)) (hv : vs.length = 15) (q : ∀ t H', t < 15 → Grow H H' → Q (.int ((t : Nat) : Int)) H') : tTurn K [some (.ref a), some (.ref L), z] H Q := by
  refine ⟨_, rfl, by show (0 : Nat) ≤ sizeLine; exact Nat.zero_le _, fun p hp => ⟨.list (ns.map PyData.int), .list [], .lst ((Grow.new hp).sql ha) (dp_ints ns), .lst (SqL.of upd_same) .nil, shaped_ints ns, by decide +kernel, _, rfl, ?_⟩⟩
  dsimp only
  split
  · refine ⟨_, rfl, ⟨63, rfl, a, _, rfl, (Grow.new hp).sql ha, fun p2 hp2 => ?_⟩⟩
    obtain ⟨ms, hms⟩ := cut_ints ns none (some 63)
    rw [hms]
    refine ⟨p2, ms, rfl, SqL.of upd_same, ms.sum, rfl, _, rfl, L, vs, rfl, .inl (SqL.of (((Grow.new hp).to hp2) _ _ hL)), _, _, rfl, rfl, by rw [hv]; show (0 : Int) < 15; decide, ?_⟩
    rw [hv]
    generalize (if ms.sum < 0 then -ms.sum else ms.sum) = i
    have e : i % ((15 : Nat) : Int) = ((i % 15).toNat : Int) := by omega
    show Q (.int (i % ((15 : Nat) : Int))) _
    rw [e]
    exact q _ _ (by omega) ((Grow.new hp).to hp2)
  · exact q 0 _ (by decide) (.new hp)
theorem rd_values {K : PySem.W.Frag} (vs : List V) (H : Hp) (Q : VK) (E : XK) (h : spValues K vs H Q E) : tValues K { nx := fun _ H' => Q .non H', rt := Q } (start NV vs) H := by
  obtain ⟨a, ns, rfl, ha, q⟩ := h
  intro v H1 g1 s1
  cases s1 with
  | @lst L us _ hL sA =>
    have hv : us.length = 15 := sA.len
    refine rd_turn (g1.sql ha) hL hv fun t H2 ht g2 => ?_
    have hL2 := g2 _ _ hL
    have sA2 := sA.grow g2
    refine ⟨_, rfl, ⟨_, rfl, _, rfl, L, us, rfl, SqL.of hL2, fun p hp => ?_⟩⟩
    rw [cut_from us t (by omega)] at *
    refine ⟨_, rfl, ⟨_, rfl, _, rfl, L, us, rfl, SqL.of ((Grow.new hp) _ _ hL2), fun p2 hp2 => ?_⟩⟩
    rw [cut_to us t (by omega)] at *
    have hl1 : (us.drop t).length + (us.take t).length ≤ sizeLine := by
      rw [List.length_drop, List.length_take, sizeLine_eq]
      omega
    refine ⟨p, p2, _, _, rfl, rfl, (Grow.new hp2) _ _ upd_same, upd_same, hl1, fun p3 hp3 => ?_⟩
    refine ⟨_, rfl, _, _, rfl, rfl, .inl ⟨by omega, by omega⟩, _, rfl, "a", _, rfl, rfl, mul_okT ht, _, rfl, small_of (by decide : 2 ≤ 14), fun p4 hp4 => ⟨small_of (by decide : 2 ≤ 14), fun p5 hp5 => ?_⟩⟩
    refine ⟨p3, p5, _, _, rfl, rfl, (Grow.new hp4).trans (.new hp5) _ _ upd_same, upd_same, ?_, fun p6 hp6 => ?_⟩
    · rw [List.length_append, List.length_drop, List.length_take, hv]
      show _ + 2 ≤ _
      rw [sizeLine_eq]
      omega
    · generalize hG : upd (upd (upd H2 p (.lst (us.drop t))) p2 (.lst (us.take t))) p3 (.lst (us.drop t ++ us.take t)) = G at *
      have gG : Grow H2 G := by
        rw [← hG]
        exact ((Grow.new hp).to hp2).to hp3
      generalize hG5 : upd (upd G p4 (.tup [.str (Txt.mul "a" (t : Int)), .int (t : Int)])) p5 (.lst [.int ((t : Int) * 1009), .ref p4]) = G5 at *
      have g5 : Grow G G5 := by
        rw [← hG5]
        exact (Grow.new hp4).to hp5
      have e4 : G5 p4 = some (.tup [.str (Txt.mul "a" (t : Int)), .int (t : Int)]) := by
        rw [← hG5]
        exact (Grow.new hp5) _ _ upd_same
      refine q t p6 _ _ ht (((g1.trans g2).trans gG).trans (g5.to hp6)) upd_same ?_
      have gg : ∀ o, Grow H2 (upd G5 p6 o) := fun o => gG.trans (g5.to hp6)
      refine (((sA2.grow (gg _)).drop t).app ((sA2.grow (gg _)).take t)).app (.cons (.int _) (.cons (.tup ((Grow.new hp6) _ _ e4) (.cons (.str _) (.cons (.int _) .nil))) .nil))
section
variable {w : World} {K : PySem.W.Frag} {mg : Str → Option Value} {base : Heap} {f : Addr} {fd : FuncData}
theorem ok_values (F : FnP K "_law_values" sValues f fd) (c : CT K mg) : FnOk R.prog w K mg base CX0 1 f fd ["_law_script"] (spValues K) := by
  refine F.ok scValues (fun vs H Q E h => ?_) (fun cdv A outer s H vs Q E hr h => ⟨tValues K, PSs.nox ?_, rd_values vs H Q E h⟩)
  · obtain ⟨a, ns, rfl, _⟩ := h
    rfl
  · exact pss_cons (ps_set (i := 1) scValues.nd rfl (Or.inl rfl) (sh_lst (sha_cons sh_non (sha_cons sh_bl (sha_cons sh_bl (sha_cons sh_int (sha_cons sh_neg (sha_cons (sh_pow ⟨by decide, by decide, by decide⟩) (sha_cons sh_str (sha_cons sh_str (sha_cons sh_str (sha_cons (sh_tup sha_nil)
      (sha_cons (sh_tup (sha_cons sh_str (sha_cons sh_int sha_nil))) (sha_cons (sh_lst sha_nil) (sha_cons sh_dct0 (sha_cons (sh_dct1 (sh_lst (sha_cons sh_int sha_nil))) (sha_cons (sh_tup (sha_cons sh_non (sha_cons (sh_lst (sha_cons (sh_tup sha_nil) sha_nil)) sha_nil))) sha_nil)))))))))))))))))
      (pss_cons (ps_set (i := 2) scValues.nd rfl (Or.inl rfl) (pe_ifExp (pt_cmpR (op_neD hr.units) (pv 0) (pe_lst pa_nil) (nomark _))
        (pe_op op_mod (pe_callB call_abs rfl (c.fr _ (by decide)) boot_abs (pa_cons (pe_callB (cr_sum rfl) rfl (c.fr _ (by decide)) boot_sum (pa_cons (pe_slice sl_list (pv 0) po_none (po_some pe_int)) pa_nil)) pa_nil)) (pe_callB call_len_seq rfl (c.fr _ (by decide)) PySem.boot_len (pa_cons (pv 1) pa_nil))) pe_int))
      (pss_one (ps_ret (pe_op op_cat (pe_op op_cat (pe_slice sl_list (pv 1) (po_some (pv 2)) po_none) (pe_slice sl_list (pv 1) po_none (po_some (pv 2)))) (pe_lst (pa_cons (pe_op op_mul (pv 2) pe_int) (pa_cons (pe_tup (pa_cons (pe_op op_strMul pe_str (pv 2)) (pa_cons (pv 2) pa_nil))) pa_nil)))))))
end
end K96

namespace K96
open PySem PySem.Spec PyProof.Rows L2 PySem.SX Hx
/-! ### the law -/
def okD (d : PyData) : Bool := d.showable && (decide (d.shown.length ≤ 1000) && decide (d.depth ≤ 10))
theorem ok_dats : ((List.range 15).all fun t => (dats t).all okD) = true := by decide +kernel
theorem ok_dat {t : Nat} (ht : t < 15) {d : PyData} (h : d ∈ dats t) : d.showable = true ∧ d.shown.length ≤ 1000 ∧ d.depth ≤ 10 := by
  have k := List.all_eq_true.mp (List.all_eq_true.mp ok_dats t (List.mem_range.mpr ht)) d h
  unfold okD at k
  rw [Bool.and_eq_true, Bool.and_eq_true] at k
  exact ⟨k.1, of_decide_eq_true k.2.1, of_decide_eq_true k.2.2⟩
theorem rep_shown (d : PyData) : ∀ n : Nat, PyData.shownAll (List.replicate n d) = List.replicate n d.shown
  | 0 => by simp only [List.replicate_zero, PyData.shownAll]
  | n + 1 => by simp only [List.replicate_succ, PyData.shownAll, rep_shown d n]
theorem rep_showable (d : PyData) (h : d.showable = true) : ∀ n : Nat, PyData.showableAll (List.replicate n d) = true
  | 0 => by simp only [List.replicate_zero, PyData.showableAll]
  | n + 1 => by simp only [List.replicate_succ, PyData.showableAll, rep_showable d h n, h, Bool.and_self]
theorem rep_depth (d : PyData) (h : d.depth ≤ 10) : ∀ n : Nat, PyData.depthAll (List.replicate n d) ≤ 10
  | 0 => by simp only [List.replicate_zero, PyData.depthAll]; omega
  | n + 1 => by
    have := rep_depth d h n
    simp only [List.replicate_succ, PyData.depthAll]
    omega
theorem rep_ok {d : PyData} (h : d.showable = true ∧ d.shown.length ≤ 1000 ∧ d.depth ≤ 10) : (PyData.list (List.replicate 14 d)).showable = true ∧ (PyData.list (List.replicate 14 d)).shown.length ≤ sizeLine ∧ (PyData.list (List.replicate 14 d)).depth ≤ 60 := by
  refine ⟨by simp only [PyData.showable]; exact rep_showable d h.1 14, ?_, ?_⟩
  · have k := listText_len_le (PyData.shownAll (List.replicate 14 d))
    simp only [PyData.shown]
    rw [rep_shown] at k ⊢
    have e : ((List.replicate 14 d.shown).map (·.length)).sum = 14 * d.shown.length := by
      rw [List.map_replicate, List.sum_replicate_nat]
    rw [e, List.length_replicate] at k
    rw [sizeLine_eq]
    omega
  · have := rep_depth d h.2.2 14
    simp only [PyData.depth]
    omega
/-! texts -/
def tSt (ss : List Str) : TE := fun _ H Q => ∀ L H', Grow H H' → H' L = some (.lst (ss.map V.str)) → Q (.ref L) H'
section
variable {X : Cx} {a b : Expr} {pos : Pos}
theorem st1 {x : Str} {j : Nat} {p : Pos} : PE X (.List [.Constant (.str x) j p] pos) (tSt [x]) := PE.mono (pe_lst (pa_cons pe_str pa_nil)) fun _ H Q q => ⟨small_of (by decide : 1 ≤ 14), fun p hp => q p _ (.new hp) upd_same⟩
theorem st_rep {xs : List Str} {n : Int} {j : Nat} {p : Pos} (h : PE X a (tSt xs)) (hn : 0 ≤ n ∧ n ≤ 14 ∧ xs.length = 1 := by decide) : PE X (.BinOp a .Mult (.Constant (.int n) j p) pos) (tSt (List.replicate n.toNat xs).flatten) :=
  PE.mono (pe_op op_rep h pe_int) fun _ H Q q L H1 g1 h1 => ⟨L, n, _, rfl, rfl, h1, by omega, by omega, by rw [List.length_map, hn.2.2]; exact small_of (by omega), fun p hp => q p _ (g1.to hp) (by rw [upd_same, List.map_flatten, List.map_replicate])⟩
theorem st_cat {xs ys : List Str} (h : PE X a (tSt xs)) (h2 : PE X b (tSt ys)) (hn : xs.length + ys.length ≤ 19 := by decide) : PE X (.BinOp a .Add b pos) (tSt (xs ++ ys)) :=
  PE.mono (pe_op op_cat h h2) fun _ H Q q L H1 g1 h1 L2 H2 g2 h2 => ⟨L, L2, _, _, rfl, rfl, g2 _ _ h1, h2, by rw [List.length_map, List.length_map]; exact small19 hn, fun p hp => q p _ ((g1.trans g2).to hp) (by rw [upd_same, List.map_append])⟩
end
def dueL : List Str := (List.range 19).map due
def pd (n : Nat) : List Str := (List.range n).map due
theorem small_l19 {n : Nat} (h : n < 19) : n < sizeLine := by
  rw [sizeLine_eq]
  omega
theorem due_is : ((((((List.replicate (4 : Int).toNat [("v" : Str)]).flatten ++ (List.replicate (2 : Int).toNat [("k" : Str)]).flatten) ++ [("i" : Str)]) ++ (List.replicate (6 : Int).toNat [("v" : Str)]).flatten) ++ [("o" : Str)]) ++ (List.replicate (2 : Int).toNat [("v" : Str)]).flatten) ++ (List.replicate (3 : Int).toNat [("r" : Str)]).flatten = dueL := by decide +kernel
def dStr (xs : List Str) : PyData := .list (xs.map PyData.str)
def dKd (i : Nat) : PyData := .list ((List.range' 0 19).map fun j => .bool (i == j))
theorem due_ok : SeqAt.shaped (dStr dueL) = true ∧ PyData.eqv (dStr dueL) (dStr dueL) = true := by decide +kernel
theorem kd_ok {i : Nat} (h : i < 19) : SeqAt.shaped (dKd i) = true ∧ PyData.eqv (dKd i) (dKd i) = true := by
  have k : ((List.range 19).all fun i => SeqAt.shaped (dKd i) && PyData.eqv (dKd i) (dKd i)) = true := by decide +kernel
  have k2 := List.all_eq_true.mp k i (List.mem_range.mpr h)
  rw [Bool.and_eq_true] at k2
  exact k2
theorem dp_strs {K : PySem.W.Frag} {H : Hp} : ∀ xs : List Str, DpAll K H (xs.map V.str) (xs.map PyData.str)
  | [] => .nil
  | x :: xs => .cons (.str x) (dp_strs xs)
theorem dp_bools {K : PySem.W.Frag} {H : Hp} (f : Nat → Bool) : ∀ xs : List Nat, DpAll K H (xs.map fun j => V.bl (f j)) (xs.map fun j => PyData.bool (f j))
  | [] => .nil
  | x :: xs => .cons (.bl _) (dp_bools f xs)
def NL : List Str := ["_law_script", "_law_due", "_law_thing", "_law_some", "_law_spot", "_law_one", "_law_at"]
theorem scLaw : FnScope NL ["_law_script"] (defScope sLaw) := ⟨rfl, rfl, rfl, by decide +kernel, rfl, by decide +kernel, by decide +kernel⟩
def spLaw (K : PySem.W.Frag) : Sp := fun vs H Q _ => ∃ (a : Addr) (ns : List Int), vs = [.ref a] ∧ SqL K H a (ns.map V.int) ∧ ∀ H', Q (.bl true) H'
abbrev C1 (K : PySem.W.Frag) (sp : Sp) (i : Nat) : TE := tCall sp [] E0 (tCons (tVar i) tNil)
def tB3 (K : PySem.W.Frag) : TS := tIfS (tTest (tOp (rNeD K) (tCall (spKinds K) [] E0 (tCons (tOp (rIxL K) (tVar 3) (tVar 4)) tNil)) (tLc (iRng1 (tCons (tC (.int 19)) tNil)) (gName 6) tYes (tOp rEq (tVar 6) (tVar 4)) [6]))) (tRet (tC (.bl false))) tNext
def tTst (K : PySem.W.Frag) : TT := tOr (tTest (tOp rNe (tCB rRepr (tCons (C1 K (spFields K) 3) tNil)) (tCB rRepr (tCons (tOp rRep (tLst (tCons (tVar 2) tNil)) (tC (.int 14))) tNil)))) (tTest (tOp (rNeD K) (tLc (iList K (tVar 3)) (gName 5) tYes (C1 K (spPython K) 5) [5]) (tVar 1)))
def tB2 (K : PySem.W.Frag) : TS := tSeq (tIfS (tTst K) (tRet (tC (.bl false))) tNext) (tFor (iRng1 (tCons (tC (.int 19)) tNil)) (gName 4) (tB3 K))
def tB1 (K : PySem.W.Frag) : TS := tFor (iTup K (tTup (tCons (C1 K (spMade K) 2) (tCons (C1 K (spMade K) 2) tNil)))) (gName 3) (tB2 K)
def tLaw (K : PySem.W.Frag) : TS := tSeq (tAsg (tSt dueL) (gName 1)) (tSeq (tFor (iList K (C1 K (spValues K) 0)) (gName 2) (tB1 K)) (tRet (tC (.bl true))))
theorem rd_b3 {K : PySem.W.Frag} {D : Ends} {H : Hp} {c0 c1 c2 c5 c6 : Option V} {L : Addr} {es : List Addr} {x : V} {i : Nat} (hi : i < 19) (hL : H L = some (.lst (es.map V.ref))) (m : MdN K H x 0 19 es) (q : ∀ H', Grow H H' → D.nx [c0, c1, c2, some (.ref L), some (.int ((0 : Int) + i)), c5, c6] H') :
    tB3 K D [c0, c1, c2, some (.ref L), some (.int ((0 : Int) + i)), c5, c6] H := by
  have hl : i < es.length := by
    rw [m.1]
    exact hi
  have he : es[i]? = some es[i] := List.getElem?_eq_getElem hl
  have me := m.2 _ _ he
  rw [Nat.zero_add] at me
  refine ⟨_, rfl, _, rfl, L, _, _, .ref es[i], rfl, rfl, SqL.of hL, ?_, es[i], x, i, rfl, hi, me, fun Lk Hk gk hk => ?_⟩
  · rw [Int.zero_add]
    exact atI_nat (by rw [List.getElem?_map, he]; rfl)
  refine ⟨19, rfl, by decide, by decide, fun Da hD => ?_⟩
  refine lc_range (n := 19) (fun j H' => Grow Hk H' ∧ H' Da = some (.lst (kdl i 0 j))) ⟨.new hD, upd_same⟩ (fun j H' hj g => ?_) (fun H' g => ?_)
  · refine ⟨rfl, ?_⟩
    simp only [tYes, ↓reduceIte]
    refine ⟨_, rfl, _, rfl, rfl, _, g.2, by rw [kdl_len]; exact small_l19 hj, fun b o hb => ?_, ?_⟩
    · have nb : b ≠ Da := ne_of_none hb hD
      rw [upd_ne nb]
      exact g.1 b o hb
    · rw [upd_same]
      have z := kdl_app i 0 j 1
      rw [Nat.zero_add] at z
      rw [← z]
      have e : decide (V.int ((0 : Int) + (j : Int)) = V.int ((0 : Int) + (i : Int))) = (i == j) := by
        by_cases e : i = j
        · subst e
          simp
        · have ne : ¬ (V.int ((0 : Int) + (j : Int)) = V.int ((0 : Int) + (i : Int))) := fun z => by
            injection z with z
            exact e (by omega)
          rw [decide_eq_false ne]
          exact (beq_eq_false_iff_ne.mpr e).symm
      rw [e]
      rfl
  · have kk := kd_ok hi
    refine ⟨dKd i, dKd i, .lst (SqL.of (g.1 _ _ hk)) (dp_bools (fun j => i == j) _), .lst (SqL.of g.2) (dp_bools (fun j => i == j) _), kk.1, kk.1, _, rfl, ?_⟩
    rw [kk.2]
    exact q H' (gk.trans g.1)
theorem rd_tst {K : PySem.W.Frag} {H : Hp} {Q : Bool → Hp → Prop} {c0 c4 c5 c6 : Option V} {du L : Addr} {es : List Addr} {x : V} {d : PyData} (hx : Sh H x d) (hd : d.showable = true ∧ d.shown.length ≤ 1000 ∧ d.depth ≤ 10) (hdu : H du = some (.lst (dueL.map V.str))) (hL : H L = some (.lst (es.map V.ref))) (m : MdN K H x 0 19 es)
    (q : ∀ H', Grow H H' → Q false H') : tTst K [c0, some (.ref du), some x, some (.ref L), c4, c5, c6] H Q := by
  obtain ⟨r1, r2, r3⟩ := rep_ok hd
  refine ⟨_, rfl, L, es, x, rfl, hL, m, fun Lf Hf gf hf => ⟨Lf, .list (List.replicate 14 d), rfl, .lst hf (ShA.rep (hx.grow gf) 14), r1, r2, r3, ?_⟩⟩
  refine ⟨_, rfl, small_of (by decide : 1 ≤ 14), fun p hp => ⟨p, 14, _, rfl, rfl, upd_same, by decide, by decide, small_of (by decide : 14 ≤ 14), fun p2 hp2 => ?_⟩⟩
  have g2 : ∀ u, Grow H (upd (upd Hf p (.lst [x])) p2 u) := fun u => (gf.to hp).to hp2
  refine ⟨p2, .list (List.replicate 14 d), rfl, .lst upd_same ?_, r1, r2, r3, rfl, _, rfl, ?_⟩
  · have z := ShA.rep (hx.grow (g2 (.lst (List.replicate 14 x)))) 14
    exact z
  rw [decide_eq_true rfl]
  generalize hG : upd (upd Hf p (.lst [x])) p2 (.lst (List.replicate (14 : Int).toNat [x]).flatten) = G
  have gG : Grow H G := by
    rw [← hG]
    exact g2 _
  refine ⟨_, rfl, L, rfl, ⟨_, SqL.of (gG _ _ hL)⟩, fun D hD => ?_⟩
  refine lc_list (xs := es.map V.ref) (fun j H' => Grow G H' ∧ H' D = some (.lst ((pd j).map V.str))) ⟨.new hD, upd_same⟩ (fun j H' _ g => SqL.of (g.1 _ _ (gG _ _ hL))) (fun j v H' hv g => ?_) (fun H' g => ?_)
  · obtain ⟨e, he, rfl⟩ : ∃ e, es[j]? = some e ∧ v = .ref e := by
      rw [List.getElem?_map] at hv
      cases e : es[j]? with
      | none =>
        rw [e] at hv
        cases hv
      | some b =>
        rw [e] at hv
        exact ⟨b, rfl, (Option.some.inj hv).symm⟩
    have hj : j < 19 := by
      have := (List.getElem?_eq_some_iff.mp he).1
      rw [m.1] at this
      exact this
    have me := (m.2 _ _ he).grow (gG.trans g.1)
    rw [Nat.zero_add] at me
    refine ⟨rfl, ?_⟩
    simp only [tYes, ↓reduceIte]
    refine ⟨_, rfl, e, x, j, rfl, hj, me, fun H2 g2 => ⟨_, g2 _ _ g.2, ?_, fun b o hb => ?_, ?_⟩⟩
    · rw [List.length_map]
      show ((List.range j).map due).length < _
      rw [List.length_map, List.length_range]
      exact small_l19 hj
    · have nb : b ≠ D := ne_of_none hb hD
      rw [upd_ne nb]
      exact g2 _ _ (g.1 b o hb)
    · rw [upd_same]
      show _ = some (HO.lst (((List.range (j + 1)).map due).map V.str))
      rw [List.range_succ, List.map_append, List.map_append]
      rfl
  · rw [List.length_map, m.1] at g
    refine ⟨_, rfl, dStr dueL, dStr dueL, .lst (SqL.of g.2) (dp_strs _), .lst (SqL.of ((gG.trans g.1) _ _ hdu)) (dp_strs _), due_ok.1, due_ok.1, _, rfl, ?_⟩
    rw [due_ok.2]
    exact q H' (gG.trans g.1)
theorem rd_b2 {K : PySem.W.Frag} {D : Ends} {H : Hp} {c0 c4 c5 c6 : Option V} {du L : Addr} {es : List Addr} {x : V} {d : PyData} (hx : Sh H x d) (hd : d.showable = true ∧ d.shown.length ≤ 1000 ∧ d.depth ≤ 10) (hdu : H du = some (.lst (dueL.map V.str))) (hL : H L = some (.lst (es.map V.ref))) (m : MdN K H x 0 19 es)
    (q : ∀ H' c4 c5 c6, Grow H H' → D.nx [c0, some (.ref du), some x, some (.ref L), c4, c5, c6] H') : tB2 K D [c0, some (.ref du), some x, some (.ref L), c4, c5, c6] H := by
  refine rd_tst hx hd hdu hL m fun H1 g1 => ?_
  refine ⟨19, rfl, by decide, by decide, ?_⟩
  refine for_range (n := 19) (fun j σ H' => (∃ c4 c5 c6, σ = [c0, some (.ref du), some x, some (.ref L), c4, c5, c6]) ∧ Grow H H') ⟨⟨_, _, _, rfl⟩, g1⟩ (fun j σ H' hj p => ?_) (fun σ H' p => ?_)
  · obtain ⟨⟨c4, c5, c6, rfl⟩, g⟩ := p
    exact rd_b3 hj (g _ _ hL) (m.grow g) fun H2 g2 => ⟨⟨_, _, _, rfl⟩, g.trans g2⟩
  · obtain ⟨⟨c4, c5, c6, rfl⟩, g⟩ := p
    exact q H' _ _ _ g
theorem rd_b1 {K : PySem.W.Frag} {D : Ends} {H : Hp} {c0 c3 c4 c5 c6 : Option V} {du : Addr} {x : V} {d : PyData} (hx : Sh H x d) (hd : d.showable = true ∧ d.shown.length ≤ 1000 ∧ d.depth ≤ 10) (hdu : H du = some (.lst (dueL.map V.str)))
    (q : ∀ H' c3 c4 c5 c6, Grow H H' → D.nx [c0, some (.ref du), some x, c3, c4, c5, c6] H') : tB1 K D [c0, some (.ref du), some x, c3, c4, c5, c6] H := by
  refine ⟨_, rfl, x, rfl, fun L1 e1 H1 g1 h1 m1 => ⟨_, rfl, x, rfl, fun L2 e2 H2 g2 h2 m2 => ⟨small_of (by decide : 2 ≤ 14), fun p hp => ?_⟩⟩⟩
  generalize hG : upd H2 p (.tup [.ref L1, .ref L2]) = G
  have gG : Grow H2 G := by
    rw [← hG]
    exact .new hp
  have tG : G p = some (.tup [.ref L1, .ref L2]) := by
    rw [← hG]
    exact upd_same
  have g0 : Grow H G := (g1.trans g2).trans gG
  refine ⟨p, rfl, ⟨_, SqT.of tG⟩, ?_⟩
  refine for_tup (xs := [.ref L1, .ref L2]) (fun j σ H' => (∃ c3 c4 c5 c6, σ = [c0, some (.ref du), some x, c3, c4, c5, c6]) ∧ Grow G H') ⟨⟨_, _, _, _, rfl⟩, Grow.rfl'⟩ (fun j σ H' _ p => SqT.of (p.2 _ _ tG)) (fun j v σ H' hv p => ?_) (fun σ H' p => ?_)
  · obtain ⟨⟨c3, c4, c5, c6, rfl⟩, g⟩ := p
    obtain ⟨L, es, rfl, hL, m⟩ : ∃ L es, v = .ref L ∧ H' L = some (.lst (es.map V.ref)) ∧ MdN K H' x 0 19 es := by
      match j, hv with
      | 0, hv =>
        have z : V.ref L1 = v := Option.some.inj hv
        exact ⟨L1, e1, z.symm, ((g2.trans gG).trans g) _ _ h1, m1.grow ((g2.trans gG).trans g)⟩
      | 1, hv =>
        have z : V.ref L2 = v := Option.some.inj hv
        exact ⟨L2, e2, z.symm, (gG.trans g) _ _ h2, m2.grow (gG.trans g)⟩
    exact rd_b2 (hx.grow (g0.trans g)) hd ((g0.trans g) _ _ hdu) hL m fun H2 c4 c5 c6 g2 => ⟨⟨_, _, _, _, rfl⟩, g.trans g2⟩
  · obtain ⟨⟨c3, c4, c5, c6, rfl⟩, g⟩ := p
    exact q H' _ _ _ _ (g0.trans g)
theorem rd_law {K : PySem.W.Frag} (vs : List V) (H : Hp) (Q : VK) (E : XK) (h : spLaw K vs H Q E) : tLaw K { nx := fun _ H' => Q .non H', rt := Q } (start NL vs) H := by
  obtain ⟨a, ns, rfl, ha, q⟩ := h
  intro du H1 g1 hdu
  refine ⟨_, rfl, a, ns, rfl, g1.sql ha, fun t L us H2 ht g2 hL sA => ⟨L, rfl, ⟨_, SqL.of hL⟩, ?_⟩⟩
  refine for_list (xs := us) (fun j σ H' => (∃ c2 c3 c4 c5 c6, σ = [some (.ref a), some (.ref du), c2, c3, c4, c5, c6]) ∧ Grow H2 H') ⟨⟨_, _, _, _, _, rfl⟩, Grow.rfl'⟩ (fun j σ H' _ p => SqL.of (p.2 _ _ hL)) (fun j v σ H' hv p => ?_) (fun σ H' p => q H')
  obtain ⟨⟨c2, c3, c4, c5, c6, rfl⟩, g⟩ := p
  obtain ⟨d, hd, sd⟩ := sA.get j v hv
  exact rd_b1 (sd.grow g) (ok_dat ht (List.mem_of_getElem? hd)) ((g2.trans g) _ _ hdu) fun H3 c3 c4 c5 c6 g3 => ⟨⟨_, _, _, _, _, rfl⟩, g.trans g3⟩
section
variable {w : World} {K : PySem.W.Frag} {mg : Str → Option Value} {base : Heap} {f fV fM fN fF fK fP : Addr} {fd fdV fdM fdN fdF fdK fdP : FuncData}
theorem ok_law (F : FnP K "law" sLaw f fd) (c : CT K mg) (FV : FnP K "_law_values" sValues fV fdV) (FM : FnP K "_law_made" sMade fM fdM) (FN : FnP K "_law_named" sNamed fN fdN) (FF : FnP K "_law_fields" sFields fF fdF) (FK : FnP K "_law_kinds" sKinds fK fdK) (FP : FnP K "_law_python" sPython fP fdP)
    (gV : mg "_law_values" = some (.ref fV)) (gM : mg "_law_made" = some (.ref fM)) (gN : mg "_law_named" = some (.ref fN)) (gF : mg "_law_fields" = some (.ref fF)) (gK : mg "_law_kinds" = some (.ref fK)) (gP : mg "_law_python" = some (.ref fP)) : FnG R.prog w K mg base CX0 2 f fd ["_law_script"] (spLaw K) := by
  have GV := ok_values (w := w) (base := base) FV c
  have GM := ok_made (w := w) (base := base) FM c
  have GN := ok_named (w := w) (base := base) FN c
  have GF := ok_fields (w := w) (base := base) FF c
  have GK := ok_kinds (w := w) (base := base) FK c
  have GP := ok_python (w := w) (base := base) FP c
  have bV : Binds K fdV ["_law_script"] [] := FV.bindsN fun _ _ _ _ _ _ us hl => match us, hl with | [_], _ => rfl
  have bM : Binds K fdM ["_law_thing"] [] := FM.bindsN fun _ _ _ _ _ _ us hl => match us, hl with | [_], _ => rfl
  have bN : Binds K fdN ["_law_thing"] [] := FN.bindsN fun _ _ _ _ _ _ us hl => match us, hl with | [_], _ => rfl
  have bF : Binds K fdF ["_law_some"] [] := FF.bindsN fun _ _ _ _ _ _ us hl => match us, hl with | [_], _ => rfl
  have bK : Binds K fdK ["_law_thing"] [] := FK.bindsN fun _ _ _ _ _ _ us hl => match us, hl with | [_], _ => rfl
  have bP : Binds K fdP ["_law_thing"] [] := FP.bindsN fun _ _ _ _ _ _ us hl => match us, hl with | [_], _ => rfl
  refine F.okG scLaw (fun vs H Q E h => ?_) (fun cdv A outer s H vs Q E hg hr h => ⟨tLaw K, PSs.nox ?_, rd_law vs H Q E h⟩)
  · obtain ⟨a, ns, rfl, _⟩ := h
    rfl
  · have dueT : ∀ {X : Cx} {e : Expr}, PE X e (tSt ((((((List.replicate (4 : Int).toNat [("v" : Str)]).flatten ++ (List.replicate (2 : Int).toNat [("k" : Str)]).flatten) ++ [("i" : Str)]) ++ (List.replicate (6 : Int).toNat [("v" : Str)]).flatten) ++ [("o" : Str)] ++ (List.replicate (2 : Int).toNat [("v" : Str)]).flatten) ++ (List.replicate (3 : Int).toNat [("r" : Str)]).flatten)) → PE X e (tSt dueL) := fun h => by
      rw [due_is] at h
      exact h
    exact pss_cons (ps_set (i := 1) scLaw.nd rfl (Or.inl rfl) (dueT (st_cat (st_cat (st_cat (st_cat (st_cat (st_cat (st_rep st1) (st_rep st1)) st1) (st_rep st1)) st1) (st_rep st1)) (st_rep st1))))
      (pss_cons (ps_for PassesOwn.never rfl (pi_list (pe_call GV hr rfl gV FV.kp bV .nil pass0 (pa_cons (pv 0) pa_nil))) (pg_name (i := 2) scLaw.nd rfl (Or.inl rfl))
        (pss_one (ps_for PassesOwn.never rfl (pi_tup (pe_tup (pa_cons (pe_call GM hr rfl gM FM.kp bM .nil pass0 (pa_cons (pv 2) pa_nil)) (pa_cons (pe_call GN hr rfl gN FN.kp bN .nil pass0 (pa_cons (pv 2) pa_nil)) pa_nil)))) (pg_name (i := 3) scLaw.nd rfl (Or.inl rfl))
          (pss_cons (ps_if (PW.pt (pw_or (pt_cmpR op_ne (pe_callB (call_repr hg hr.units c.sm) rfl (c.fr _ (by decide)) boot_repr (pa_cons (pe_call GF hr rfl gF FF.kp bF .nil pass0 (pa_cons (pv 3) pa_nil)) pa_nil)) (pe_callB (call_repr hg hr.units c.sm) rfl (c.fr _ (by decide)) boot_repr (pa_cons (pe_op op_rep (pe_lst (pa_cons (pv 2) pa_nil)) pe_int) pa_nil)) (nomark _))
              (pw_or1 (pt_cmpR (op_neD hr.units) (pe_lc (own := [("_law_one", 5)]) (g := gName 5) (tt := tYes) rfl scLaw.nd (pi_list (pv 3)) (blkOk_by (N := NL) (sc := defScope sLaw) (by decide +kernel)) (fun _ _ _ _ _ => pg_name (i := 5) scLaw.nd rfl (Or.inl rfl)) (fun _ _ _ _ _ => pts_nil) (fun _ _ _ _ _ => pe_call GP hr rfl gP FP.kp bP .nil pass0 (pa_cons (pv 5) pa_nil))) (pv 1) (nomark _)))))
              (pss_one (ps_ret pe_bl)) pss_nil)
            (pss_one (ps_for PassesOwn.never rfl (pi_range1 rfl (c.fr _ (by decide)) (pa_cons pe_int pa_nil)) (pg_name (i := 4) scLaw.nd rfl (Or.inr rfl))
              (pss_one (ps_if (pt_cmpR (op_neD hr.units) (pe_call GK hr rfl gK FK.kp bK .nil pass0 (pa_cons (pe_ix ix_list (pv 3) (pv 4) (fun _ _ => rfl)) pa_nil)) (pe_lc (own := [("_law_at", 6)]) (g := gName 6) (tt := tYes) rfl scLaw.nd (pi_range1 rfl (c.fr _ (by decide)) (pa_cons pe_int pa_nil)) (blkOk_by (N := NL) (sc := defScope sLaw) (by decide +kernel)) (fun _ _ _ _ _ => pg_name (i := 6) scLaw.nd rfl (Or.inl rfl)) (fun _ _ _ _ _ => pts_nil) (fun _ _ _ _ _ => pe_cmpR op_eq (pv 6) (pv 4) (nomark _))) (nomark _))
                (pss_one (ps_ret pe_bl)) pss_nil))))))))
      (pss_one (ps_ret pe_bl)))
end
end K96

namespace K96
open PySem PySem.Spec PyProof.Rows L2 PySem.SX Hx
abbrev hk : PySem.W.Hook := Hx.hook 4 fs fn en
def ob (s : PySem.W.SharedT) : Hx.Al := Hx.obsG 4 fs fn (en.map Prod.fst) (HandSHeadRun.getT s)
theorem ob_eq (s : PySem.W.SharedT) : ob s = hk.obs s.abs := Hx.obsG_eq (HandSHeadRun.getT_eq s)
theorem run (w : World) : HandSHeadRun.RunEq R (PySem.W.view R.prog [27]) hk ob 40000 names w := by
  intro os
  kernel_rfl
end K96

namespace K96
open PySem PySem.Spec PyProof.Rows L2 PySem.SX Hx
theorem facts {w : World} {K : PySem.W.Frag} {h : Heap} {mg : Str → Option Value} {f : Addr} (X : K.In h) (G : h.Ns mainGlobals mg) (hfa : mg ("law" : Str) = some (.ref f)) (s : Says fs fn en K) :
    ∃ fd : FuncData, (∀ (s : Shared) (v : Value), BindsTo s fd ⟨[v], []⟩ [("_law_script", v)]) ∧ ∀ base : Heap, K.In base → base.Ns mainGlobals mg → FnG R.prog w K mg base CX0 2 f fd ["_law_script"] (spLaw K) := by
  have c := ct_of X G s
  obtain ⟨fdV, FV⟩ := s.def_ 0 (d := dValues) rfl
  obtain ⟨fdM, FM⟩ := s.def_ 1 (d := dMade) rfl
  obtain ⟨fdN, FN⟩ := s.def_ 2 (d := dNamed) rfl
  obtain ⟨fdF, FF⟩ := s.def_ 3 (d := dFields) rfl
  obtain ⟨fdK, FK⟩ := s.def_ 4 (d := dKinds) rfl
  obtain ⟨fdP, FP⟩ := s.def_ 5 (d := dPython) rfl
  obtain ⟨fd, F⟩ := s.def_ 6 (d := dLaw) rfl
  have e := hfa.symm.trans (c.gl "law" (by decide))
  cases e
  have b := FunD.bindsA (ps := ["_law_script"]) F fun _ _ _ _ _ _ us hl => match us, hl with | [_], _ => rfl
  exact ⟨fd, fun s v => b s [v] rfl, fun base _ _ => ok_law F c FV FM FN FF FK FP (c.gl _ (by decide)) (c.gl _ (by decide)) (c.gl _ (by decide)) (c.gl _ (by decide)) (c.gl _ (by decide)) (c.gl _ (by decide))⟩
end K96
open PySem PySem.W PySem.Calls PyProof.Rows
theorem PySem.Challenge.cw_lendroads_k96_errors_and_their_fields_holds : PySem.Challenge.rw_lendroads_k96_errors_and_their_fields.Holds := by
  w_on; o_law
  refine HandSHeadRun.head_any (r := OpenLaw.row PySem.Challenge.rw_lendroads_k96_errors_and_their_fields) (q := view (OpenLaw.row PySem.Challenge.rw_lendroads_k96_errors_and_their_fields).prog [27]) (H := K96.hk) (ob := K96.ob) (M := 40000) (loose := K96.names) (d := HandSHeadRun.topDef (OpenLaw.row PySem.Challenge.rw_lendroads_k96_errors_and_their_fields).prog 27) (kwd := []) K96.ob_eq
    (by kernel_rfl) (fun s => by kernel_rfl) K96.run (by kernel_rfl) (by kernel_rfl) (by kernel_rfl) (by rfl) (by first | assumption | decide +kernel) (by decide +kernel) ⟨rfl, rfl, rfl, rfl, rfl, by decide +kernel⟩ ?hw ?hc
  case hw => w_witness2
  case hc =>
    refine L2.walk_ofG (l := PySem.Challenge.rw_lendroads_k96_errors_and_their_fields) (n := 63) (k := 2) (x := "_law_script") (CX := L2.CX0) rfl (by decide) (by kernel_rfl) ⟨rfl, by decide, by decide⟩ ?F (fun _ _ _ _ z => z)
    intro w mg fa h Y G hmg0
    obtain ⟨K, KX, c⟩ := Y
    have hmg : mg ("law" : PySem.Str) = some (.ref fa) := by
      have e : (HandSHeadRun.topDef (OpenLaw.row PySem.Challenge.rw_lendroads_k96_errors_and_their_fields).prog 27).name = ("law" : PySem.Str) := by kernel_rfl
      rw [← e]
      exact hmg0
    obtain ⟨fd, hb, hF⟩ := K96.facts (w := w) KX G hmg c
    exact ⟨K, fd, K96.spLaw K, KX, hb, fun H a ns hl _ _ hS => ⟨a, ns, rfl, hS, fun _ => rfl⟩, hF⟩
