import PyProof.Rows.All
import HandS.ForMost
import HandS.ForExc
import HandS.ExcSuper
import KE.KExcSuper
import KE.KExcPX
import PySem.Challenge.RW_endslost_k02_whole_texts_cut_into_groups
import HandS.CallSlots
import HandS.Zip
import HandS.Comp
import HandS.List
import HandS.Lambda
import HandS.Text
import HandS.IsInst
import HandS.Style
import HandS.TupAny
import HandS.Wide
import HandS.Iter
import KE.GoesEnum
import HandS.WordsExc
import HandS.ExcField
import HandS.EndOwn
set_option Elab.async false
set_option linter.all false
set_option maxRecDepth 100000
set_option maxHeartbeats 4000000
namespace PySem
namespace ErX
open PySem.W PySem.Calls PyProof.Rows
/-! Errors of the package: classes over one own class over Exception, whose __init__ calls super().__init__ with a text and stores its arguments. -/
abbrev exT : List Value := [.type "Exception", .type "BaseException", .type "object"]
theorem tail_in {l : List Value} (h : excTail exT l = true) (x : String) (hx : exT.contains (.type x) = true) : l.contains (.type x) = true :=
  (excTail_contains x l h).trans hx
theorem tail_full {l : List Value} (h : excTail exT l = true) : l.isEmpty = false := by
  cases l with
  | nil => exact absurd (tail_in h "object" (by decide +kernel)) (by decide)
  | cons a r => rfl
section
open Builtin Builtin.ObjectAttr
variable {prog : Program} {w : World} {A : Around} {E : Value → Shared → Prop} {R : Result → Shared → Prop} {hp : Heap} {g : Array GenState} {d : Drawn} {t : Nat} {os : OsState}
/-- object.__setattr__ on such an error, up to the own dict -/
theorem store_walk {K : W.Frag} {name : Str} {tk : Tok} {v : Value} {x C : Addr} {ox : Obj} {od : Option Obj} {cd : ClassData}
    (X : K.In hp) (I : W.InstAt hp x ox C od) (hcd : W.clsIn K C = some cd) (hm : excTail exT cd.mro = true) (ha : W.findIn K (.ref C) name = some none)
    (hq : wpAny (model prog w) A.in1 (storeInOwnDict (.ref x) (.ref C) (.str name tk) name v false)
      (fun fin s' => match fin with | .done f => R (.ok f) s' | .again c' => c'.quiet = true ∧ codeAny (model prog w) A c' R s') (fun e s' => R (.error e) s') ⟨hp, g, d, t, os⟩) :
    codeAny (model prog w) A (.call (.builtin "object.__setattr__") ⟨[.ref x, .str name tk, v], []⟩) R ⟨hp, g, d, t, os⟩ := by
  have SO := F.store_object
  have isObj : W.Looks (model prog w) hp (isInstance (.ref x) (.type "object")) true :=
    I.type.andThen (W.looks_mroIn X (by unfold W.mroIn; rw [hcd, Option.bind_some, if_neg (by rw [tail_full hm]; decide), tail_in hm "object" (by decide +kernel)]))
  refine codeAny_call_builtin SO.slot.plain SO.entry (@W.check_slot (model prog w) _ _ ⟨hp, g, d, t, os⟩ "object.__setattr__" "object" "__setattr__" (.ref x) [.str name tk, v] [] _ SO.kind SO.split isObj (SO.args (.ref x) (.str name tk) v) ?_)
  have hmr : W.Looks (model prog w) hp (mroOf (.ref C)) cd.mro := (W.looks_clsIn X hcd).andThen .now
  have noTaker : W.Looks (model prog w) hp (storeTaker? none) none := .now
  rw [W.osa_eq, refuse_eq]
  refine wpAny_bind (wpAny_bind (I.type.at (wpAny_bind (hmr.at ?_))))
  rw [excTail_pass _ (F.store_Exception.passes _) _ hm]
  exact wpAny_pure (wpAny_bind (I.type.at (wpAny_bind ((W.looks_findIn X ha).at (wpAny_bind (noTaker.at hq))))))
/-- the first field -/
theorem store_first {K : W.Frag} {name : Str} {tk : Tok} {v : Value} {x C : Addr} {fv : Array Value} {cd : ClassData}
    (X : K.In hp) (hx : hp.get? x = some { cls := .ref C, data := .fields fv }) (hcd : W.clsIn K C = some cd) (hm : excTail exT cd.mro = true) (hh : cd.hasDict = true) (ha : W.findIn K (.ref C) name = some none)
    (hq : ∀ h' tk' dx, (∀ b o, b ≠ x → hp.get? b = some o → h'.get? b = some o) → hp.objs.size ≤ dx → dx ≠ x → h'.get? x = some { cls := .ref C, dict := some dx, data := .fields fv } →
      h'.Ns1 dx (fun y => if y = name then some v else none) → R (.ok (.ret .none)) ⟨h', g, d, tk', os⟩) :
    codeAny (model prog w) A (.call (.builtin "object.__setattr__") ⟨[.ref x, .str name tk, v], []⟩) R ⟨hp, g, d, t, os⟩ := by
  have hxs : x ≠ hp.objs.size := Nat.ne_of_lt (Heap.lt_size hx)
  refine store_walk X (od := none) ⟨hx, rfl, rfl, trivial⟩ hcd hm ha ?_
  have hcls : W.Looks (model prog w) hp (classData C) cd := W.looks_clsIn X hcd
  obtain ⟨nm, bs, mro, ns, qn, hd, sn, sb, ab, col, del⟩ := cd
  dsimp only at hh
  subst hh
  unfold storeInOwnDict ownDictForStores
  repeat (first | with_reducible refine HandSPX.store_in_new ?_ ?_ | with_reducible refine wpAny_loadPart_at hx ?_ | with_reducible refine hcls.at ?_ | wp_step)
  · exact ⟨_, #[], _, (Heap.get?_update_ne _ _ _ _ hxs.symm).trans (Heap.get?_push_at rfl rfl), rfl, fun e he => absurd he (by simp), fun _ => rfl⟩
  · intro h' tk' hn' hs
    have hx1 : (hp.push { cls := .type "dict", data := .dict #[] }).get? x = some { cls := .ref C, data := .fields fv } := Heap.get?_push_of_some _ hx
    exact hq h' tk' hp.objs.size (fun b o hb ho => (hs.2 b (Nat.ne_of_lt (Heap.lt_size ho))).trans ((Heap.get?_update_ne _ _ _ _ hb).trans (Heap.get?_push_of_some _ ho)))
      (Nat.le_refl _) hxs.symm ((hs.2 x hxs).trans (Heap.get?_update_self _ hx1 rfl)) hn'
/-- a further field -/
theorem store_more {K : W.Frag} {name : Str} {tk : Tok} {v : Value} {x C dx : Addr} {fv : Array Value} {cd : ClassData} {m0 : Str → Option Value} {nl : List Str}
    (X : K.In hp) (hx : hp.get? x = some { cls := .ref C, dict := some dx, data := .fields fv }) (hns : hp.Ns1 dx m0) (hw : Within m0 nl) (hz : nl.length ≤ 1000) (hcd : W.clsIn K C = some cd) (hm : excTail exT cd.mro = true) (hh : cd.hasDict = true)
    (ha : W.findIn K (.ref C) name = some none)
    (hq : ∀ h' tk', (∀ b o, b ≠ dx → hp.get? b = some o → h'.get? b = some o) → h'.Ns1 dx (fun y => if y = name then some v else m0 y) → R (.ok (.ret .none)) ⟨h', g, d, tk', os⟩) :
    codeAny (model prog w) A (.call (.builtin "object.__setattr__") ⟨[.ref x, .str name tk, v], []⟩) R ⟨hp, g, d, t, os⟩ := by
  obtain ⟨oD, esD, epD, hoD, hdD, _⟩ := hns.count hw
  refine store_walk X (od := some oD) ⟨hx, rfl, rfl, hoD⟩ hcd hm ha ?_
  have hcls : W.Looks (model prog w) hp (classData C) cd := W.looks_clsIn X hcd
  obtain ⟨nm, bs, mro, ns, qn, hd, sn, sb, ab, col, del⟩ := cd
  dsimp only at hh
  subst hh
  unfold storeInOwnDict ownDictForStores
  repeat (first | with_reducible refine ESX.store_in_old hns hw hz ?_ | with_reducible refine wpAny_loadPart_at hx ?_ | with_reducible refine hcls.at ?_ | wp_step)
  intro h' tk' hn' hs
  exact hq h' tk' (fun b o hb ho => (hs.2 b hb).trans ho) hn'
end
end ErX
end PySem
set_option Elab.async false
set_option linter.all false
set_option maxRecDepth 100000
set_option maxHeartbeats 4000000
namespace PySem
namespace ErX
open PySem.W PySem.Calls PyProof.Rows
/-! ### the text of such an __init__ -/
/-- self.f = f, with its places -/
structure StoreAt where
  f : Str
  q1 : Pos
  q2 : Pos
  q3 : Pos
  q4 : Pos
def StoreAt.st (z : StoreAt) : Stmt := .Assign [.Attribute (.Name "self" z.q1) z.f z.q2] (.Name z.f z.q3) z.q4
structure SuperAt where
  txt : Str
  kd : Nat
  p0 : Pos
  p1 : Pos
  p2 : Pos
  p3 : Pos
  p4 : Pos
  p5 : Pos
def SuperAt.st (z : SuperAt) : Stmt :=
  .Expr (.Call (.Attribute (.Call (.Name "super" z.p0) [] [] z.p1) "__init__" z.p2) [.Constant (.str z.txt) z.kd z.p3] [] z.p4) z.p5
def iPar (ps : List (Str × Pos)) : Arguments :=
  { posonlyargs := [], args := ps.map fun p => { arg := p.1, annotation := none, pos := p.2 }, vararg := none, kwonlyargs := [], kw_defaults := [], kwarg := none, defaults := [] }
def iBody (a : SuperAt) (zs : List StoreAt) : List Stmt := a.st :: zs.map StoreAt.st
def iScope (fs : List Str) : Scope :=
  { kind := .function, names := (("self" : Str), .local) :: (fs.map fun f => (f, NameKind.local)) ++ [(("__class__" : Str), .free), (("super" : Str), .globalImplicit)], isGenerator := false, isCoroutine := false, more := [] }
/-- what the top has written of the error class at C, its __init__ at fI, the cell of __class__ at cc, the code object of __init__ at cda -/
structure ErrT (prog : Program) (K : Frag) (C fI cc cda : Addr) (fs : List Str) : Prop where
  cls : ∃ cd bm, clsIn K C = some cd ∧ cd.mro = .ref C :: bm ∧ excTail exT bm = true ∧ cd.hasDict = true ∧ alongIn K "__init__" bm = some (some (.builtin "Exception.__init__"))
  obj : ∃ nm q N bs bm hdct sn sub ab col dd k0 k1 k2 k3 k5, K.lookup C = some (excClassObj nm q C N bs bm hdct sn sub ab col dd k0 k1 k2 k3 k5 "Exception.__new__") ∧ excTail exT bm = true
  sa : findIn K (.ref C) "__setattr__" = some (some (.builtin "object.__setattr__"))
  iC : findIn K (.ref C) "__init__" = some (some (.ref fI))
  tI : typeIn K (.ref fI) = some (.type "function")
  opq : nsIn K cStatics "thirdparty.any" = some none
  noF : ∀ f ∈ fs, findIn K (.ref C) f = some none
  subE : subIn K (.ref C) (.type "Exception") = some true
  subB : subIn K (.ref C) (.type "BaseException") = some true
  tyC : typeIn K (.ref C) = some (.type "type")
  self : mroIn K C (.ref C) = some true
  code : ∃ ccl cdd vs ccs file tf, K.lookup cda = some (⟨ccl, cdd, .fields vs, ccs⟩ : Obj) ∧ vs[2]? = some (.str file tf) ∧ ((prog.main.file : Str) == file) = true
  cell : ∃ cl cld csl, K.lookup cc = some (⟨cl, cld, .cell (some (.ref C)), csl⟩ : Obj)
  fn : ∃ (oc : Value) (od : Option Addr) (qual : Str) (ps : List (Str × Pos)) (a : SuperAt) (zs : List StoreAt) (doc pm : Value) (an : Option Addr) (ct : Value) (osl : Array (Option Value)),
    K.lookup fI = some ⟨oc, od, .func (fnX "__init__" qual (iPar ps) (iBody a zs) (iScope fs) [("__class__", cc)] .none .none doc pm an (.ref cda) ct), osl⟩ ∧ codeIn K (.ref cda) qual = true ∧
      ps.map (·.1) = ("self" : Str) :: fs ∧ zs.map (·.f) = fs ∧ (a.p2.endLine == a.p4.line) = true ∧
      ∀ vs : List Value, vs.length = fs.length + 1 → bindArgs (fnX "__init__" qual (iPar ps) (iBody a zs) (iScope fs) [("__class__", cc)] .none .none doc pm an (.ref cda) ct) ⟨vs, []⟩ = pure ((("self" : Str) :: fs).zip vs)
  noS : (prog.main.scope.names.lookup ("super" : Str)).isSome = false
section
variable {prog : Program} {w : World} {A : Around} {E : Value → Shared → Prop} {R : Result → Shared → Prop} {s : Shared} {K : Frag} {mg mb : Str → Option Value} {C fI cc cda : Addr} {fs : List Str}
abbrev iEnv (qual : Str) (fs : List Str) (L fI cda cc : Addr) : Env := ksEnv qual (iScope fs) L fI (.ref cda) cc
theorem kind_super (qual : Str) (L : Addr) (h : ("super" : Str) ∉ fs) : (iEnv qual fs L fI cda cc).kindOf "super" = some .globalImplicit := by
  show (iScope fs).names.lookup ("super" : Str) = _
  unfold iScope
  rw [List.cons_append, List.lookup_cons]
  have e : (("super" : Str) == ("self" : Str)) = false := by decide
  rw [e]
  induction fs with
  | nil => rfl
  | cons a r ih =>
    have h2 : (("super" : Str) == a) = false := by
      simp only [List.mem_cons, not_or] at h
      simpa using h.1
    simp only [List.map_cons, List.cons_append, List.lookup_cons, h2]
    exact ih fun z => h (List.mem_cons_of_mem _ z)
theorem kind_class (qual : Str) (L : Addr) (h : ("__class__" : Str) ∉ fs) : (iEnv qual fs L fI cda cc).kindOf "__class__" = some .free := by
  show (iScope fs).names.lookup ("__class__" : Str) = _
  unfold iScope
  rw [List.cons_append, List.lookup_cons]
  have e : (("__class__" : Str) == ("self" : Str)) = false := by decide
  rw [e]
  induction fs with
  | nil => rfl
  | cons a r ih =>
    have h2 : (("__class__" : Str) == a) = false := by
      simp only [List.mem_cons, not_or] at h
      simpa using h.1
    simp only [List.map_cons, List.cons_append, List.lookup_cons, h2]
    exact ih fun z => h (List.mem_cons_of_mem _ z)
theorem call_line {o : Expr} {name : Str} {apos pos : Pos} {env : Env} {ov : Value} {n : Nat} {args : List (Bool × Sem Value)} (h : (apos.endLine == pos.line) = true) (hf : methodCallForm n args [] = true) :
    methodCall o name apos pos env ov n args [] = (do
      let (f, first) ← holding [ov] (getMethod ov name (do return (← importBound o env).getD true))
      callWith pos f first args []) := by
  unfold methodCall calleeOf methodCallPos
  simp only [hf, h, Bool.not_true, Bool.false_or, if_true, pure_bind]
theorem call_said {o : Expr} {name : Str} {apos pos : Pos} {env : Env} {e : Expr} (h : (apos.endLine == pos.line) = true) (hf : methodCallForm 1 (backTo pos (starEach [e] env)) [] = true) :
    eval (.Call (.Attribute o name apos) [e] [] pos) env = (do
      let ov ← attributeBase o name env (eval o env)
      standAt apos.atName
      let (f, first) ← holding [ov] (getMethod ov name (do return (← importBound o env).getD true))
      callWith pos f first (backTo pos (starEach [e] env)) []) := by
  show (do
    let ov ← attributeBase o name env (eval o env)
    standAt apos.atName
    methodCall o name apos pos env ov 1 (backTo pos (starEach [e] env)) []) = _
  simp only [call_line h hf]
/-- super().__init__(text), said of a fresh error at x -/
theorem super_said (T : ErrT prog K C fI cc cda fs) {qual : Str} {a : SuperAt} {body : List Stmt} {L x t0 : Addr} {m : Str → Option Value} {Q : Flow → Shared → Prop}
    (X : K.In s.heap) (G : s.heap.Ns mainGlobals mg) (hms : mg "super" = none) (B : s.heap.Ns builtinsNs mb) (hmb : mb "super" = some (.type "super"))
    (hns : s.heap.Ns L m) (hself : m "self" = some (.ref x)) (hx : s.heap.get? x = some (HandSPX.excO C t0)) (hnx : K.lookup x = none) (hln : (a.p2.endLine == a.p4.line) = true) (h1 : ("super" : Str) ∉ fs) (h2 : ("__class__" : Str) ∉ fs)
    (hpar : ∃ (oc : Value) (od : Option Addr) (fd : FuncData) (osl : Array (Option Value)) (ar : Arg), K.lookup fI = some ⟨oc, od, .func fd, osl⟩ ∧ (fd.params.posonlyargs ++ fd.params.args).head? = some ar ∧ ar.arg = "self")
    (hq : ∀ h' tk t1, (∀ b o, b ≠ x → s.heap.get? b = some o → h'.get? b = some o) → h'.get? x = some (HandSPX.excO C t1) → Q .next { s with heap := h', toks := tk }) :
    _root_.PySem.wpAt (model prog w) A (.func body (iEnv qual fs L fI cda cc)) (exec a.st (iEnv qual fs L fI cda cc)) Q E s := by
  obtain ⟨oc, od, fd, osl, ar, hfn, hhd, har⟩ := hpar
  obtain ⟨ccl, cdd, vs, ccs, file, tf, hcode, hvs, hfile⟩ := T.code
  obtain ⟨cl, cld, csl, hcell⟩ := T.cell
  obtain ⟨cd, bm, hcd, hmro, hbm, hdict, halong⟩ := T.cls
  obtain ⟨nm, q, N, bs, bm', hdct, sn, sub, ab, col, dd, k0, k1, k2, k3, k5, hobj, hbm'⟩ := T.obj
  have ne : x ≠ C := fun z => by rw [z, hobj] at hnx; cases hnx
  have hC := X _ _ hobj
  obtain ⟨hh, g, d, t, os⟩ := s
  have hDt : (excClassObj nm q C N bs bm' hdct sn sub ab col dd k0 k1 k2 k3 k5 "Exception.__new__").data = .cls cd := by
    unfold clsIn at hcd
    rw [hobj] at hcd
    exact congrArg Data.cls (Option.some.inj hcd)
  unfold SuperAt.st
  refine ks_wpAt_Expr_any (ks_wpAt_MethodCall (pl := (do return (← importBound (.Call (.Name "super" a.p0) [] [] a.p1) (iEnv qual fs L fI cda cc)).getD true)) ?_ (call_said hln rfl))
  refine ks_wpAt_super_base (kind_super qual L h1) (kind_class qual L h2) (by decide) rfl (X _ _ hfn) rfl hhd rfl (X _ _ hcode) rfl hvs hfile T.noS ?_
  refine ks_loadName_global rfl (kind_super qual L h1) (loadGlobal_builtin (env := iEnv qual fs L fI cda cc) G hms B hmb ⟨rfl, ?_⟩)
  refine wpAny_loadName_free rfl (kind_class qual L h2) rfl ⟨_, X _ _ hcell, rfl⟩ ?_
  rw [har]
  refine wpAny_loadName_local rfl rfl hns hself ?_
  refine ks_wpAny_isType_cls hC hDt ⟨rfl, ?_⟩
  refine ks_wpAny_call_super hC hDt hx rfl (fun c e => by cases e) (looks_mroIn X T.self) (fun h' hso k => ?_)
  have X1 : K.In h' := X.keeps k
  have hx1 := k _ _ hx
  have isE : W.Looks (model prog w) h' (isInstance (.ref x) (.type "Exception")) true :=
    InstAt.type (od := none) ⟨hx1, rfl, rfl, trivial⟩ |>.andThen (looks_subIn X1 T.subE)
  refine ESX.getMethod_super hso (looks_opaque X1 T.opq) (l₀ := cd.mro) ((looks_clsIn X1 hcd).andThen .now) (l := bm) (by rw [hmro]; exact ESX.drop_own C bm) X1 halong ne (by decide) isE ?_
  have k2' : ∀ b o, hh.get? b = some o → (h'.push (ESX.bw x)).get? b = some o := fun b o e => Heap.get?_push_of_some _ (k _ _ e)
  refine ESX.callWith_bound (x := x) (u := h'.objs.size) ?_ (by rfl) (by rfl)
  refine Calls.spliced_cons (Calls.Constant_str (k := a.kd) (pos := a.p3) (Calls.spliced_nil ⟨Heap.get?_push_size _ rfl, ?_⟩))
  refine ESX.call_bw (k2' _ _ hC) (k2' _ _ hx) (Heap.get?_push_size _ rfl) (by show (1 : Nat) ≤ sizeLine; decide) (fun h2 t1 k3 hx2 => ?_)
  exact hq h2 _ t1 (fun b o hb e => k3 b o hb (k2' b o e)) hx2
/-- what stands behind a made error: all else as it was, its own dict new -/
structure ErrMade (h h' : Heap) (e C : Addr) (dx : Option Addr) (mA : Str → Option Value) : Prop where
  keep : ∀ b o, h.get? b = some o → h'.get? b = some o
  new : h.objs.size ≤ e
  obj : ∃ oe vs, h'.get? e = some oe ∧ oe.cls = .ref C ∧ oe.dict = dx ∧ oe.data = .fields vs ∧ vs[1]? = some .none
  dict : ∀ d, dx = some d → h.objs.size ≤ d ∧ d ≠ e ∧ h'.Ns1 d mA
theorem exec_store {env : Env} {z : StoreAt} {v : Value} {x : Addr} {L : Addr} {m : Str → Option Value} {Q : Flow → Shared → Prop} (hn : s.heap.Ns L m) (hL : env.locals = L) (hk : env.scope.kind = .function) (ks : env.kindOf "self" = some .local) (kf : env.kindOf z.f = some .local)
    (ms : m "self" = some (.ref x)) (mf : m z.f = some v) (hdb : (z.f == ("__debug__" : Str)) = false) (h : wpAny (model prog w) A (setAttr (.ref x) z.f v) (fun _ => Q .next) E s) : wpAny (model prog w) A (exec z.st env) Q E s := by
  unfold StoreAt.st
  subst hL
  refine plainObj_wpAny_Assign_Attribute ?_
  refine wpAny_Name (wpAny_loadName_local hk kf hn mf ?_) hdb
  exact wpAny_Name (wpAny_loadName_local hk ks hn ms h) (by decide)
/-- the class is called with one argument -/
theorem err_made1 {f : Str} (T : ErrT prog K C fI cc cda [f]) {v : Value} (X : K.In s.heap) (hlim : s.heap.NoLimit) (G : s.heap.Ns mainGlobals mg) (hms : mg "super" = none) (B : s.heap.Ns builtinsNs mb) (hmb : mb "super" = some (.type "super"))
    (hroom : A.depth + 1 < recursionLimit)
    (hf1 : f ≠ "super") (hf2 : f ≠ "__class__") (hf3 : f ≠ "self") (hf4 : (f == ("__debug__" : Str)) = false)
    (hq : ∀ h' tk e d, ErrMade s.heap h' e C (some d) (fun y => if y = f then some v else none) → R (.ok (.ret (.ref e))) { s with heap := h', toks := tk }) :
    codeAny (model prog w) A (.call (.ref C) ⟨[v], []⟩) R s := by
  obtain ⟨nm, q, N, bs, bm', hdct, sn, sub, ab, col, dd, k0, k1, k2, k3, k5, hobj, hbm'⟩ := T.obj
  obtain ⟨oc, od, qual, ps, a, zs, doc, pm, an, ct, osl, hfn, hcdI, hps, hzs, hln, hbind⟩ := T.fn
  obtain ⟨cd, bm, hcd, hmro, hbm, hdict, halong⟩ := T.cls
  obtain ⟨p1, p2, rfl, e1, e2⟩ : ∃ p1 p2, ps = [p1, p2] ∧ p1.1 = "self" ∧ p2.1 = f := by
    rcases ps with _ | ⟨p1, _ | ⟨p2, _ | ⟨p3, r⟩⟩⟩ <;> simp only [List.map_nil, List.map_cons, List.cons.injEq, List.cons_ne_nil, List.nil_eq, reduceCtorEq, and_false, and_true, false_and] at hps
    exact ⟨p1, p2, rfl, hps.1, hps.2⟩
  obtain ⟨z, rfl, ez⟩ : ∃ z, zs = [z] ∧ z.f = f := by
    rcases zs with _ | ⟨z, _ | ⟨z2, r⟩⟩ <;> simp only [List.map_nil, List.map_cons, List.cons.injEq, reduceCtorEq, and_false, and_true, false_and] at hzs
    exact ⟨z, rfl, hzs⟩
  have look_f : (iScope [f]).names.lookup f = some .local := by
    unfold iScope
    have e : (f == ("self" : Str)) = false := by simpa using hf3
    simp only [List.cons_append, List.map_cons, List.map_nil, List.nil_append, List.lookup_cons, e, beq_self_eq_true]
  obtain ⟨hp, g, dr, tk, os⟩ := s
  have k : ∀ b o, hp.get? b = some o → ((hp.push (kdv_tup [v])).push (HandSPX.excO C hp.objs.size)).get? b = some o := fun b o e => Heap.get?_push_of_some _ (Heap.get?_push_of_some _ e)
  have hget : ((hp.push (kdv_tup [v])).push (HandSPX.excO C hp.objs.size)).get? (hp.objs.size + 1) = some (HandSPX.excO C hp.objs.size) := by heap_get
  have hnx : K.lookup (hp.objs.size + 1) = none := by
    cases e : K.lookup (hp.objs.size + 1) with
    | none => rfl
    | some o => exact absurd (Nat.lt_of_succ_lt (Heap.lt_size (X _ _ e))) (Nat.lt_irrefl _)
  refine HandSPX.call_own F.excBase_Exception (fun x => excTail_contains x bm' hbm') (X _ _ hobj) (looks_findIn X T.iC) (fun self => bind_fn X self T.tI) (by show (1 : Nat) ≤ sizeLine; decide) ?_
  have X1 := X.keeps k
  refine ks_codeAny_call_defAt (fd := fnX "__init__" qual (iPar [p1, p2]) (iBody a [z]) (iScope [f]) [("__class__", cc)] .none .none doc pm an (.ref cda) ct) (body := iBody a [z]) (binds := [("self", .ref (hp.objs.size + 1)), (f, v)]) ?_ (X1 _ _ hfn) rfl (hlim.keeps k) (codeRec_of X1 hcdI) rfl ?_ ?_ ?_ (fun h1 hns hk1 => ?_) rfl rfl rfl
  · show A.depth + 1 < recursionLimit
    exact hroom
  · exact .of_eq (hbind [.ref (hp.objs.size + 1), v] rfl)
  · intro y hy
    have hy' : y ∈ (("self" : Str), NameKind.local) :: (f, NameKind.local) :: (("__class__" : Str), NameKind.free) :: [(("super" : Str), NameKind.globalImplicit)] := hy
    simp only [List.mem_cons, List.not_mem_nil, or_false] at hy'
    rcases hy' with rfl | rfl | rfl | rfl <;> exact fun z => NameKind.noConfusion z
  · intro y hy
    simp only [List.mem_cons, List.not_mem_nil, or_false] at hy
    rcases hy with rfl | rfl
    · rfl
    · exact look_f
  · have he1 : hp.objs.size + 1 < ((hp.push (kdv_tup [v])).push (HandSPX.excO C hp.objs.size)).objs.size := Heap.lt_size hget
    have hL : ((hp.push (kdv_tup [v])).push (HandSPX.excO C hp.objs.size)).objs.size ≠ hp.objs.size + 1 := Nat.ne_of_gt he1
    have X2 : K.In h1 := X1.keeps hk1
    have hx1 := hk1 _ _ hget
    have ms : (fun x => ([("self", Value.ref (hp.objs.size + 1)), (f, v)] : List (Str × Value)).reverse.lookup x) ("self" : Str) = some (.ref (hp.objs.size + 1)) := by
      show ([(f, v), (("self" : Str), Value.ref (hp.objs.size + 1))] : List (Str × Value)).lookup ("self" : Str) = _
      have e : (("self" : Str) == f) = false := by simpa using fun z => hf3 z.symm
      simp only [List.lookup_cons, e]
      rfl
    have mf : (fun x => ([("self", Value.ref (hp.objs.size + 1)), (f, v)] : List (Str × Value)).reverse.lookup x) f = some v := by
      show ([(f, v), (("self" : Str), Value.ref (hp.objs.size + 1))] : List (Str × Value)).lookup f = _
      simp [List.lookup_cons]
    refine ks_wpAt_execs_cons ?_
    refine super_said (s := ⟨h1, g, dr, _, os⟩) T X2 ((G.keeps k).keeps hk1) hms ((B.keeps k).keeps hk1) hmb hns ms hx1 hnx hln (by simpa using fun z => hf1 z.symm) (by simpa using fun z => hf2 z.symm) ⟨_, _, _, _, _, hfn, rfl, e1⟩ (fun h2 tk2 t1 k2 hx2 => ?_)
    refine wpAt_of_wpAny (wpAny_execs_cons ?_)
    have X3 : K.In h2 := fun b o e => k2 b o (fun z => by rw [z, hnx] at e; cases e) (X2 b o e)
    have hns2 : h2.Ns ((hp.push (kdv_tup [v])).push (HandSPX.excO C hp.objs.size)).objs.size (fun x => ([("self", Value.ref (hp.objs.size + 1)), (f, v)] : List (Str × Value)).reverse.lookup x) := by
      obtain ⟨o, es, ep, ho, r⟩ := hns
      exact ⟨o, es, ep, k2 _ _ hL ho, r⟩
    subst ez
    refine exec_store (s := ⟨h2, g, dr, tk2, os⟩) hns2 rfl rfl rfl look_f ms mf hf4 ?_
    refine set_plain (s := ⟨h2, g, dr, tk2, os⟩) (od := none) X3 ⟨hx2, rfl, rfl, trivial⟩ T.sa ?_
    refine store_first X3 hx2 hcd (by rw [hmro]; exact hbm) hdict (T.noF _ (List.mem_cons_self ..)) (fun h3 tk3 dx k3 dn dne hx3 hn3 => ?_)
    refine wpAny_execs_nil ?_
    have old : ∀ b o, hp.get? b = some o → h3.get? b = some o := fun b o e => by
      have nb : b ≠ hp.objs.size + 1 := Nat.ne_of_lt (Nat.lt_succ_of_lt (Heap.lt_size e))
      exact k3 b o nb (k2 b o nb (hk1 b o (k b o e)))
    refine ⟨rfl, hq h3 tk3 (hp.objs.size + 1) dx ⟨old, Nat.le_succ _, ⟨_, _, hx3, rfl, rfl, rfl, rfl⟩, fun d2 e => ?_⟩⟩
    cases e
    refine ⟨?_, dne, hn3⟩
    have z1 : h2.objs.size ≤ dx := dn
    have z2 : hp.objs.size < h2.objs.size := Nat.lt_of_succ_lt (Heap.lt_size hx2)
    exact Nat.le_of_lt (Nat.lt_of_lt_of_le z2 z1)
/-- the class is called with two arguments -/
theorem err_made2 {f f2 : Str} (T : ErrT prog K C fI cc cda [f, f2]) {v v2 : Value} (X : K.In s.heap) (hlim : s.heap.NoLimit) (G : s.heap.Ns mainGlobals mg) (hms : mg "super" = none) (B : s.heap.Ns builtinsNs mb) (hmb : mb "super" = some (.type "super"))
    (hroom : A.depth + 1 < recursionLimit)
    (hf1 : f ≠ "super") (hf2 : f ≠ "__class__") (hf3 : f ≠ "self") (hf4 : (f == ("__debug__" : Str)) = false)
    (hg1 : f2 ≠ "super") (hg2 : f2 ≠ "__class__") (hg3 : f2 ≠ "self") (hg4 : (f2 == ("__debug__" : Str)) = false) (hne : f2 ≠ f)
    (hq : ∀ h' tk e d, ErrMade s.heap h' e C (some d) (fun y => if y = f2 then some v2 else if y = f then some v else none) → R (.ok (.ret (.ref e))) { s with heap := h', toks := tk }) :
    codeAny (model prog w) A (.call (.ref C) ⟨[v, v2], []⟩) R s := by
  obtain ⟨nm, q, N, bs, bm', hdct, sn, sub, ab, col, dd, k0, k1, k2, k3, k5, hobj, hbm'⟩ := T.obj
  obtain ⟨oc, od, qual, ps, a, zs, doc, pm, an, ct, osl, hfn, hcdI, hps, hzs, hln, hbind⟩ := T.fn
  obtain ⟨cd, bm, hcd, hmro, hbm, hdict, halong⟩ := T.cls
  obtain ⟨p1, p2, p3, rfl, e1, e2, e3⟩ : ∃ p1 p2 p3, ps = [p1, p2, p3] ∧ p1.1 = "self" ∧ p2.1 = f ∧ p3.1 = f2 := by
    rcases ps with _ | ⟨p1, _ | ⟨p2, _ | ⟨p3, _ | ⟨p4, r⟩⟩⟩⟩ <;> simp only [List.map_nil, List.map_cons, List.cons.injEq, List.cons_ne_nil, List.nil_eq, reduceCtorEq, and_false, and_true, false_and] at hps
    exact ⟨p1, p2, p3, rfl, hps.1, hps.2.1, hps.2.2⟩
  obtain ⟨z, z2, rfl, ez, ez2⟩ : ∃ z z2, zs = [z, z2] ∧ z.f = f ∧ z2.f = f2 := by
    rcases zs with _ | ⟨z, _ | ⟨z2, _ | ⟨z3, r⟩⟩⟩ <;> simp only [List.map_nil, List.map_cons, List.cons.injEq, reduceCtorEq, and_false, and_true, false_and] at hzs
    exact ⟨z, z2, rfl, hzs.1, hzs.2⟩
  have look_f : (iScope [f, f2]).names.lookup f = some .local := by
    unfold iScope
    have e : (f == ("self" : Str)) = false := by simpa using hf3
    simp only [List.cons_append, List.map_cons, List.map_nil, List.nil_append, List.lookup_cons, e, beq_self_eq_true]
  have look_f2 : (iScope [f, f2]).names.lookup f2 = some .local := by
    unfold iScope
    have e : (f2 == ("self" : Str)) = false := by simpa using hg3
    have e2 : (f2 == f) = false := by simpa using hne
    simp only [List.cons_append, List.map_cons, List.map_nil, List.nil_append, List.lookup_cons, e, e2, beq_self_eq_true]
  obtain ⟨hp, g, dr, tk, os⟩ := s
  have k : ∀ b o, hp.get? b = some o → ((hp.push (kdv_tup [v, v2])).push (HandSPX.excO C hp.objs.size)).get? b = some o := fun b o e => Heap.get?_push_of_some _ (Heap.get?_push_of_some _ e)
  have hget : ((hp.push (kdv_tup [v, v2])).push (HandSPX.excO C hp.objs.size)).get? (hp.objs.size + 1) = some (HandSPX.excO C hp.objs.size) := by heap_get
  have hnx : K.lookup (hp.objs.size + 1) = none := by
    cases e : K.lookup (hp.objs.size + 1) with
    | none => rfl
    | some o => exact absurd (Nat.lt_of_succ_lt (Heap.lt_size (X _ _ e))) (Nat.lt_irrefl _)
  refine HandSPX.call_own F.excBase_Exception (fun x => excTail_contains x bm' hbm') (X _ _ hobj) (looks_findIn X T.iC) (fun self => bind_fn X self T.tI) (by show (2 : Nat) ≤ sizeLine; decide) ?_
  have X1 := X.keeps k
  refine ks_codeAny_call_defAt (fd := fnX "__init__" qual (iPar [p1, p2, p3]) (iBody a [z, z2]) (iScope [f, f2]) [("__class__", cc)] .none .none doc pm an (.ref cda) ct) (body := iBody a [z, z2]) (binds := [("self", .ref (hp.objs.size + 1)), (f, v), (f2, v2)]) ?_ (X1 _ _ hfn) rfl (hlim.keeps k) (codeRec_of X1 hcdI) rfl ?_ ?_ ?_ (fun h1 hns hk1 => ?_) rfl rfl rfl
  · show A.depth + 1 < recursionLimit
    exact hroom
  · exact .of_eq (hbind [.ref (hp.objs.size + 1), v, v2] rfl)
  · intro y hy
    have hy' : y ∈ (("self" : Str), NameKind.local) :: (f, NameKind.local) :: (f2, NameKind.local) :: (("__class__" : Str), NameKind.free) :: [(("super" : Str), NameKind.globalImplicit)] := hy
    simp only [List.mem_cons, List.not_mem_nil, or_false] at hy'
    rcases hy' with rfl | rfl | rfl | rfl | rfl <;> exact fun z => NameKind.noConfusion z
  · intro y hy
    simp only [List.mem_cons, List.not_mem_nil, or_false] at hy
    rcases hy with rfl | rfl | rfl
    · rfl
    · exact look_f
    · exact look_f2
  · have he1 : hp.objs.size + 1 < ((hp.push (kdv_tup [v, v2])).push (HandSPX.excO C hp.objs.size)).objs.size := Heap.lt_size hget
    have hL : ((hp.push (kdv_tup [v, v2])).push (HandSPX.excO C hp.objs.size)).objs.size ≠ hp.objs.size + 1 := Nat.ne_of_gt he1
    have X2 : K.In h1 := X1.keeps hk1
    have hx1 := hk1 _ _ hget
    have ms : (fun x => ([("self", Value.ref (hp.objs.size + 1)), (f, v), (f2, v2)] : List (Str × Value)).reverse.lookup x) ("self" : Str) = some (.ref (hp.objs.size + 1)) := by
      show ([(f2, v2), (f, v), (("self" : Str), Value.ref (hp.objs.size + 1))] : List (Str × Value)).lookup ("self" : Str) = _
      have e : (("self" : Str) == f) = false := by simpa using fun z => hf3 z.symm
      have e2 : (("self" : Str) == f2) = false := by simpa using fun z => hg3 z.symm
      simp only [List.lookup_cons, e, e2]
      rfl
    have hneb : (f == f2) = false := by simpa using fun z => hne z.symm
    have mf : (fun x => ([("self", Value.ref (hp.objs.size + 1)), (f, v), (f2, v2)] : List (Str × Value)).reverse.lookup x) f = some v := by
      show ([(f2, v2), (f, v), (("self" : Str), Value.ref (hp.objs.size + 1))] : List (Str × Value)).lookup f = _
      simp [List.lookup_cons, hneb]
    have mf2 : (fun x => ([("self", Value.ref (hp.objs.size + 1)), (f, v), (f2, v2)] : List (Str × Value)).reverse.lookup x) f2 = some v2 := by
      show ([(f2, v2), (f, v), (("self" : Str), Value.ref (hp.objs.size + 1))] : List (Str × Value)).lookup f2 = _
      simp [List.lookup_cons]
    refine ks_wpAt_execs_cons ?_
    refine super_said (s := ⟨h1, g, dr, _, os⟩) T X2 ((G.keeps k).keeps hk1) hms ((B.keeps k).keeps hk1) hmb hns ms hx1 hnx hln (by simpa using ⟨fun z => hf1 z.symm, fun z => hg1 z.symm⟩) (by simpa using ⟨fun z => hf2 z.symm, fun z => hg2 z.symm⟩) ⟨_, _, _, _, _, hfn, rfl, e1⟩ (fun h2 tk2 t1 k2 hx2 => ?_)
    refine wpAt_of_wpAny (wpAny_execs_cons ?_)
    have X3 : K.In h2 := fun b o e => k2 b o (fun z => by rw [z, hnx] at e; cases e) (X2 b o e)
    have hns2 : h2.Ns ((hp.push (kdv_tup [v, v2])).push (HandSPX.excO C hp.objs.size)).objs.size (fun x => ([("self", Value.ref (hp.objs.size + 1)), (f, v), (f2, v2)] : List (Str × Value)).reverse.lookup x) := by
      obtain ⟨o, es, ep, ho, r⟩ := hns
      exact ⟨o, es, ep, k2 _ _ hL ho, r⟩
    subst ez ez2
    refine exec_store (s := ⟨h2, g, dr, tk2, os⟩) hns2 rfl rfl rfl look_f ms mf hf4 ?_
    refine set_plain (s := ⟨h2, g, dr, tk2, os⟩) (od := none) X3 ⟨hx2, rfl, rfl, trivial⟩ T.sa ?_
    refine store_first X3 hx2 hcd (by rw [hmro]; exact hbm) hdict (T.noF _ (List.mem_cons_self ..)) (fun h3 tk3 dx k3 dn dne hx3 hn3 => ?_)
    refine wpAny_execs_cons ?_
    have X4 : K.In h3 := fun b o e => k3 b o (fun z => by rw [z, hnx] at e; cases e) (X3 b o e)
    have hns3 : h3.Ns ((hp.push (kdv_tup [v, v2])).push (HandSPX.excO C hp.objs.size)).objs.size (fun x => ([("self", Value.ref (hp.objs.size + 1)), (z.f, v), (z2.f, v2)] : List (Str × Value)).reverse.lookup x) := by
      obtain ⟨o, es, ep, ho, r⟩ := hns2
      exact ⟨o, es, ep, k3 _ _ hL ho, r⟩
    refine exec_store (s := ⟨h3, g, dr, tk3, os⟩) hns3 rfl rfl rfl look_f2 ms mf2 hg4 ?_
    obtain ⟨oD, hoD⟩ : ∃ oD, h3.get? dx = some oD := by
      obtain ⟨o, _, _, ho, _⟩ := hn3
      exact ⟨o, ho⟩
    refine set_plain (s := ⟨h3, g, dr, tk3, os⟩) (od := some oD) X4 ⟨hx3, rfl, rfl, hoD⟩ T.sa ?_
    refine store_more X4 hx3 hn3 (nl := [z.f]) (fun y hy => ?_) (by show (1 : Nat) ≤ 1000; decide) hcd (by rw [hmro]; exact hbm) hdict (T.noF _ (List.mem_cons_of_mem _ (List.mem_cons_self ..))) (fun h4 tk4 k4 hn4 => ?_)
    · by_cases q : y = z.f
      · rw [q]; exact List.mem_cons_self ..
      · rw [if_neg q] at hy; exact absurd rfl hy
    refine wpAny_execs_nil ?_
    have old : ∀ b o, hp.get? b = some o → h4.get? b = some o := fun b o e => by
      have nb : b ≠ hp.objs.size + 1 := Nat.ne_of_lt (Nat.lt_succ_of_lt (Heap.lt_size e))
      have z1 : h2.objs.size ≤ dx := dn
      have z2 : hp.objs.size < h2.objs.size := Nat.lt_of_succ_lt (Heap.lt_size hx2)
      exact k4 b o (Nat.ne_of_lt (Nat.lt_of_lt_of_le (Nat.lt_trans (Heap.lt_size e) z2) z1)) (k3 b o nb (k2 b o nb (hk1 b o (k b o e))))
    refine ⟨rfl, hq h4 tk4 (hp.objs.size + 1) dx ⟨old, Nat.le_succ _, ⟨_, _, k4 _ _ dne.symm hx3, rfl, rfl, rfl, rfl⟩, fun d2 e => ?_⟩⟩
    cases e
    refine ⟨?_, dne, hn4⟩
    have z1 : h2.objs.size ≤ dx := dn
    have z2 : hp.objs.size < h2.objs.size := Nat.lt_of_succ_lt (Heap.lt_size hx2)
    exact Nat.le_of_lt (Nat.lt_of_lt_of_le z2 z1)
end
end ErX
end PySem
set_option Elab.async false
set_option linter.all false
set_option maxRecDepth 100000
set_option maxHeartbeats 4000000
namespace L2
open PySem PySem.Spec PyProof.Rows
section
variable {X : Cx} {C fI cc cda : Addr}
theorem boot_super1 : bootBuiltins ("super" : Str) = some (.type "super") := by kernel_rfl
/-- a made error, in the layer's words -/
theorem mk_err {pins : List (Addr × Obj)} {σ : St} {H : Hp} {Q : XK} {s : Shared} {h' : Heap} {tk' : Nat} {e d : Addr} {mA : Str → Option Value} {fs : List (Str × V)} (I : Inv X pins σ H s) (M : PySem.ErX.ErrMade s.heap h' e C (some d) mA)
    (hr : ∀ f, RelO (fs.lookup f) (mA f)) (h1 : PySem.W.subIn X.K (.ref C) (.type "BaseException") = some true) (h2 : PySem.W.typeIn X.K (.ref C) = some (.type "type")) (q : H d = none → Q (.ref C) (some d) (upd H d (.xd fs))) :
    MkP X pins σ Q (.ref e) { s with heap := h', toks := tk' } := by
  obtain ⟨oe, fv, hoe, hc, hd, hdat, hv1⟩ := M.obj
  obtain ⟨dbig, dne, hns⟩ := M.dict d rfl
  obtain ⟨hp, g, dr, tk, os⟩ := s
  obtain ⟨G', g1, g2⟩ := restrict h' fun b => decide (b ≠ e)
  have gk : ∀ b, b ≠ e → G'.get? b = h'.get? b := fun b hb => g1 b (decide_eq_true hb)
  have ge : G'.get? e = none := g2 e (by simp)
  have old : ∀ b o, hp.get? b = some o → G'.get? b = some o := fun b o q => (gk b (Nat.ne_of_lt (Nat.lt_of_lt_of_le (Heap.lt_size q) M.new))).trans (M.keep b o q)
  have ob : ObjOk X.prog X.w (upd H d (.xd fs)) G' d (.xd fs) := ⟨_, hns.at (fun o q => (gk d dne).trans q), hr⟩
  have J : Inv X pins σ (upd H d (.xd fs)) ⟨G', g, dr, tk', os⟩ := I.laid (t' := tk') old dbig ob
  refine ⟨e, oe, fv, ⟨G', g, dr, tk', os⟩, _, .ref C, some d, rfl, J, fun b o q => ?_, ge, hoe, ⟨hc, hd⟩, hdat, hv1, ?_, rfl, I.bare, raises_own h1 h2, q (I.hok.fresh dbig)⟩
  · by_cases hb : b = e
    · have q' : G'.get? b = some o := q
      rw [hb, ge] at q'; cases q'
    · exact (gk b hb).symm.trans q
  · rw [upd_ne (Ne.symm dne)]
    exact I.hok.fresh M.new
/-- C(e), an error of one field -/
def tMkE1 (C : Addr) (f : Str) (ta : TA) : St → Hp → XK → Prop := fun σ H Q => ta σ H fun vs H1 => ∃ v, vs = [v] ∧ ∀ d, H1 d = none → Q (.ref C) (some d) (upd H1 d (.xd [(f, v)]))
/-- C(e, e2), an error of two fields -/
def tMkE2 (C : Addr) (f f2 : Str) (ta : TA) : St → Hp → XK → Prop := fun σ H Q => ta σ H fun vs H1 => ∃ v v2, vs = [v, v2] ∧ ∀ d, H1 d = none → Q (.ref C) (some d) (upd H1 d (.xd [(f, v), (f2, v2)]))
/-- what is asked of the class's name -/
structure ErrN (X : Cx) (x : Str) (C fI cc cda : Addr) (fs : List Str) : Prop where
  t : PySem.ErX.ErrT X.prog X.K C fI cc cda fs
  gC : X.mg x = some (.ref C)
  kC : PySem.W.keepIn X.K (.ref C) = true
  ms : X.mg "super" = none
theorem pmk_e1 {x f : Str} {a : Expr} {ta : TA} {p pos : Pos} {k : Nat} (T : ErrN X x C fI cc cda [f]) (hr : Room k X.A) (ha : PA X [a] ta) (hg : Gl X x := by rfl)
    (hdb : (x == ("__debug__" : Str)) = false := by decide) (he : starEach (a :: []) X.env = (false, eval a X.env) :: starEach [] X.env := by rfl) (hpl : (backTo pos (starEach [] X.env)).any (·.1) = false := by rfl)
    (hf1 : f ≠ "super" := by decide) (hf2 : f ≠ "__class__" := by decide) (hf3 : f ≠ "self" := by decide) (hf4 : (f == ("__debug__" : Str)) = false := by decide) :
    PMk X (.Call (.Name x p) [a] [] pos) (tMkE1 C f ta) := by
  intro pins s σ H Q I h
  refine wpAny_Call_Name_kw (ld_glob I hg T.gC ?_ hdb)
  refine PySem.W.callWith_K (h₀ := X.base) I.ok.mod.kin T.kC (thn (ha.run pos pins s σ H _ I h) fun us s1 hh => ?_) he hpl
  obtain ⟨vs, H1, I1, r1, v, ev, q1⟩ := hh
  subst ev
  refine ⟨I1.kIn, ?_⟩
  cases r1 with
  | cons rv rn =>
    rename_i v' us'
    cases rn
    show wpAny _ _ (call (.ref C) [v']) _ _ _
    obtain ⟨mb, b1, b2⟩ := I1.mod.blt
    refine wpAny_call (PySem.ErX.err_made1 T.t I1.kIn I1.nolimit (I1.mod.glob.keeps I1.bk) T.ms (b1.keeps I1.bk) ((b2 _ (by decide)).trans boot_super1) (by have := hr.dp; omega) hf1 hf2 hf3 hf4 fun h' tk' e d M => ?_)
    exact mk_err I1 M (fun g => by
      by_cases hw : g = f
      · rw [if_pos hw]
        have q : List.lookup g [(f, v)] = some v := by simp [List.lookup, hw]
        rw [q]; exact rv
      · rw [if_neg hw]
        have qw : (g == f) = false := by simpa using hw
        have q2 : List.lookup g [(f, v)] = none := by simp [List.lookup, qw]
        rw [q2]; trivial) T.t.subB T.t.tyC (q1 d)
theorem pmk_e2 {x f f2 : Str} {a b : Expr} {ta : TA} {p pos : Pos} {k : Nat} (T : ErrN X x C fI cc cda [f, f2]) (hr : Room k X.A) (ha : PA X [a, b] ta) (hg : Gl X x := by rfl)
    (hdb : (x == ("__debug__" : Str)) = false := by decide) (he : starEach (a :: [b]) X.env = (false, eval a X.env) :: starEach [b] X.env := by rfl) (hpl : (backTo pos (starEach [b] X.env)).any (·.1) = false := by rfl)
    (hf1 : f ≠ "super" := by decide) (hf2 : f ≠ "__class__" := by decide) (hf3 : f ≠ "self" := by decide) (hf4 : (f == ("__debug__" : Str)) = false := by decide)
    (hg1 : f2 ≠ "super" := by decide) (hg2 : f2 ≠ "__class__" := by decide) (hg3 : f2 ≠ "self" := by decide) (hg4 : (f2 == ("__debug__" : Str)) = false := by decide) (hne : f2 ≠ f := by decide) :
    PMk X (.Call (.Name x p) [a, b] [] pos) (tMkE2 C f f2 ta) := by
  intro pins s σ H Q I h
  refine wpAny_Call_Name_kw (ld_glob I hg T.gC ?_ hdb)
  refine PySem.W.callWith_K (h₀ := X.base) I.ok.mod.kin T.kC (thn (ha.run pos pins s σ H _ I h) fun us s1 hh => ?_) he hpl
  obtain ⟨vs, H1, I1, r1, v, v2, ev, q1⟩ := hh
  subst ev
  refine ⟨I1.kIn, ?_⟩
  obtain ⟨u, u2, rfl, rv, rv2⟩ := vals2 r1
  show wpAny _ _ (call (.ref C) [u, u2]) _ _ _
  obtain ⟨mb, b1, b2⟩ := I1.mod.blt
  refine wpAny_call (PySem.ErX.err_made2 T.t I1.kIn I1.nolimit (I1.mod.glob.keeps I1.bk) T.ms (b1.keeps I1.bk) ((b2 _ (by decide)).trans boot_super1) (by have := hr.dp; omega) hf1 hf2 hf3 hf4 hg1 hg2 hg3 hg4 hne fun h' tk' e d M => ?_)
  refine mk_err I1 M (fun g => ?_) T.t.subB T.t.tyC (q1 d)
  by_cases hw : g = f2
  · rw [if_pos hw]
    have qw : (g == f) = false := by rw [hw]; simpa using hne
    have q : List.lookup g [(f, v), (f2, v2)] = some v2 := by simp [List.lookup, hw, qw, show (f2 == f) = false by simpa using hne]
    rw [q]; exact rv2
  · rw [if_neg hw]
    have qw2 : (g == f2) = false := by simpa using hw
    by_cases hw1 : g = f
    · rw [if_pos hw1]
      have q : List.lookup g [(f, v), (f2, v2)] = some v := by simp [List.lookup, hw1]
      rw [q]; exact rv
    · rw [if_neg hw1]
      have qw : (g == f) = false := by simpa using hw1
      have q2 : List.lookup g [(f, v), (f2, v2)] = none := by simp [List.lookup, qw, qw2]
      rw [q2]; trivial
end
end L2
set_option Elab.async false
set_option linter.all false
set_option maxRecDepth 100000
set_option maxHeartbeats 4000000
/-! Values as data, free of addresses; the hand layer's heap seen as a frozen part (T, only growing), own lists of the frame, and one resource. -/
namespace FD
open PySem PySem.Spec PyProof.Rows L2
inductive D where
  | non | bl (b : Bool) | int (i : Int) | str (x : Str) | ty (n : String) | ref (a : Addr)
  | tup (l : List D) | lst (l : List D) | rol (l : List D)
mutual
def Rep (K : PySem.W.Frag) (T : Hp) : D → V → Prop
  | .non, v => v = .non
  | .bl b, v => v = .bl b
  | .int i, v => v = .int i
  | .str x, v => v = .str x
  | .ty n, v => v = .ty n
  | .ref a, v => v = .ref a
  | .tup l, v => ∃ a xs, v = .ref a ∧ SqT K T a xs ∧ Reps K T l xs
  | .lst l, v => ∃ a xs, v = .ref a ∧ T a = some (.lst xs) ∧ Reps K T l xs
  | .rol l, v => ∃ a xs, v = .ref a ∧ SqL K T a xs ∧ Reps K T l xs
def Reps (K : PySem.W.Frag) (T : Hp) : List D → List V → Prop
  | [], xs => xs = []
  | d :: l, xs => ∃ v r, xs = v :: r ∧ Rep K T d v ∧ Reps K T l r
end
def Ext (T T' : Hp) : Prop := ∀ a o, T a = some o → T' a = some o
theorem Ext.refl (T : Hp) : Ext T T := fun _ _ h => h
theorem Ext.trans {T T1 T2 : Hp} (a : Ext T T1) (b : Ext T1 T2) : Ext T T2 := fun x o h => b x o (a x o h)
theorem Ext.back {T T' : Hp} (e : Ext T T') {a : Addr} (h : T' a = none) : T a = none := by
  cases q : T a with
  | none => rfl
  | some o => rw [e a o q] at h; cases h
theorem Ext.new {T : Hp} {p : Addr} {o : HO} (h : T p = none) : Ext T (upd T p o) := fun a u e => by rw [upd_ne (ne_of_none e h)]; exact e
theorem Ext.rd {T T' : Hp} {a : Addr} {u : HO} (e : Ext T T') (h : Rd T a u) : Rd T' a u := by
  rcases h with h | ⟨o, h⟩
  · exact .inl (e _ _ h)
  · exact .inr ⟨o, e _ _ h⟩
theorem Ext.sl {K : PySem.W.Frag} {T T' : Hp} {a : Addr} {xs : List V} (e : Ext T T') (h : SqL K T a xs) : SqL K T' a xs := by
  rcases h with h | h
  · exact .inl (e.rd h)
  · exact .inr h
theorem Ext.st {K : PySem.W.Frag} {T T' : Hp} {a : Addr} {xs : List V} (e : Ext T T') (h : SqT K T a xs) : SqT K T' a xs := by
  rcases h with h | h
  · exact .inl (e.rd h)
  · exact .inr h
mutual
theorem Rep.mono {K : PySem.W.Frag} {T T' : Hp} (e : Ext T T') : ∀ {d : D} {v : V}, Rep K T d v → Rep K T' d v
  | .non, _, h => by simpa [Rep] using h
  | .bl _, _, h => by simpa [Rep] using h
  | .int _, _, h => by simpa [Rep] using h
  | .str _, _, h => by simpa [Rep] using h
  | .ty _, _, h => by simpa [Rep] using h
  | .ref _, _, h => by simpa [Rep] using h
  | .tup l, v, h => by
    simp only [Rep] at h ⊢
    obtain ⟨a, xs, h1, h2, h3⟩ := h
    exact ⟨a, xs, h1, e.st h2, Reps.mono e h3⟩
  | .lst l, v, h => by
    simp only [Rep] at h ⊢
    obtain ⟨a, xs, h1, h2, h3⟩ := h
    exact ⟨a, xs, h1, e _ _ h2, Reps.mono e h3⟩
  | .rol l, v, h => by
    simp only [Rep] at h ⊢
    obtain ⟨a, xs, h1, h2, h3⟩ := h
    exact ⟨a, xs, h1, e.sl h2, Reps.mono e h3⟩
theorem Reps.mono {K : PySem.W.Frag} {T T' : Hp} (e : Ext T T') : ∀ {l : List D} {xs : List V}, Reps K T l xs → Reps K T' l xs
  | [], _, h => by simpa [Reps] using h
  | d :: l, xs, h => by
    simp only [Reps] at h ⊢
    obtain ⟨v, r, h1, h2, h3⟩ := h
    exact ⟨v, r, h1, Rep.mono e h2, Reps.mono e h3⟩
end
section
variable {K : PySem.W.Frag} {T T' : Hp}
theorem Reps.nil : Reps K T [] [] := by simp [Reps]
theorem Reps.cons {d : D} {v : V} {l : List D} {r : List V} (h : Rep K T d v) (t : Reps K T l r) : Reps K T (d :: l) (v :: r) := by
  simp only [Reps]; exact ⟨v, r, rfl, h, t⟩
theorem Reps.length : ∀ {l : List D} {xs : List V}, Reps K T l xs → xs.length = l.length
  | [], xs, h => by simp only [Reps] at h; rw [h]; rfl
  | d :: l, xs, h => by
    simp only [Reps] at h
    obtain ⟨v, r, h1, _, h3⟩ := h
    rw [h1, List.length_cons, List.length_cons, Reps.length h3]
theorem Reps.append : ∀ {l l2 : List D} {xs ys : List V}, Reps K T l xs → Reps K T l2 ys → Reps K T (l ++ l2) (xs ++ ys)
  | [], l2, xs, ys, h, h2 => by simp only [Reps] at h; rw [h]; exact h2
  | d :: l, l2, xs, ys, h, h2 => by
    simp only [Reps] at h
    obtain ⟨v, r, h1, h3, h4⟩ := h
    rw [h1]
    exact Reps.cons h3 (Reps.append h4 h2)
theorem Reps.get : ∀ {l : List D} {xs : List V} {i : Nat} {d : D}, Reps K T l xs → l[i]? = some d → ∃ v, xs[i]? = some v ∧ Rep K T d v
  | [], _, _, _, _, e => by simp at e
  | _ :: _, xs, 0, d, h, e => by
    simp only [Reps] at h
    obtain ⟨v, r, h1, h3, h4⟩ := h
    have e' := Option.some.inj e
    subst e'
    exact ⟨v, by rw [h1]; rfl, h3⟩
  | _ :: l, xs, i + 1, d, h, e => by
    simp only [Reps] at h
    obtain ⟨v, r, h1, h3, h4⟩ := h
    obtain ⟨u, h5, h6⟩ := Reps.get (i := i) h4 e
    exact ⟨u, by rw [h1]; exact h5, h6⟩
theorem Reps.get' : ∀ {l : List D} {xs : List V} {i : Nat} {v : V}, Reps K T l xs → xs[i]? = some v → ∃ d, l[i]? = some d ∧ Rep K T d v := fun {l xs i v} h e => by
  have hl := h.length
  have hi : i < xs.length := (List.getElem?_eq_some_iff.mp e).1
  have : ∃ d, l[i]? = some d := ⟨l[i]'(by omega), List.getElem?_eq_getElem _⟩
  obtain ⟨d, hd⟩ := this
  obtain ⟨u, h1, h2⟩ := h.get hd
  rw [e] at h1
  exact ⟨d, hd, by rw [Option.some.inj h1]; exact h2⟩
theorem Reps.take : ∀ {l : List D} {xs : List V} (n : Nat), Reps K T l xs → Reps K T (l.take n) (xs.take n)
  | _, _, 0, _ => by simpa using Reps.nil
  | [], xs, n + 1, h => by simp only [Reps] at h; rw [h]; simpa using Reps.nil
  | d :: l, xs, n + 1, h => by
    simp only [Reps] at h
    obtain ⟨v, r, h1, h3, h4⟩ := h
    rw [h1]
    exact Reps.cons h3 (Reps.take n h4)
theorem Reps.drop : ∀ {l : List D} {xs : List V} (n : Nat), Reps K T l xs → Reps K T (l.drop n) (xs.drop n)
  | _, _, 0, h => h
  | [], xs, n + 1, h => by simp only [Reps] at h; rw [h]; simpa using Reps.nil
  | d :: l, xs, n + 1, h => by
    simp only [Reps] at h
    obtain ⟨v, r, h1, h3, h4⟩ := h
    rw [h1]
    exact Reps.drop n h4
theorem Reps.set {d : D} {v : V} (h2 : Rep K T d v) : ∀ {l : List D} {xs : List V} (n : Nat), Reps K T l xs → Reps K T (l.set n d) (xs.set n v)
  | [], xs, _, h => by simp only [Reps] at h; rw [h]; simpa using Reps.nil
  | _ :: _, xs, 0, h => by
    simp only [Reps] at h
    obtain ⟨u, r, h1, h3, h4⟩ := h
    rw [h1]
    exact Reps.cons h2 h4
  | _ :: _, xs, n + 1, h => by
    simp only [Reps] at h
    obtain ⟨u, r, h1, h3, h4⟩ := h
    rw [h1]
    exact Reps.cons h3 (Reps.set h2 n h4)
theorem rep_int {i : Int} {v : V} (h : Rep K T (.int i) v) : v = .int i := by simpa [Rep] using h
theorem rep_str {i : Str} {v : V} (h : Rep K T (.str i) v) : v = .str i := by simpa [Rep] using h
theorem rep_bl {i : Bool} {v : V} (h : Rep K T (.bl i) v) : v = .bl i := by simpa [Rep] using h
theorem rep_non {v : V} (h : Rep K T .non v) : v = .non := by simpa [Rep] using h
theorem rep_ref {a : Addr} {v : V} (h : Rep K T (.ref a) v) : v = .ref a := by simpa [Rep] using h
theorem rep_ty {a : String} {v : V} (h : Rep K T (.ty a) v) : v = .ty a := by simpa [Rep] using h
theorem rep_tup {l : List D} {v : V} (h : Rep K T (.tup l) v) : ∃ a xs, v = .ref a ∧ SqT K T a xs ∧ Reps K T l xs := by simpa [Rep] using h
theorem rep_lst {l : List D} {v : V} (h : Rep K T (.lst l) v) : ∃ a xs, v = .ref a ∧ T a = some (.lst xs) ∧ Reps K T l xs := by simpa [Rep] using h
theorem rep_rol {l : List D} {v : V} (h : Rep K T (.rol l) v) : ∃ a xs, v = .ref a ∧ SqL K T a xs ∧ Reps K T l xs := by simpa [Rep] using h
theorem Rep.rol {l : List D} {a : Addr} {xs : List V} (h : SqL K T a xs) (hr : Reps K T l xs) : Rep K T (.rol l) (.ref a) := by simp only [Rep]; exact ⟨a, xs, rfl, h, hr⟩
theorem Rep.int {i : Int} : Rep K T (.int i) (.int i) := by simp [Rep]
theorem Rep.str {i : Str} : Rep K T (.str i) (.str i) := by simp [Rep]
theorem Rep.bl {i : Bool} : Rep K T (.bl i) (.bl i) := by simp [Rep]
theorem Rep.non : Rep K T .non .non := by simp [Rep]
theorem Rep.ref {a : Addr} : Rep K T (.ref a) (.ref a) := by simp [Rep]
theorem Rep.tup {l : List D} {a : Addr} {xs : List V} (h : SqT K T a xs) (hr : Reps K T l xs) : Rep K T (.tup l) (.ref a) := by simp only [Rep]; exact ⟨a, xs, rfl, h, hr⟩
theorem Rep.lst {l : List D} {a : Addr} {xs : List V} (h : T a = some (.lst xs)) (hr : Reps K T l xs) : Rep K T (.lst l) (.ref a) := by simp only [Rep]; exact ⟨a, xs, rfl, h, hr⟩
end
/-! ### the state: slots as data -/
inductive SV where
  | val (d : D) | own (l : List D)
abbrev Dl := List (Option SV)
structure Rsc where
  R : Type
  foot : R → Addr → Prop
  rel : PySem.W.Frag → Hp → Hp → R → Prop
  mono : ∀ {K : PySem.W.Frag} {T T' H H' : Hp} {r : R}, rel K T H r → Ext T T' → (∀ a, foot r a → H' a = H a) → rel K T' H' r
structure Bs (ρ : Rsc) where
  T : Hp
  H : Hp
  r : ρ.R
/-- what has come since the entry B -/
structure Aft (K : PySem.W.Frag) (ρ : Rsc) (B : Bs ρ) (T H : Hp) (r : ρ.R) : Prop where
  sub : Ext T H
  ext : Ext B.T T
  frame : ∀ a o, B.H a = some o → ¬ ρ.foot B.r a → H a = some o
  new : ∀ a, B.T a = none → T a ≠ none → B.H a = none
  dom : ∀ a, H a = none → B.H a = none
  rel : ρ.rel K T H r
  ft : ∀ a, ρ.foot r a → T a = none ∧ H a ≠ none ∧ (ρ.foot B.r a ∨ B.H a = none)
  f0 : ∀ a, ρ.foot B.r a → B.H a ≠ none
structure Cov (K : PySem.W.Frag) (ρ : Rsc) (B : Bs ρ) (T H : Hp) (σ : L2.St) (Δ : Dl) (r : ρ.R) : Prop extends Aft K ρ B T H r where
  len : σ.length = Δ.length
  val : ∀ (i : Nat) d, Δ[i]? = some (some (.val d)) → ∃ v, σ[i]? = some (some v) ∧ Rep K T d v
  own : ∀ (i : Nat) l, Δ[i]? = some (some (.own l)) → ∃ p xs, σ[i]? = some (some (.ref p)) ∧ H p = some (.lst xs) ∧ Reps K T l xs ∧ T p = none ∧ B.H p = none ∧ ¬ ρ.foot r p
  apart : ∀ (i j : Nat) l l' p, i ≠ j → Δ[i]? = some (some (.own l)) → Δ[j]? = some (some (.own l')) → σ[i]? = some (some (.ref p)) → σ[j]? ≠ some (some (.ref p))
section
variable {K : PySem.W.Frag} {ρ : Rsc} {B : Bs ρ} {T H T' H' : Hp} {σ : L2.St} {Δ : Dl} {r r' : ρ.R} {p : Addr} {o : HO}
theorem Aft.trans {T2 H2 : Hp} {r2 : ρ.R} (C : Aft K ρ B T H r) (A : Aft K ρ ⟨T, H, r⟩ T2 H2 r2) : Aft K ρ B T2 H2 r2 where
  sub := A.sub
  ext := C.ext.trans A.ext
  frame := fun a o h nf => A.frame a o (C.frame a o h nf) fun z => by
    rcases (C.ft a z).2.2 with y | y
    · exact nf y
    · rw [h] at y; cases y
  new := fun a h1 h2 => by
    by_cases q : T a = none
    · exact C.dom a (A.new a q h2)
    · exact C.new a h1 q
  dom := fun a h => C.dom a (A.dom a h)
  rel := A.rel
  ft := fun a h => by
    obtain ⟨h1, h2, h3⟩ := A.ft a h
    refine ⟨h1, h2, ?_⟩
    rcases h3 with y | y
    · exact (C.ft a y).2.2
    · exact .inr (C.dom a y)
  f0 := C.f0
theorem Cov.after {T2 H2 : Hp} {r2 : ρ.R} (C : Cov K ρ B T H σ Δ r) (A : Aft K ρ ⟨T, H, r⟩ T2 H2 r2) : Cov K ρ B T2 H2 σ Δ r2 where
  toAft := C.toAft.trans A
  len := C.len
  val := fun i d h => by
    obtain ⟨v, h1, h2⟩ := C.val i d h
    exact ⟨v, h1, h2.mono A.ext⟩
  own := fun i l h => by
    obtain ⟨p, xs, h1, h2, h3, h4, h5, h6⟩ := C.own i l h
    refine ⟨p, xs, h1, A.frame p _ h2 h6, h3.mono A.ext, ?_, h5, fun z => ?_⟩
    · by_cases q : T2 p = none
      · exact q
      · have y := A.new p h4 q
        rw [show H p = none from y] at h2; cases h2
    · rcases (A.ft p z).2.2 with y | y
      · exact h6 y
      · rw [show H p = none from y] at h2; cases h2
  apart := C.apart
theorem Aft.start (s : Ext T H) (rl : ρ.rel K T H r) (ft : ∀ a, ρ.foot r a → T a = none ∧ H a ≠ none) : Aft K ρ ⟨T, H, r⟩ T H r :=
  ⟨s, Ext.refl T, fun _ _ h _ => h, fun a h1 h2 => absurd h1 h2, fun _ h => h, rl, fun a h => ⟨(ft a h).1, (ft a h).2, .inl h⟩, fun a h => (ft a h).2⟩
theorem Aft.self (A : Aft K ρ B T H r) : Aft K ρ ⟨T, H, r⟩ T H r := .start A.sub A.rel (fun a h => ⟨(A.ft a h).1, (A.ft a h).2.1⟩)
theorem Aft.noft (A : Aft K ρ B T H r) (h : H p = none) : ¬ ρ.foot r p := fun z => (A.ft p z).2.1 h
/-- a new frozen object -/
theorem Aft.alloc (A : Aft K ρ B T H r) (h : H p = none) : Aft K ρ B (upd T p o) (upd H p o) r := by
  have hT : T p = none := A.sub.back h
  have e1 := Ext.new (o := o) hT
  refine A.trans ⟨fun a u q => ?_, e1, fun a u q _ => ?_, fun a q1 q2 => ?_, fun a q => ?_, ?_, fun a q => ?_, fun a q => (A.ft a q).2.1⟩
  · by_cases z : a = p
    · subst z; rw [upd_same] at q ⊢; exact q
    · rw [upd_ne z] at q ⊢; exact A.sub a u q
  · show upd H p o a = some u
    rw [upd_ne (ne_of_none q h)]; exact q
  · by_cases z : a = p
    · subst z; exact h
    · exact absurd (show upd T p o a = none by rw [upd_ne z]; exact q1) q2
  · by_cases z : a = p
    · subst z; exact h
    · rw [upd_ne z] at q; exact q
  · exact ρ.mono A.rel e1 fun a q => upd_ne fun z => by subst z; exact A.noft h q
  · have z : a ≠ p := fun z => by subst z; exact A.noft h q
    rw [upd_ne z, upd_ne z]
    exact ⟨(A.ft a q).1, (A.ft a q).2.1, .inl q⟩
theorem Cov.alloc (C : Cov K ρ B T H σ Δ r) (h : H p = none) : Cov K ρ B (upd T p o) (upd H p o) σ Δ r := C.after (C.toAft.self.alloc h)
/-- a new object that stays the frame's own -/
theorem Aft.allocOwn (A : Aft K ρ B T H r) (h : H p = none) : Aft K ρ B T (upd H p o) r :=
  A.trans ⟨fun a u q => by
      have q' := A.sub a u q
      rw [upd_ne (ne_of_none q' h)]; exact q', Ext.refl T, fun a u q _ => by
      show upd H p o a = some u
      rw [upd_ne (ne_of_none q h)]; exact q, fun a q1 q2 => absurd q1 q2, fun a q => by
      by_cases z : a = p
      · subst z; exact h
      · rw [upd_ne z] at q; exact q,
    ρ.mono A.rel (Ext.refl T) fun a q => upd_ne fun z => by subst z; exact A.noft h q,
    fun a q => by
      have z : a ≠ p := fun z => by subst z; exact A.noft h q
      rw [upd_ne z]
      exact ⟨(A.ft a q).1, (A.ft a q).2.1, .inl q⟩, fun a q => (A.ft a q).2.1⟩
theorem Cov.allocOwn (C : Cov K ρ B T H σ Δ r) (h : H p = none) : Cov K ρ B T (upd H p o) σ Δ r := C.after (C.toAft.self.allocOwn h)
/-- a slot's data -/
theorem Cov.setVal (C : Cov K ρ B T H σ Δ r) {i : Nat} {d : D} {v : V} (h : Rep K T d v) : Cov K ρ B T H (σ.set i (some v)) (Δ.set i (some (.val d))) r where
  toAft := C.toAft
  len := by rw [List.length_set, List.length_set, C.len]
  val := fun j e q => by
    by_cases z : i = j
    · subst z
      by_cases hi : i < Δ.length
      · rw [List.getElem?_set_self hi] at q
        cases q
        exact ⟨v, List.getElem?_set_self (by rw [C.len]; exact hi), h⟩
      · rw [List.getElem?_eq_none (by rw [List.length_set]; omega)] at q; cases q
    · rw [List.getElem?_set_ne z] at q ⊢
      exact C.val j e q
  own := fun j l q => by
    by_cases z : i = j
    · subst z
      by_cases hi : i < Δ.length
      · rw [List.getElem?_set_self hi] at q; cases q
      · rw [List.getElem?_eq_none (by rw [List.length_set]; omega)] at q; cases q
    · rw [List.getElem?_set_ne z] at q ⊢
      exact C.own j l q
  apart := fun j k l l' p ne q1 q2 => by
    have hj : i ≠ j := fun z => by
      subst z
      by_cases hi : i < Δ.length
      · rw [List.getElem?_set_self hi] at q1; cases q1
      · rw [List.getElem?_eq_none (by rw [List.length_set]; omega)] at q1; cases q1
    have hk : i ≠ k := fun z => by
      subst z
      by_cases hi : i < Δ.length
      · rw [List.getElem?_set_self hi] at q2; cases q2
      · rw [List.getElem?_eq_none (by rw [List.length_set]; omega)] at q2; cases q2
    rw [List.getElem?_set_ne hj] at q1 ⊢
    rw [List.getElem?_set_ne hk] at q2 ⊢
    exact C.apart j k l l' p ne q1 q2
/-- forgetting a slot -/
theorem Cov.clear (C : Cov K ρ B T H σ Δ r) {i : Nat} {w : Option V} : Cov K ρ B T H (σ.set i w) (Δ.set i none) r where
  toAft := C.toAft
  len := by rw [List.length_set, List.length_set, C.len]
  val := fun j e q => by
    by_cases z : i = j
    · subst z
      by_cases hi : i < Δ.length
      · rw [List.getElem?_set_self hi] at q; cases q
      · rw [List.getElem?_eq_none (by rw [List.length_set]; omega)] at q; cases q
    · rw [List.getElem?_set_ne z] at q ⊢
      exact C.val j e q
  own := fun j l q => by
    by_cases z : i = j
    · subst z
      by_cases hi : i < Δ.length
      · rw [List.getElem?_set_self hi] at q; cases q
      · rw [List.getElem?_eq_none (by rw [List.length_set]; omega)] at q; cases q
    · rw [List.getElem?_set_ne z] at q ⊢
      exact C.own j l q
  apart := fun j k l l' p ne q1 q2 => by
    have hj : i ≠ j := fun z => by
      subst z
      by_cases hi : i < Δ.length
      · rw [List.getElem?_set_self hi] at q1; cases q1
      · rw [List.getElem?_eq_none (by rw [List.length_set]; omega)] at q1; cases q1
    have hk : i ≠ k := fun z => by
      subst z
      by_cases hi : i < Δ.length
      · rw [List.getElem?_set_self hi] at q2; cases q2
      · rw [List.getElem?_eq_none (by rw [List.length_set]; omega)] at q2; cases q2
    rw [List.getElem?_set_ne hj] at q1 ⊢
    rw [List.getElem?_set_ne hk] at q2 ⊢
    exact C.apart j k l l' p ne q1 q2
/-- a new own list goes to a slot -/
theorem Cov.setOwn (C : Cov K ρ B T H σ Δ r) {i : Nat} {l : List D} {xs : List V} (h : H p = none) (hr : Reps K T l xs) :
    Cov K ρ B T (upd H p (.lst xs)) (σ.set i (some (.ref p))) (Δ.set i (some (.own l))) r := by
  have A := C.allocOwn (o := .lst xs) h
  have hold : ∀ j, i ≠ j → ∀ l', Δ[j]? = some (some (.own l')) → σ[j]? ≠ some (some (.ref p)) := fun j _ l' q e => by
    obtain ⟨p', xs', h1, h2, _⟩ := C.own j l' q
    rw [e] at h1
    cases h1
    rw [h] at h2; cases h2
  refine ⟨A.toAft, by rw [List.length_set, List.length_set, C.len], fun j e q => ?_, fun j l' q => ?_, fun j k l1 l2 p' ne q1 q2 q3 => ?_⟩
  · by_cases z : i = j
    · subst z
      by_cases hi : i < Δ.length
      · rw [List.getElem?_set_self hi] at q; cases q
      · rw [List.getElem?_eq_none (by rw [List.length_set]; omega)] at q; cases q
    · rw [List.getElem?_set_ne z] at q ⊢
      exact C.val j e q
  · by_cases z : i = j
    · subst z
      by_cases hi : i < Δ.length
      · rw [List.getElem?_set_self hi] at q
        cases q
        exact ⟨p, xs, List.getElem?_set_self (by rw [C.len]; exact hi), upd_same, hr, C.sub.back h, C.dom p h, C.noft h⟩
      · rw [List.getElem?_eq_none (by rw [List.length_set]; omega)] at q; cases q
    · rw [List.getElem?_set_ne z] at q ⊢
      exact A.own j l' q
  · by_cases zj : i = j
    · subst zj
      by_cases hi : i < Δ.length
      · rw [List.getElem?_set_ne ne] at q2 ⊢
        rw [List.getElem?_set_self (by rw [C.len]; exact hi)] at q3
        cases q3
        exact hold k ne l2 q2
      · rw [List.getElem?_eq_none (by rw [List.length_set]; omega)] at q1; cases q1
    · rw [List.getElem?_set_ne zj] at q1 q3
      by_cases zk : i = k
      · subst zk
        by_cases hi : i < Δ.length
        · rw [List.getElem?_set_self (by rw [C.len]; exact hi)]
          intro e
          cases e
          exact hold j zj l1 q1 q3
        · rw [List.getElem?_eq_none (by rw [List.length_set]; omega)] at q2; cases q2
      · rw [List.getElem?_set_ne zk] at q2 ⊢
        exact C.apart j k l1 l2 p' ne q1 q2 q3
/-- an own list is written -/
theorem Cov.writeOwn (C : Cov K ρ B T H σ Δ r) {i : Nat} {l l' : List D} {xs : List V} (hi : Δ[i]? = some (some (.own l))) (hp : σ[i]? = some (some (.ref p))) (hr : Reps K T l' xs) :
    Cov K ρ B T (upd H p (.lst xs)) σ (Δ.set i (some (.own l'))) r := by
  obtain ⟨p', xs', h1, h2, h3, h4, h5, h6⟩ := C.own i l hi
  rw [hp] at h1
  cases h1
  have hl : i < Δ.length := (List.getElem?_eq_some_iff.mp hi).1
  have eo : ∀ (j : Nat) (m : List D), (Δ.set i (some (.own l')))[j]? = some (some (.own m)) → ∃ m', Δ[j]? = some (some (.own m')) := fun j m q => by
    by_cases z : i = j
    · subst z; exact ⟨_, hi⟩
    · rw [List.getElem?_set_ne z] at q; exact ⟨_, q⟩
  refine ⟨⟨fun a o q => ?_, C.ext, fun a o q nf => ?_, C.new, fun a q => ?_, ρ.mono C.rel (Ext.refl T) fun a q => upd_ne fun z => h6 (by rw [← z]; exact q), fun a q => ?_, C.f0⟩, by rw [List.length_set, C.len], fun j e q => ?_, fun j m q => ?_, fun j k l1 l2 p' ne q1 q2 => ?_⟩
  · rw [upd_ne (fun z => by rw [z, h4] at q; cases q)]; exact C.sub a o q
  · rw [upd_ne (fun z => by rw [z, h5] at q; cases q)]; exact C.frame a o q nf
  · by_cases z : a = p
    · rw [z, upd_same] at q; cases q
    · rw [upd_ne z] at q; exact C.dom a q
  · have z : a ≠ p := fun z => h6 (by rw [← z]; exact q)
    rw [upd_ne z]; exact C.ft a q
  · by_cases z : i = j
    · subst z; rw [List.getElem?_set_self hl] at q; cases q
    · rw [List.getElem?_set_ne z] at q
      exact C.val j e q
  · by_cases z : i = j
    · subst z
      rw [List.getElem?_set_self hl] at q
      cases q
      exact ⟨p, xs, hp, upd_same, hr, h4, h5, h6⟩
    · rw [List.getElem?_set_ne z] at q
      obtain ⟨p2, xs2, g1, g2, g3, g4, g5, g6⟩ := C.own j m q
      have npp : p2 ≠ p := fun e => C.apart i j l m p z hi q hp (by rw [← e]; exact g1)
      exact ⟨p2, xs2, g1, by rw [upd_ne npp]; exact g2, g3, g4, g5, g6⟩
  · obtain ⟨m1, e1⟩ := eo j l1 q1
    obtain ⟨m2, e2⟩ := eo k l2 q2
    exact C.apart j k m1 m2 p' ne e1 e2
/-- an own list becomes data -/
theorem Cov.freeze (C : Cov K ρ B T H σ Δ r) {i : Nat} {l : List D} (hi : Δ[i]? = some (some (.own l))) :
    ∃ T', Ext T T' ∧ Cov K ρ B T' H σ (Δ.set i (some (.val (.lst l)))) r := by
  obtain ⟨p, xs, h1, h2, h3, h4, h5, h6⟩ := C.own i l hi
  have hl : i < Δ.length := (List.getElem?_eq_some_iff.mp hi).1
  have e1 := Ext.new (o := .lst xs) h4
  have ne : ∀ (j : Nat) (m : List D), i ≠ j → Δ[j]? = some (some (.own m)) → ∀ p2, σ[j]? = some (some (.ref p2)) → p2 ≠ p := fun j m z q p2 g1 e => C.apart i j l m p z hi q h1 (by rw [← e]; exact g1)
  refine ⟨_, e1, ⟨⟨fun a o q => ?_, C.ext.trans e1, C.frame, fun a q1 q2 => ?_, C.dom, ρ.mono C.rel e1 fun _ _ => rfl, fun a q => ?_, C.f0⟩, by rw [List.length_set, C.len], fun j e q => ?_, fun j m q => ?_, fun j k l1 l2 p' nj q1 q2 => ?_⟩⟩
  · by_cases z : a = p
    · rw [z, upd_same] at q; cases q; rw [z]; exact h2
    · rw [upd_ne z] at q; exact C.sub a o q
  · by_cases z : a = p
    · rw [z]; exact h5
    · rw [upd_ne z] at q2; exact C.new a q1 q2
  · have z : a ≠ p := fun z => h6 (by rw [← z]; exact q)
    rw [upd_ne z]; exact C.ft a q
  · by_cases z : i = j
    · subst z
      rw [List.getElem?_set_self hl] at q
      cases q
      exact ⟨.ref p, h1, .lst upd_same (h3.mono e1)⟩
    · rw [List.getElem?_set_ne z] at q
      obtain ⟨v, g1, g2⟩ := C.val j e q
      exact ⟨v, g1, g2.mono e1⟩
  · by_cases z : i = j
    · subst z; rw [List.getElem?_set_self hl] at q; cases q
    · rw [List.getElem?_set_ne z] at q
      obtain ⟨p2, xs2, g1, g2, g3, g4, g5, g6⟩ := C.own j m q
      exact ⟨p2, xs2, g1, g2, g3.mono e1, by rw [upd_ne (ne j m z q p2 g1)]; exact g4, g5, g6⟩
  · have z1 : i ≠ j := fun z => by subst z; rw [List.getElem?_set_self hl] at q1; cases q1
    have z2 : i ≠ k := fun z => by subst z; rw [List.getElem?_set_self hl] at q2; cases q2
    rw [List.getElem?_set_ne z1] at q1
    rw [List.getElem?_set_ne z2] at q2
    exact C.apart j k l1 l2 p' nj q1 q2
end
end FD
set_option Elab.async false
set_option linter.all false
set_option maxRecDepth 100000
set_option maxHeartbeats 4000000
namespace FD
open PySem PySem.Spec PyProof.Rows L2
/-! ### wishes by the semantics themselves -/
def wpE (X : Cx) (e : Expr) : TE := fun σ H Q => ∀ pins s, Inv X pins σ H s → wpAny (model X.prog X.w) X.A (eval e X.env) (EP X pins σ Q) X.xe s
def wpT (X : Cx) (e : Expr) : TT := fun σ H Q => ∀ pins s, Inv X pins σ H s → wpAny (model X.prog X.w) X.A (isTrue e X.env (eval e X.env)) (TP X pins σ Q) X.xe s
def wpW (X : Cx) (e : Expr) : TT := fun σ H Q => ∀ whole pins s, Inv X pins σ H s → wpAny (model X.prog X.w) X.A (isTrue e X.env whole) (TP X pins σ Q) X.xe s
def wpA (X : Cx) (es : List Expr) : TA := fun σ H Q => ∀ (pos : Pos) pins s, Inv X pins σ H s → wpAny (model X.prog X.w) X.A (spliced (backTo pos (starEach es X.env))) (AP X pins σ Q) X.xe s
def wpS (X : Cx) (st : Stmt) : TS := fun D σ H => ∀ pins s, Inv X pins σ H s → wpAny (model X.prog X.w) X.A (exec st X.env) (SP X pins D) X.xe s
def wpSs (X : Cx) (st : List Stmt) : TS := fun D σ H => ∀ pins s, Inv X pins σ H s → wpAny (model X.prog X.w) X.A (execs st X.env) (SP X pins D) X.xe s
def wpI (X : Cx) (tg iter : Expr) : TI := fun σ H R => ∀ pins s, Inv X pins σ H s → wpAny (model X.prog X.w) X.A (eval iter X.env) (fun v s1 => wpAny (model X.prog X.w) X.A (pyIter v) (PIE X pins σ tg R) X.xe s1) X.xe s
section
variable {X : Cx}
theorem pe_wp {e : Expr} : PE X e (wpE X e) := ⟨fun pins s _ _ _ I h => h pins s I⟩
theorem pt_wp {e : Expr} : PT X e (wpT X e) := ⟨fun pins s _ _ _ I h => h pins s I⟩
theorem pw_wp {e : Expr} : PW X e (wpW X e) := ⟨fun wh pins s _ _ _ I h => h wh pins s I⟩
theorem pa_wp {es : List Expr} : PA X es (wpA X es) := ⟨fun pos pins s _ _ _ I h => h pos pins s I⟩
theorem ps_wp {st : Stmt} : PS X st (wpS X st) := ⟨fun pins s _ _ _ I h => h pins s I⟩
theorem pss_wp {st : List Stmt} : PSs X st (wpSs X st) := ⟨fun pins s _ _ _ I h => h pins s I⟩
theorem pi_wp {tg iter : Expr} : PI X tg iter (wpI X tg iter) := ⟨fun pins s _ _ _ I h => h pins s I⟩
theorem of_pe {e : Expr} {t : TE} (h : PE X e t) {σ : L2.St} {H : Hp} {Q : VK} (q : t σ H Q) : wpE X e σ H Q := fun pins s I => h.run pins s σ H Q I q
theorem of_pt {e : Expr} {t : TT} (h : PT X e t) {σ : L2.St} {H : Hp} {Q : Bool → Hp → Prop} (q : t σ H Q) : wpT X e σ H Q := fun pins s I => h.run pins s σ H Q I q
theorem of_pw {e : Expr} {t : TT} (h : PW X e t) {σ : L2.St} {H : Hp} {Q : Bool → Hp → Prop} (q : t σ H Q) : wpW X e σ H Q := fun wh pins s I => h.run wh pins s σ H Q I q
theorem of_pa {es : List Expr} {t : TA} (h : PA X es t) {σ : L2.St} {H : Hp} {Q : List V → Hp → Prop} (q : t σ H Q) : wpA X es σ H Q := fun pos pins s I => h.run pos pins s σ H Q I q
theorem of_ps {st : Stmt} {t : TS} (h : PS X st t) {σ : L2.St} {H : Hp} {D : Ends} (q : t D σ H) : wpS X st D σ H := fun pins s I => h.run pins s σ H D I q
theorem of_pss {st : List Stmt} {t : TS} (h : PSs X st t) {σ : L2.St} {H : Hp} {D : Ends} (q : t D σ H) : wpSs X st D σ H := fun pins s I => h.run pins s σ H D I q
theorem of_pi {tg iter : Expr} {t : TI} (h : PI X tg iter t) {σ : L2.St} {H : Hp} {R : It → Hp → Prop} (q : t σ H R) : wpI X tg iter σ H R := fun pins s I => h.run pins s σ H R I q
end
/-! ### errors as data -/
structure Exn where
  C : Addr
  fs : List (Str × D)
def RFs (K : PySem.W.Frag) (T : Hp) : List (Str × D) → List (Str × V) → Prop
  | [], l => l = []
  | (f, d) :: r, l => ∃ v l', l = (f, v) :: l' ∧ Rep K T d v ∧ RFs K T r l'
theorem RFs.mono {K : PySem.W.Frag} {T T' : Hp} (e : Ext T T') : ∀ {fs : List (Str × D)} {l : List (Str × V)}, RFs K T fs l → RFs K T' fs l
  | [], _, h => h
  | (f, d) :: r, l, ⟨v, l', h1, h2, h3⟩ => ⟨v, l', h1, h2.mono e, RFs.mono e h3⟩
theorem RFs.look {K : PySem.W.Frag} {T : Hp} {f : Str} {d : D} : ∀ {fs : List (Str × D)} {l : List (Str × V)}, RFs K T fs l → fs.lookup f = some d → ∃ v, l.lookup f = some v ∧ Rep K T d v
  | [], _, _, e => by simp at e
  | (g, d2) :: r, l, ⟨v, l', h1, h2, h3⟩, e => by
    rw [h1]
    rw [List.lookup_cons] at e ⊢
    cases q : f == g with
    | true =>
      rw [q] at e
      have e' : d2 = d := Option.some.inj e
      subst e'
      exact ⟨v, rfl, h2⟩
    | false =>
      rw [q] at e
      exact RFs.look h3 e
def RepX (K : PySem.W.Frag) (T : Hp) (e : Exn) (cls : Value) (d : Option Addr) : Prop := cls = .ref e.C ∧ ∃ dd fv, d = some dd ∧ T dd = some (.xd fv) ∧ RFs K T e.fs fv
theorem RepX.mono {K : PySem.W.Frag} {T T' : Hp} (x : Ext T T') {e : Exn} {cls : Value} {d : Option Addr} (h : RepX K T e cls d) : RepX K T' e cls d := by
  obtain ⟨h1, dd, fv, h2, h3, h4⟩ := h
  exact ⟨h1, dd, fv, h2, x _ _ h3, h4.mono x⟩
/-! ### the judgements -/
structure Jx (ρ : Rsc) where
  X : Cx
  W : WX
  B : Bs ρ
  x : Exn → Dl → ρ.R → Prop
structure Jx.Ok {ρ : Rsc} (J : Jx ρ) : Prop where
  calm : J.X.calm = true
  nd : J.X.N.Nodup
  tk : Takes J.X J.W
  xok : ∀ ex Δ r, J.x ex Δ r → ∀ T H σ cls d, Cov J.X.K ρ J.B T H σ Δ r → RepX J.X.K T ex cls d → J.W cls d σ H
abbrev Jx.Cv {ρ : Rsc} (J : Jx ρ) (T H : Hp) (σ : L2.St) (Δ : Dl) (r : ρ.R) : Prop := Cov J.X.K ρ J.B T H σ Δ r
def tD {ρ : Rsc} (J : Jx ρ) (Δ : Dl) (r : ρ.R) (q : D → ρ.R → Prop) : TE := fun σ H Q =>
  ∃ T, J.Cv T H σ Δ r ∧ ∀ d r', q d r' → ∀ T' H' v, Ext T T' → J.Cv T' H' σ Δ r' → Rep J.X.K T' d v → Q v H'
def tDT {ρ : Rsc} (J : Jx ρ) (Δ : Dl) (r : ρ.R) (q : Bool → ρ.R → Prop) : TT := fun σ H Q =>
  ∃ T, J.Cv T H σ Δ r ∧ ∀ b r', q b r' → ∀ T' H', Ext T T' → J.Cv T' H' σ Δ r' → Q b H'
def tDA {ρ : Rsc} (J : Jx ρ) (Δ : Dl) (r : ρ.R) (q : List D → ρ.R → Prop) : TA := fun σ H Q =>
  ∃ T, J.Cv T H σ Δ r ∧ ∀ ds r', q ds r' → ∀ T' H' vs, Ext T T' → J.Cv T' H' σ Δ r' → Reps J.X.K T' ds vs → Q vs H'
structure Post (R : Type) where
  nx : Dl → R → Prop
  rt : D → R → Prop
  bk : Dl → R → Prop := fun _ _ => False
  ct : Dl → R → Prop := fun _ _ => False
def tDS {ρ : Rsc} (J : Jx ρ) (Δ : Dl) (r : ρ.R) (P : Post ρ.R) : TS := fun D σ H =>
  ∃ T, J.Cv T H σ Δ r ∧
    (∀ Δ' r', P.nx Δ' r' → ∀ T' H' σ', Ext T T' → J.Cv T' H' σ' Δ' r' → D.nx σ' H') ∧
    (∀ d r', P.rt d r' → ∀ T' H' v, Ext T T' → Aft J.X.K ρ J.B T' H' r' → Rep J.X.K T' d v → D.rt v H') ∧
    (∀ Δ' r', P.bk Δ' r' → ∀ T' H' σ', Ext T T' → J.Cv T' H' σ' Δ' r' → D.bk σ' H') ∧
    (∀ Δ' r', P.ct Δ' r' → ∀ T' H' σ', Ext T T' → J.Cv T' H' σ' Δ' r' → D.ct σ' H')
def HE {ρ : Rsc} (J : Jx ρ) (e : Expr) (Δ : Dl) (r : ρ.R) (q : D → ρ.R → Prop) : Prop := ∀ σ H Q, tD J Δ r q σ H Q → wpE J.X e σ H Q
def HT {ρ : Rsc} (J : Jx ρ) (e : Expr) (Δ : Dl) (r : ρ.R) (q : Bool → ρ.R → Prop) : Prop := ∀ σ H Q, tDT J Δ r q σ H Q → wpT J.X e σ H Q
def HW {ρ : Rsc} (J : Jx ρ) (e : Expr) (Δ : Dl) (r : ρ.R) (q : Bool → ρ.R → Prop) : Prop := ∀ σ H Q, tDT J Δ r q σ H Q → wpW J.X e σ H Q
def HA {ρ : Rsc} (J : Jx ρ) (es : List Expr) (Δ : Dl) (r : ρ.R) (q : List D → ρ.R → Prop) : Prop := ∀ σ H Q, tDA J Δ r q σ H Q → wpA J.X es σ H Q
def HS {ρ : Rsc} (J : Jx ρ) (st : Stmt) (Δ : Dl) (r : ρ.R) (P : Post ρ.R) : Prop := ∀ D σ H, tDS J Δ r P D σ H → wpS J.X st D σ H
def HSs {ρ : Rsc} (J : Jx ρ) (st : List Stmt) (Δ : Dl) (r : ρ.R) (P : Post ρ.R) : Prop := ∀ D σ H, tDS J Δ r P D σ H → wpSs J.X st D σ H
/-! ### growth by a frozen object -/
inductive Gro : Hp → Hp → Hp → Hp → Prop where
  | same {T H : Hp} : Gro T H T H
  | new {T H : Hp} {p : Addr} {o : HO} (h : H p = none) : Gro T H (upd T p o) (upd H p o)
theorem Cov.gro {K : PySem.W.Frag} {ρ : Rsc} {B : Bs ρ} {T H T' H' : Hp} {σ : L2.St} {Δ : Dl} {r : ρ.R} (C : Cov K ρ B T H σ Δ r) (g : Gro T H T' H') : Ext T T' ∧ Cov K ρ B T' H' σ Δ r := by
  cases g with
  | same => exact ⟨Ext.refl _, C⟩
  | new h => exact ⟨Ext.new (C.sub.back h), C.alloc h⟩
/-- an operation on data -/
def OpD (K : PySem.W.Frag) (rr : R2) (d1 d2 d : D) : Prop :=
  ∀ T H v1 v2 (Q : VK), Ext T H → Rep K T d1 v1 → Rep K T d2 v2 → (∀ v T' H', Gro T H T' H' → Rep K T' d v → Q v H') → rr v1 v2 H Q
def OpD1 (K : PySem.W.Frag) (rr : V → Hp → VK → Prop) (d1 d : D) : Prop :=
  ∀ T H v1 (Q : VK), Ext T H → Rep K T d1 v1 → (∀ v T' H', Gro T H T' H' → Rep K T' d v → Q v H') → rr v1 H Q
def OpDA (K : PySem.W.Frag) (rr : List V → Hp → VK → Prop) (ds : List D) (d : D) : Prop :=
  ∀ T H vs (Q : VK), Ext T H → Reps K T ds vs → (∀ v T' H', Gro T H T' H' → Rep K T' d v → Q v H') → rr vs H Q
section
variable {ρ : Rsc} {J : Jx ρ} {Δ : Dl} {r : ρ.R} {q : D → ρ.R → Prop} {a b c e : Expr} {es : List Expr} {pos : Pos}
/-! ### expressions -/
theorem he_imp {q' : D → ρ.R → Prop} (h : HE J e Δ r q) (hq : ∀ d r', q d r' → q' d r') : HE J e Δ r q' := fun σ H Q ⟨T, C, k⟩ => h σ H Q ⟨T, C, fun d r' h1 => k d r' (hq d r' h1)⟩
theorem he_name {x : Str} {i : Nat} {d : D} (hN : J.X.N[i]? = some x) (hv : Vis J.X.env.scope x) (hi : Δ[i]? = some (some (.val d))) (h : q d r) (hd : (x == ("__debug__" : Str)) = false := by decide) (hcd : (x == ("__classdict__" : Str)) = false := by decide) : HE J (.Name x pos) Δ r q :=
  fun σ H Q ⟨T, C, k⟩ => by
    obtain ⟨v, h1, h2⟩ := C.val i d hi
    exact of_pe (pe_var hN hv hd hcd) ⟨v, h1, k d r h T H v (Ext.refl T) C h2⟩
theorem he_glob {x : Str} {v : V} {u : Value} {d : D} (hg : Gl J.X x) (hm : J.X.mg x = some u) (rv : RelV v u) (hr : ∀ T, Rep J.X.K T d v) (h : q d r) (hd : (x == ("__debug__" : Str)) = false := by decide) : HE J (.Name x pos) Δ r q :=
  fun σ H Q ⟨T, C, k⟩ => of_pe (pe_glob hg hm rv hd) (k d r h T H v (Ext.refl T) C (hr T))
theorem he_int {i : Int} {j : Nat} (h : q (.int i) r) : HE J (.Constant (.int i) j pos) Δ r q := fun σ H Q ⟨T, C, k⟩ => of_pe pe_int (k _ r h T H _ (Ext.refl T) C .int)
theorem he_bl {i : Bool} {j : Nat} (h : q (.bl i) r) : HE J (.Constant (.bool i) j pos) Δ r q := fun σ H Q ⟨T, C, k⟩ => of_pe pe_bl (k _ r h T H _ (Ext.refl T) C .bl)
theorem he_non {j : Nat} (h : q .non r) : HE J (.Constant .none j pos) Δ r q := fun σ H Q ⟨T, C, k⟩ => of_pe pe_non (k _ r h T H _ (Ext.refl T) C .non)
theorem he_str {x : Str} {j : Nat} (h : q (.str x) r) : HE J (.Constant (.str x) j pos) Δ r q := fun σ H Q ⟨T, C, k⟩ => of_pe pe_str (k _ r h T H _ (Ext.refl T) C .str)
/-- two parts, then what is made of them -/
theorem two_parts {rr : R2} (ha : HE J a Δ r fun d1 r1 => HE J b Δ r1 fun d2 r2 => ∃ d, OpD J.X.K rr d1 d2 d ∧ q d r2) {σ : L2.St} {H : Hp} {Q : VK} (t : tD J Δ r q σ H Q) :
    wpE J.X a σ H fun x H1 => wpE J.X b σ H1 fun y H2 => rr x y H2 Q := by
  obtain ⟨T, C, k⟩ := t
  refine ha σ H _ ⟨T, C, fun d1 r1 h1 T1 H1 v1 e1 C1 R1 => h1 σ H1 _ ⟨T1, C1, fun d2 r2 h2 T2 H2 v2 e2 C2 R2 => ?_⟩⟩
  obtain ⟨d, od, hq⟩ := h2
  exact od T2 H2 v1 v2 Q C2.sub (R1.mono e2) R2 fun v T' H' g Rv => let ⟨e3, C3⟩ := C2.gro g; k d r2 hq T' H' v (e1.trans (e2.trans e3)) C3 Rv
theorem he_op {op : Operator} {rr : R2} (ho : OpR J.X (binaryOp op) rr) (ha : HE J a Δ r fun d1 r1 => HE J b Δ r1 fun d2 r2 => ∃ d, OpD J.X.K rr d1 d2 d ∧ q d r2) : HE J (.BinOp a op b pos) Δ r q :=
  fun σ H Q t => of_pe (pe_op ho pe_wp pe_wp) (two_parts ha t)
theorem he_cmp {op : CmpOp} {rr : R2} (ho : OpR J.X (compareOp op) rr) (hm : behindInMarks op b = false) (ha : HE J a Δ r fun d1 r1 => HE J b Δ r1 fun d2 r2 => ∃ d, OpD J.X.K rr d1 d2 d ∧ q d r2) : HE J (.Compare a [op] [b] pos) Δ r q :=
  fun σ H Q t => of_pe (pe_cmpR ho pe_wp pe_wp hm) (two_parts ha t)
theorem he_ix {rr : R2} (ho : IxR J.X rr) (hs : PlainIx b) (ha : HE J a Δ r fun d1 r1 => HE J b Δ r1 fun d2 r2 => ∃ d, OpD J.X.K rr d1 d2 d ∧ q d r2) : HE J (.Subscript a b pos) Δ r q :=
  fun σ H Q t => of_pe (pe_ix ho pe_wp pe_wp hs) (two_parts ha t)
theorem he_un {op : UnaryOp} {rr : V → Hp → VK → Prop} (ho : UnR J.X (unaryOp op) rr) (ha : HE J a Δ r fun d1 r1 => ∃ d, OpD1 J.X.K rr d1 d ∧ q d r1) : HE J (.UnaryOp op a pos) Δ r q := fun σ H Q ⟨T, C, k⟩ => by
  refine of_pe (pe_un ho pe_wp) (ha σ H _ ⟨T, C, fun d1 r1 h1 T1 H1 v1 e1 C1 R1 => ?_⟩)
  obtain ⟨d, od, hq⟩ := h1
  exact od T1 H1 v1 Q C1.sub R1 fun v T' H' g Rv => let ⟨e3, C3⟩ := C1.gro g; k d r1 hq T' H' v (e1.trans e3) C3 Rv
/-! ### argument lists -/
theorem ha_nil {q : List D → ρ.R → Prop} (h : q [] r) : HA J [] Δ r q := fun σ H Q ⟨T, C, k⟩ => of_pa pa_nil (k [] r h T H [] (Ext.refl T) C Reps.nil)
theorem ha_cons {q : List D → ρ.R → Prop} (h : HE J e Δ r fun d r1 => HA J es Δ r1 fun ds r2 => q (d :: ds) r2) (hs : starEach (e :: es) J.X.env = (false, eval e J.X.env) :: starEach es J.X.env) : HA J (e :: es) Δ r q := fun σ H Q ⟨T, C, k⟩ => by
  refine of_pa (pa_cons pe_wp pa_wp hs) (h σ H _ ⟨T, C, fun d1 r1 h1 T1 H1 v1 e1 C1 R1 => h1 σ H1 _ ⟨T1, C1, fun ds r2 h2 T2 H2 vs e2 C2 R2 => ?_⟩⟩)
  exact k _ r2 h2 T2 H2 _ (e1.trans e2) C2 (Reps.cons (R1.mono e2) R2)
theorem he_tup {kk : Nat} (h : HA J es Δ r fun ds r1 => ds.length ≤ sizeLine ∧ q (.tup ds) r1) : HE J (.Tuple es kk pos) Δ r q := fun σ H Q ⟨T, C, k⟩ => by
  refine of_pe (pe_tup pa_wp) (h σ H _ ⟨T, C, fun ds r1 ⟨hl, hq⟩ T1 H1 vs e1 C1 R1 => ⟨by rw [R1.length]; exact hl, fun p hp => ?_⟩⟩)
  have e2 := Ext.new (o := .tup vs) (C1.sub.back hp)
  exact k _ r1 hq _ _ _ (e1.trans e2) (C1.alloc hp) (.tup (.of upd_same) (R1.mono e2))
theorem he_lst (h : HA J es Δ r fun ds r1 => ds.length ≤ sizeLine ∧ q (.lst ds) r1) : HE J (.List es pos) Δ r q := fun σ H Q ⟨T, C, k⟩ => by
  refine of_pe (pe_lst pa_wp) (h σ H _ ⟨T, C, fun ds r1 ⟨hl, hq⟩ T1 H1 vs e1 C1 R1 => ⟨by rw [R1.length]; exact hl, fun p hp => ?_⟩⟩)
  have e2 := Ext.new (o := .lst vs) (C1.sub.back hp)
  exact k _ r1 hq _ _ _ (e1.trans e2) (C1.alloc hp) (.lst upd_same (R1.mono e2))
/-! ### built-ins by values -/
theorem args_op {rr : List V → Hp → VK → Prop} (h : HA J es Δ r fun ds r1 => ∃ d, OpDA J.X.K rr ds d ∧ q d r1) {σ : L2.St} {H : Hp} {Q : VK} (t : tD J Δ r q σ H Q) : wpA J.X es σ H fun vs H1 => rr vs H1 Q := by
  obtain ⟨T, C, k⟩ := t
  refine h σ H _ ⟨T, C, fun ds r1 h1 T1 H1 vs e1 C1 R1 => ?_⟩
  obtain ⟨d, od, hq⟩ := h1
  exact od T1 H1 vs Q C1.sub R1 fun v T' H' g Rv => let ⟨e3, C3⟩ := C1.gro g; k d r1 hq T' H' v (e1.trans e3) C3 Rv
theorem he_callB {x : Str} {id : String} {rr : List V → Hp → VK → Prop} {p : Pos} (hc : CallR J.X (.builtin id) rr) (hg : Gl J.X x) (hm : J.X.mg x = none) (hv : bootBuiltins x = some (.builtin id)) (h : HA J (e :: es) Δ r fun ds r1 => ∃ d, OpDA J.X.K rr ds d ∧ q d r1)
    (he : starEach (e :: es) J.X.env = (false, eval e J.X.env) :: starEach es J.X.env) (hpl : (backTo pos (starEach es J.X.env)).any (·.1) = false) (hn : x ≠ "__name__") (hdb : (x == ("__debug__" : Str)) = false) : HE J (.Call (.Name x p) (e :: es) [] pos) Δ r q :=
  fun σ H Q t => of_pe (pe_callB hc hg hm hv pa_wp hn hdb he hpl) (args_op h t)
theorem he_callTy {x : Str} {ty : String} {rr : List V → Hp → VK → Prop} {p : Pos} (hc : CallR J.X (.type ty) rr) (hg : Gl J.X x) (hm : J.X.mg x = none) (hv : bootBuiltins x = some (.type ty)) (h : HA J (e :: es) Δ r fun ds r1 => ∃ d, OpDA J.X.K rr ds d ∧ q d r1)
    (he : starEach (e :: es) J.X.env = (false, eval e J.X.env) :: starEach es J.X.env) (hpl : (backTo pos (starEach es J.X.env)).any (·.1) = false) (hn : x ≠ "__name__") (hdb : (x == ("__debug__" : Str)) = false) : HE J (.Call (.Name x p) (e :: es) [] pos) Δ r q :=
  fun σ H Q t => of_pe (pe_callTy hc hg hm hv pa_wp hn hdb he hpl) (args_op h t)
end
end FD
set_option Elab.async false
set_option linter.all false
set_option maxRecDepth 100000
set_option maxHeartbeats 4000000
namespace FD
open PySem PySem.Spec PyProof.Rows L2
section
variable {ρ : Rsc} {J : Jx ρ} {Δ : Dl} {r : ρ.R} {q : D → ρ.R → Prop} {qb : Bool → ρ.R → Prop} {a b c e : Expr} {es rest : List Expr} {pos : Pos}
/-! ### tests -/
theorem ht_cmp {op : CmpOp} {rr : R2} (ho : OpR J.X (compareOp op) rr) (hm : behindInMarks op b = false) (ha : HE J a Δ r fun d1 r1 => HE J b Δ r1 fun d2 r2 => ∃ k, OpD J.X.K rr d1 d2 (.bl k) ∧ qb k r2) : HT J (.Compare a [op] [b] pos) Δ r qb := fun σ H Q ⟨T, C, k⟩ => by
  refine of_pt (pt_cmpR ho pe_wp pe_wp hm) ?_
  refine two_parts (q := fun d r' => ∃ k, d = .bl k ∧ qb k r') (he_imp ha fun d1 r1 h => he_imp h fun d2 r2 ⟨k, h1, h2⟩ => ⟨_, h1, k, rfl, h2⟩) ⟨T, C, fun d r' ⟨b, h1, h2⟩ T' H' v e1 C1 R1 => ?_⟩
  subst h1
  exact ⟨b, rep_bl R1, k b r' h2 T' H' e1 C1⟩
theorem ht_chain {op op' : CmpOp} {rr rr' : R2} (ho : OpR J.X (compareOp op) rr) (ho' : OpR J.X (compareOp op') rr')
    (ha : HE J a Δ r fun d1 r1 => HE J b Δ r1 fun d2 r2 => ∃ k, OpD J.X.K rr d1 d2 (.bl k) ∧ (k = true → HE J c Δ r2 fun d3 r3 => ∃ k', OpD J.X.K rr' d2 d3 (.bl k') ∧ qb k' r3) ∧ (k = false → qb false r2))
    (hm : lastMarks [op, op'] [b, c] = false) : HT J (.Compare a [op, op'] [b, c] pos) Δ r qb := fun σ H Q ⟨T, C, k⟩ => by
  refine of_pt (pt_chain ho ho' pe_wp pe_wp pe_wp hm) ?_
  refine ha σ H _ ⟨T, C, fun d1 r1 h1 T1 H1 v1 e1 C1 R1 => h1 σ H1 _ ⟨T1, C1, fun d2 r2 h2 T2 H2 v2 e2 C2 R2 => ?_⟩⟩
  obtain ⟨k1, od, ht, hf⟩ := h2
  refine od T2 H2 v1 v2 _ C2.sub (R1.mono e2) R2 fun v T3 H3 g Rv => ?_
  obtain ⟨e3, C3⟩ := C2.gro g
  refine ⟨k1, rep_bl Rv, ?_⟩
  cases k1 with
  | true =>
    refine iteT (ht rfl σ H3 _ ⟨T3, C3, fun d3 r3 h3 T4 H4 v4 e4 C4 R4 => ?_⟩)
    obtain ⟨k2, od2, h4⟩ := h3
    refine od2 T4 H4 v2 v4 _ C4.sub (R2.mono (e3.trans e4)) R4 fun w T5 H5 g5 Rw => ?_
    obtain ⟨e5, C5⟩ := C4.gro g5
    exact ⟨k2, rep_bl Rw, k k2 r3 h4 T5 H5 (e1.trans (e2.trans (e3.trans (e4.trans e5)))) C5⟩
  | false => exact iteF ⟨false, rfl, k false r2 (hf rfl) T3 H3 (e1.trans (e2.trans e3)) C3⟩
theorem ht_val (h : HE J e Δ r fun d r1 => ∃ k, d = .bl k ∧ qb k r1) (he : ∀ whole, isTrue e J.X.env whole = (do let v ← whole; standAt e.pos; holding [v] (truthy v)) := by intro _; rfl) : HT J e Δ r qb := fun σ H Q ⟨T, C, k⟩ => by
  refine of_pt (pt_val pe_wp he) (h σ H _ ⟨T, C, fun d r1 ⟨b, h1, h2⟩ T1 H1 v e1 C1 R1 => ?_⟩)
  subst h1
  exact ⟨b, rep_bl R1, k b r1 h2 T1 H1 e1 C1⟩
/-- a datum's truth -/
def truD : D → Option Bool
  | .non => some false
  | .bl b => some b
  | .int i => some (i != 0)
  | .str x => if x.length ≤ sizeLine then some ((x.length : Int) != 0) else none
  | .tup l => some !l.isEmpty
  | .lst l => some !l.isEmpty
  | _ => none
theorem empty_reps {K : PySem.W.Frag} {T : Hp} {l : List D} {xs : List V} (h : Reps K T l xs) : xs.isEmpty = l.isEmpty := by
  cases l with
  | nil => simp only [Reps] at h; rw [h]; rfl
  | cons d l => simp only [Reps] at h; obtain ⟨v, r, h1, _⟩ := h; rw [h1]; rfl
theorem rd_up {T H : Hp} (s : Ext T H) {a : Addr} {u : HO} (h : Rd T a u) : Rd H a u := s.rd h
theorem tru_of {K : PySem.W.Frag} {T H : Hp} {d : D} {v : V} {k : Bool} (s : Ext T H) (h : Rep K T d v) (ht : truD d = some k) : TruV K v H k := by
  cases d with
  | non => rw [rep_non h]; exact (Option.some.inj ht).symm
  | bl b => rw [rep_bl h]; exact (Option.some.inj ht).symm
  | int i => rw [rep_int h]; exact (Option.some.inj ht).symm
  | str x =>
    rw [rep_str h]
    simp only [truD] at ht
    by_cases hl : x.length ≤ sizeLine
    · rw [if_pos hl] at ht; exact ⟨hl, (Option.some.inj ht).symm⟩
    · rw [if_neg hl] at ht; cases ht
  | ty _ => cases ht
  | ref _ => cases ht
  | rol _ => cases ht
  | tup l =>
    obtain ⟨a, xs, rfl, h2, h3⟩ := rep_tup h
    exact .inr (.inl ⟨xs, s.st h2, by rw [empty_reps h3]; exact (Option.some.inj ht).symm⟩)
  | lst l =>
    obtain ⟨a, xs, rfl, h2, h3⟩ := rep_lst h
    exact .inl ⟨xs, .of (s _ _ h2), by rw [empty_reps h3]; exact (Option.some.inj ht).symm⟩
theorem ht_truth (h : HE J e Δ r fun d r1 => ∃ k, truD d = some k ∧ qb k r1) (he : ∀ whole, isTrue e J.X.env whole = (do let v ← whole; standAt e.pos; holding [v] (truthy v)) := by intro _; rfl) : HT J e Δ r qb := fun σ H Q ⟨T, C, k⟩ => by
  refine of_pt (pt_truth pe_wp he) (h σ H _ ⟨T, C, fun d r1 ⟨b, h1, h2⟩ T1 H1 v e1 C1 R1 => ?_⟩)
  exact ⟨b, tru_of C1.sub R1 h1, k b r1 h2 T1 H1 e1 C1⟩
/-- the truth of an own list -/
theorem ht_own {x : Str} {i : Nat} {l : List D} (hN : J.X.N[i]? = some x) (hv : Vis J.X.env.scope x) (hi : Δ[i]? = some (some (.own l))) (h : qb (!l.isEmpty) r) (hd : (x == ("__debug__" : Str)) = false := by decide) (hcd : (x == ("__classdict__" : Str)) = false := by decide) : HT J (.Name x pos) Δ r qb := fun σ H Q ⟨T, C, k⟩ => by
  obtain ⟨p, xs, h1, h2, h3, h4, h5, h6⟩ := C.own i l hi
  refine of_pt (pt_truth (pe_var hN hv hd hcd) (fun _ => rfl)) ⟨.ref p, h1, _, .inl ⟨xs, .of h2, rfl⟩, ?_⟩
  rw [empty_reps h3]
  exact k _ r h T H (Ext.refl T) C
theorem ht_not (h : HT J a Δ r fun k r1 => qb (!k) r1) : HT J (.UnaryOp .Not a pos) Δ r qb := fun σ H Q ⟨T, C, k⟩ =>
  of_pt (pt_not pt_wp) (h σ H _ ⟨T, C, fun b r1 h1 T1 H1 e1 C1 => k (!b) r1 h1 T1 H1 e1 C1⟩)
theorem ht_of_w (h : HW J e Δ r qb) : HT J e Δ r qb := fun σ H Q t => of_pt pw_wp.pt (h σ H Q t)
theorem hw_and1 (h : HT J a Δ r qb) : HW J (.BoolOp .And [a] pos) Δ r qb := fun σ H Q t => of_pw (pw_and1 pt_wp) (h σ H Q t)
theorem hw_or1 (h : HT J a Δ r qb) : HW J (.BoolOp .Or [a] pos) Δ r qb := fun σ H Q t => of_pw (pw_or1 pt_wp) (h σ H Q t)
theorem hw_and (h : HT J a Δ r fun k r1 => (k = true → HW J (.BoolOp .And (b :: rest) pos) Δ r1 qb) ∧ (k = false → qb false r1)) : HW J (.BoolOp .And (a :: b :: rest) pos) Δ r qb := fun σ H Q ⟨T, C, k⟩ => by
  refine of_pw (pw_and pt_wp pw_wp) (h σ H _ ⟨T, C, fun c r1 ⟨h1, h2⟩ T1 H1 e1 C1 => ?_⟩)
  cases c with
  | true => exact iteT (h1 rfl σ H1 Q ⟨T1, C1, fun b r' hb T' H' e' C' => k b r' hb T' H' (e1.trans e') C'⟩)
  | false => exact iteF (k false r1 (h2 rfl) T1 H1 e1 C1)
theorem hw_or (h : HT J a Δ r fun k r1 => (k = false → HW J (.BoolOp .Or (b :: rest) pos) Δ r1 qb) ∧ (k = true → qb true r1)) : HW J (.BoolOp .Or (a :: b :: rest) pos) Δ r qb := fun σ H Q ⟨T, C, k⟩ => by
  refine of_pw (pw_or pt_wp pw_wp) (h σ H _ ⟨T, C, fun c r1 ⟨h1, h2⟩ T1 H1 e1 C1 => ?_⟩)
  cases c with
  | false => exact iteF (h1 rfl σ H1 Q ⟨T1, C1, fun b r' hb T' H' e' C' => k b r' hb T' H' (e1.trans e') C'⟩)
  | true => exact iteT (k true r1 (h2 rfl) T1 H1 e1 C1)
/-! ### and, or, not, if .. else as values -/
theorem he_andB (h : HE J a Δ r fun d r1 => ∃ k, d = .bl k ∧ (k = true → HE J (.BoolOp .And (b :: rest) pos) Δ r1 q) ∧ (k = false → q (.bl false) r1)) : HE J (.BoolOp .And (a :: b :: rest) pos) Δ r q := fun σ H Q ⟨T, C, k⟩ => by
  refine of_pe (pe_and pe_wp pe_wp) (h σ H _ ⟨T, C, fun d r1 ⟨c, hd, h1, h2⟩ T1 H1 v e1 C1 R1 => ?_⟩)
  subst hd
  refine ⟨c, rep_bl R1, ?_⟩
  cases c with
  | true => exact iteT (h1 rfl σ H1 Q ⟨T1, C1, fun d r' hb T' H' v e' C' => k d r' hb T' H' v (e1.trans e') C'⟩)
  | false => exact iteF (k _ r1 (h2 rfl) T1 H1 _ e1 C1 .bl)
theorem he_orB (h : HE J a Δ r fun d r1 => ∃ k, d = .bl k ∧ (k = false → HE J (.BoolOp .Or (b :: rest) pos) Δ r1 q) ∧ (k = true → q (.bl true) r1)) : HE J (.BoolOp .Or (a :: b :: rest) pos) Δ r q := fun σ H Q ⟨T, C, k⟩ => by
  refine of_pe (pe_or pe_wp pe_wp) (h σ H _ ⟨T, C, fun d r1 ⟨c, hd, h1, h2⟩ T1 H1 v e1 C1 R1 => ?_⟩)
  subst hd
  refine ⟨c, rep_bl R1, ?_⟩
  cases c with
  | false => exact iteF (h1 rfl σ H1 Q ⟨T1, C1, fun d r' hb T' H' v e' C' => k d r' hb T' H' v (e1.trans e') C'⟩)
  | true => exact iteT (k _ r1 (h2 rfl) T1 H1 _ e1 C1 .bl)
theorem he_bop1 {op : BoolOp} (h : HE J a Δ r q) : HE J (.BoolOp op [a] pos) Δ r q := fun σ H Q t => of_pe (pe_one pe_wp) (h σ H Q t)
theorem he_notB (h : HE J a Δ r fun d r1 => ∃ k, d = .bl k ∧ q (.bl (!k)) r1) : HE J (.UnaryOp .Not a pos) Δ r q := fun σ H Q ⟨T, C, k⟩ => by
  refine of_pe (pe_not pe_wp) (h σ H _ ⟨T, C, fun d r1 ⟨c, hd, h1⟩ T1 H1 v e1 C1 R1 => ?_⟩)
  subst hd
  exact ⟨c, rep_bl R1, k _ r1 h1 T1 H1 _ e1 C1 .bl⟩
theorem he_if (h : HT J c Δ r fun k r1 => (k = true → HE J a Δ r1 q) ∧ (k = false → HE J b Δ r1 q)) : HE J (.IfExp c a b pos) Δ r q := fun σ H Q ⟨T, C, k⟩ => by
  refine of_pe (pe_ifExp pt_wp pe_wp pe_wp) (h σ H _ ⟨T, C, fun c r1 ⟨h1, h2⟩ T1 H1 e1 C1 => ?_⟩)
  cases c with
  | true => exact iteT (h1 rfl σ H1 Q ⟨T1, C1, fun d r' hb T' H' v e' C' => k d r' hb T' H' v (e1.trans e') C'⟩)
  | false => exact iteF (h2 rfl σ H1 Q ⟨T1, C1, fun d r' hb T' H' v e' C' => k d r' hb T' H' v (e1.trans e') C'⟩)
end
/-! ### defs -/
abbrev Spec (R : Type) := List D → R → (D → R → Prop) → (Exn → R → Prop) → Prop
/-- the promise of a def on data -/
def spD (K : PySem.W.Frag) (ρ : Rsc) (n : Nat) (F : Spec ρ.R) : Sp := fun vs H Q E =>
  ∃ T ds r q x, ds.length = n ∧ Aft K ρ ⟨T, H, r⟩ T H r ∧ Reps K T ds vs ∧ F ds r q x ∧
    (∀ d r', q d r' → ∀ T' H' v, Aft K ρ ⟨T, H, r⟩ T' H' r' → Rep K T' d v → Q v H') ∧
    (∀ ex r', x ex r' → ∀ T' H' cls d, Aft K ρ ⟨T, H, r⟩ T' H' r' → RepX K T' ex cls d → E cls d H')
section
variable {ρ : Rsc} {J : Jx ρ} {Δ : Dl} {r : ρ.R} {q : D → ρ.R → Prop} {a b c e : Expr} {es rest : List Expr} {pos : Pos}
/-- f(e, ..), a def of the text -/
theorem he_call {x : Str} {k n : Nat} {f : Addr} {fd : FuncData} {ps : List Str} {F : Spec ρ.R} {p : Pos} (ok : J.Ok) (Fk : FnOk J.X.prog J.X.w J.X.K J.X.mg J.X.base (L2.CX J.X.prog J.X.w) k f fd ps (spD J.X.K ρ n F)) (hr : Room k J.X.A) (hg : Gl J.X x) (hm : J.X.mg x = some (.ref f)) (hk : PySem.W.keepIn J.X.K (.ref f) = true) (hb : Binds J.X.K fd ps [])
    (h : HA J (e :: es) Δ r fun ds r1 => ds.length = n ∧ F ds r1 q (fun ex r2 => J.x ex Δ r2)) (hdb : (x == ("__debug__" : Str)) = false)
    (he : starEach (e :: es) J.X.env = (false, eval e J.X.env) :: starEach es J.X.env) (hpl : (backTo pos (starEach es J.X.env)).any (·.1) = false) : HE J (.Call (.Name x p) (e :: es) [] pos) Δ r q := fun σ H Q ⟨T, C, k'⟩ => by
  refine of_pe (pe_callS Fk hr hg hm hk hb (fun σ => passAt ok.tk σ) pa_wp hdb he hpl) ?_
  show wpA J.X (e :: es) σ H fun vs H1 => spD J.X.K ρ n F vs H1 Q (WE J.W σ)
  refine h σ H _ ⟨T, C, fun ds r1 ⟨hl, hF⟩ T1 H1 vs e1 C1 R1 => ⟨T1, ds, r1, q, _, hl, C1.toAft.self, R1, hF, fun d r2 hq T2 H2 v A2 R2 => ?_, fun ex r2 hx T2 H2 cls d A2 R2 => ?_⟩⟩
  · exact k' d r2 hq T2 H2 v (e1.trans A2.ext) (C1.after A2) R2
  · exact ok.xok ex Δ r2 hx T2 H2 σ cls d (C1.after A2) R2
/-- f(a, .., k = b, ..) -/
theorem he_callK {x : Str} {k n : Nat} {f : Addr} {fd : FuncData} {ps ks : List Str} {kws : List Keyword} {g : List Value → List Value → List Value} {gV : List V → List V → List V} {gD : List D → List D → List D} {F : Spec ρ.R} {p : Pos} (ok : J.Ok)
    (pek : ∀ {t tk : TA}, PA J.X es t → PK J.X kws tk → PE J.X (.Call (.Name x p) es kws pos) (fun σ H Q => t σ H fun vs H1 => tk σ H1 fun zs H2 => spD J.X.K ρ n F (gV vs zs) H2 Q (WE J.W σ)))
    (hpk : PK J.X kws (wpA J.X (kws.map (·.value))))
    (hgV : ∀ T ds zs vs ws, Reps J.X.K T ds vs → Reps J.X.K T zs ws → Reps J.X.K T (gD ds zs) (gV vs ws))
    (h : HA J es Δ r fun ds r1 => HA J (kws.map (·.value)) Δ r1 fun zs r2 => (gD ds zs).length = n ∧ F (gD ds zs) r2 q (fun ex r2 => J.x ex Δ r2)) : HE J (.Call (.Name x p) es kws pos) Δ r q := fun σ H Q ⟨T, C, k'⟩ => by
  refine of_pe (pek pa_wp hpk) ?_
  refine h σ H _ ⟨T, C, fun ds r1 h1 T1 H1 vs e1 C1 R1 => h1 σ H1 _ ⟨T1, C1, fun zs r2 ⟨hl, hF⟩ T2 H2 ws e2 C2 R2 => ?_⟩⟩
  refine ⟨T2, gD ds zs, r2, q, _, hl, C2.toAft.self, hgV _ _ _ _ _ (R1.mono e2) R2, hF, fun d r3 hq T3 H3 v A3 R3 => ?_, fun ex r3 hx T3 H3 cls d A3 R3 => ?_⟩
  · exact k' d r3 hq T3 H3 v (e1.trans (e2.trans A3.ext)) (C2.after A3) R3
  · exact ok.xok ex Δ r3 hx T3 H3 σ cls d (C2.after A3) R3
/-! ### statements -/
variable {st : Stmt} {sts : List Stmt} {P P' : Post ρ.R}
theorem hss_nil (h : P.nx Δ r) : HSs J [] Δ r P := fun D σ H ⟨T, C, k, _⟩ => of_pss pss_nil (k Δ r h T H σ (Ext.refl T) C)
theorem hss_cons (h : HS J st Δ r { P with nx := fun Δ' r' => HSs J sts Δ' r' P }) : HSs J (st :: sts) Δ r P := fun D σ H ⟨T, C, k1, k2, k3, k4⟩ => by
  refine of_pss (pss_cons ps_wp pss_wp) ?_
  show wpS J.X st { D with nx := wpSs J.X sts D } σ H
  exact h _ σ H ⟨T, C, fun Δ' r' hs T' H' σ' e1 C1 => hs D σ' H' ⟨T', C1, fun Δ2 r2 h2 T2 H2 σ2 e2 C2 => k1 Δ2 r2 h2 T2 H2 σ2 (e1.trans e2) C2, fun d r2 h2 T2 H2 v e2 A2 => k2 d r2 h2 T2 H2 v (e1.trans e2) A2,
    fun Δ2 r2 h2 T2 H2 σ2 e2 C2 => k3 Δ2 r2 h2 T2 H2 σ2 (e1.trans e2) C2, fun Δ2 r2 h2 T2 H2 σ2 e2 C2 => k4 Δ2 r2 h2 T2 H2 σ2 (e1.trans e2) C2⟩, k2, k3, k4⟩
theorem hss_one (h : HS J st Δ r P) : HSs J [st] Δ r P := fun D σ H t => of_pss (pss_one ps_wp) (h D σ H t)
theorem hss_imp (h : HSs J sts Δ r P) (h1 : ∀ Δ' r', P.nx Δ' r' → P'.nx Δ' r') (h2 : ∀ d r', P.rt d r' → P'.rt d r') (h3 : ∀ Δ' r', P.bk Δ' r' → P'.bk Δ' r') (h4 : ∀ Δ' r', P.ct Δ' r' → P'.ct Δ' r') : HSs J sts Δ r P' :=
  fun D σ H ⟨T, C, k1, k2, k3, k4⟩ => h D σ H ⟨T, C, fun a b c => k1 a b (h1 a b c), fun a b c => k2 a b (h2 a b c), fun a b c => k3 a b (h3 a b c), fun a b c => k4 a b (h4 a b c)⟩
/-- an own list of a slot becomes data -/
theorem hss_freeze {l : List D} (i : Nat) (hi : Δ[i]? = some (some (.own l))) (h : HSs J sts (Δ.set i (some (.val (.lst l)))) r P) : HSs J sts Δ r P := fun D σ H ⟨T, C, k1, k2, k3, k4⟩ => by
  obtain ⟨T', e1, C1⟩ := C.freeze hi
  exact h D σ H ⟨T', C1, fun a b c T2 H2 s2 e2 => k1 a b c T2 H2 s2 (e1.trans e2), fun a b c T2 H2 s2 e2 => k2 a b c T2 H2 s2 (e1.trans e2), fun a b c T2 H2 s2 e2 => k3 a b c T2 H2 s2 (e1.trans e2), fun a b c T2 H2 s2 e2 => k4 a b c T2 H2 s2 (e1.trans e2)⟩
theorem hs_set {i : Nat} {x : Str} {pos' : Pos} (ok : J.Ok) (hi : J.X.N[i]? = some x) (hx : Loc J.X.env.scope x) (h : HE J e Δ r fun d r1 => P.nx (Δ.set i (some (.val d))) r1)
    (hs : swapsWith e (some (.Name x pos')) pos.line J.X.env = pure false) (hf : J.X.fn x = true ∨ J.X.env.scope.names.lookup x = some .local) : HS J (.Assign [.Name x pos'] e pos) Δ r P := fun D σ H ⟨T, C, k1, _⟩ =>
  of_ps (ps_set ok.nd hi hx pe_wp hs hf) (h σ H _ ⟨T, C, fun d r1 h1 T1 H1 v e1 C1 R1 => k1 _ r1 h1 T1 H1 _ e1 (C1.setVal R1)⟩)
theorem hs_ret (h : HE J e Δ r P.rt) : HS J (.Return (some e) pos) Δ r P := fun D σ H ⟨T, C, _, k2, _⟩ => of_ps (ps_ret pe_wp) (h σ H _ ⟨T, C, fun d r1 h1 T1 H1 v e1 C1 R1 => k2 d r1 h1 T1 H1 v e1 C1.toAft R1⟩)
theorem hs_expr (h : HE J e Δ r fun _ r1 => P.nx Δ r1) (hs : swapsWith e none pos.line J.X.env = pure false) : HS J (.Expr e pos) Δ r P := fun D σ H ⟨T, C, k1, _⟩ => of_ps (ps_expr pe_wp hs) (h σ H _ ⟨T, C, fun d r1 h1 T1 H1 v e1 C1 R1 => k1 _ r1 h1 T1 H1 σ e1 C1⟩)
theorem hs_pass (h : P.nx Δ r) : HS J (.Pass pos) Δ r P := fun D σ H ⟨T, C, k1, _⟩ => of_ps ps_pass (k1 Δ r h T H σ (Ext.refl T) C)
theorem hs_break (h : P.bk Δ r) : HS J (.Break pos) Δ r P := fun D σ H ⟨T, C, _, _, k3, _⟩ => of_ps ps_break (k3 Δ r h T H σ (Ext.refl T) C)
theorem hs_continue (h : P.ct Δ r) : HS J (.Continue pos) Δ r P := fun D σ H ⟨T, C, _, _, _, k4⟩ => of_ps ps_continue (k4 Δ r h T H σ (Ext.refl T) C)
theorem tDS_after {D : Ends} {T T1 H1 : Hp} {σ1 : L2.St} {Δ1 : Dl} {r1 : ρ.R} (e1 : Ext T T1) (C1 : J.Cv T1 H1 σ1 Δ1 r1)
    (k : (∀ Δ' r', P.nx Δ' r' → ∀ T' H' σ', Ext T T' → J.Cv T' H' σ' Δ' r' → D.nx σ' H') ∧ (∀ d r', P.rt d r' → ∀ T' H' v, Ext T T' → Aft J.X.K ρ J.B T' H' r' → Rep J.X.K T' d v → D.rt v H') ∧
      (∀ Δ' r', P.bk Δ' r' → ∀ T' H' σ', Ext T T' → J.Cv T' H' σ' Δ' r' → D.bk σ' H') ∧ (∀ Δ' r', P.ct Δ' r' → ∀ T' H' σ', Ext T T' → J.Cv T' H' σ' Δ' r' → D.ct σ' H')) : tDS J Δ1 r1 P D σ1 H1 :=
  ⟨T1, C1, fun Δ2 r2 h2 T2 H2 σ2 e2 C2 => k.1 Δ2 r2 h2 T2 H2 σ2 (e1.trans e2) C2, fun d r2 h2 T2 H2 v e2 A2 => k.2.1 d r2 h2 T2 H2 v (e1.trans e2) A2, fun Δ2 r2 h2 T2 H2 σ2 e2 C2 => k.2.2.1 Δ2 r2 h2 T2 H2 σ2 (e1.trans e2) C2, fun Δ2 r2 h2 T2 H2 σ2 e2 C2 => k.2.2.2 Δ2 r2 h2 T2 H2 σ2 (e1.trans e2) C2⟩
theorem hs_if {A B : List Stmt} (h : HT J c Δ r fun k r1 => (k = true → HSs J A Δ r1 P) ∧ (k = false → HSs J B Δ r1 P)) : HS J (.If c A B pos) Δ r P := fun D σ H ⟨T, C, k⟩ => by
  refine of_ps (ps_if pt_wp pss_wp pss_wp) (h σ H _ ⟨T, C, fun c r1 ⟨h1, h2⟩ T1 H1 e1 C1 => ?_⟩)
  cases c with
  | true => exact iteT (h1 rfl D σ H1 (tDS_after e1 C1 k))
  | false => exact iteF (h2 rfl D σ H1 (tDS_after e1 C1 k))
/-- while: an invariant over data, with a measure -/
theorem hs_while {body : List Stmt} (Iv : Nat → Dl → ρ.R → Prop) (m0 : Nat) (hp : PassesOwn (model J.X.prog J.X.w) J.X.A J.X.env J.X.xe) (h0 : Iv m0 Δ r)
    (hs : ∀ m Δ r, Iv m Δ r → HT J c Δ r fun k r1 => (k = true → HSs J body Δ r1 { P with nx := fun Δ' r' => ∃ m', m' < m ∧ Iv m' Δ' r', ct := fun Δ' r' => ∃ m', m' < m ∧ Iv m' Δ' r', bk := P.nx }) ∧ (k = false → P.nx Δ r1)) :
    HS J (.While c body [] pos) Δ r P := fun D σ H ⟨T, C, k⟩ => by
  refine of_ps (ps_while hp pt_wp pss_wp) ⟨fun m σ' H' => ∃ T' Δ' r', Ext T T' ∧ J.Cv T' H' σ' Δ' r' ∧ Iv m Δ' r', ⟨m0, T, Δ, r, Ext.refl T, C, h0⟩, fun m σ1 H1 ⟨T1, Δ1, r1, e1, C1, i1⟩ => ?_⟩
  refine hs m Δ1 r1 i1 σ1 H1 _ ⟨T1, C1, fun b r2 ⟨h1, h2⟩ T2 H2 e2 C2 => ?_⟩
  cases b with
  | true =>
    refine iteT ⟨fun σ' H' => ∃ m', m' < m ∧ ∃ T' Δ' r', Ext T T' ∧ J.Cv T' H' σ' Δ' r' ∧ Iv m' Δ' r', fun _ _ z => z, ?_⟩
    refine h1 rfl _ σ1 H2 ⟨T2, C2, ?_, ?_, ?_, ?_⟩
    · exact fun Δ3 r3 ⟨m', hm, i3⟩ T3 H3 σ3 e3 C3 => ⟨m', hm, T3, Δ3, r3, e1.trans (e2.trans e3), C3, i3⟩
    · exact fun d r3 h3 T3 H3 v e3 A3 R3 => k.2.1 d r3 h3 T3 H3 v (e1.trans (e2.trans e3)) A3 R3
    · exact fun Δ3 r3 h3 T3 H3 σ3 e3 C3 => k.1 Δ3 r3 h3 T3 H3 σ3 (e1.trans (e2.trans e3)) C3
    · exact fun Δ3 r3 ⟨m', hm, i3⟩ T3 H3 σ3 e3 C3 => ⟨m', hm, T3, Δ3, r3, e1.trans (e2.trans e3), C3, i3⟩
  | false => exact iteF (k.1 Δ1 r2 (h2 rfl) T2 H2 σ1 (e1.trans e2) C2)
end
end FD
set_option Elab.async false
set_option linter.all false
set_option maxRecDepth 100000
set_option maxHeartbeats 4000000
namespace FD
open PySem PySem.Spec PyProof.Rows L2 RZ
def wpG (X : Cx) (tg : Expr) : TG := fun v σ H Q => ∀ pins s u, Inv X pins σ H s → RelV v u → wpAny (model X.prog X.w) X.A (assign tg X.env u) (fun _ s' => ∃ σ' H', Inv X pins σ' H' s' ∧ Q σ' H') X.xe s
theorem pg_wp {X : Cx} {tg : Expr} : PG X tg (wpG X tg) := ⟨fun pins s _ _ _ u _ I r h => h pins s u I r⟩
theorem of_pg {X : Cx} {tg : Expr} {g : TG} (h : PG X tg g) {v : V} {σ : L2.St} {H : Hp} {Q : L2.St → Hp → Prop} (q : g v σ H Q) : wpG X tg v σ H Q := fun pins s u I r => h.run pins s σ H v u Q I r q
/-- a target; vs: the slots that it may touch -/
def HG {ρ : Rsc} (J : Jx ρ) (vs : List Nat) (tg : Expr) (d : D) (Δ : Dl) (r : ρ.R) (q : Dl → Prop) : Prop := ∀ v σ H Q,
  (∃ T, J.Cv T H σ Δ r ∧ Rep J.X.K T d v ∧ ∀ Δ', q Δ' → ∀ T' σ', Ext T T' → wipe σ' vs = wipe σ vs → J.Cv T' H σ' Δ' r → Q σ' H) → wpG J.X tg v σ H Q
theorem wipe_set {σ : L2.St} {i : Nat} {w : Option V} : ∀ {vs : List Nat}, i ∈ vs → wipe (σ.set i w) vs = wipe σ vs
  | [], h => by simp at h
  | v :: vs, h => by
    show (wipe (σ.set i w) vs).set v none = (wipe σ vs).set v none
    by_cases e : i ∈ vs
    · rw [wipe_set e]
    · have e2 : i = v := (List.mem_cons.mp h).resolve_right e
      subst e2
      have key : ∀ (l : List Nat), (wipe (σ.set i w) l).set i none = (wipe σ l).set i none := by
        intro l
        induction l with
        | nil => show (σ.set i w).set i none = σ.set i none; rw [List.set_set]
        | cons z l ih =>
          show ((wipe (σ.set i w) l).set z none).set i none = ((wipe σ l).set z none).set i none
          by_cases hz : z = i
          · subst hz; rw [List.set_set, List.set_set]; exact ih
          · rw [List.set_comm _ _ hz, List.set_comm _ _ hz, ih]
      exact key vs
section
variable {ρ : Rsc} {J : Jx ρ} {Δ : Dl} {r : ρ.R} {q : D → ρ.R → Prop} {a b c e : Expr} {es rest : List Expr} {pos : Pos} {vs : List Nat}
theorem hg_name {x : Str} {i : Nat} {d : D} {q : Dl → Prop} (ok : J.Ok) (hi : J.X.N[i]? = some x) (hx : Loc J.X.env.scope x) (hv : i ∈ vs) (h : q (Δ.set i (some (.val d)))) (hf : J.X.fn x = true ∨ J.X.env.scope.names.lookup x = some .local) : HG J vs (.Name x pos) d Δ r q :=
  fun v σ H Q ⟨T, C, R, k⟩ => of_pg (pg_name ok.nd hi hx hf) (k _ h T _ (Ext.refl T) (wipe_set hv) (C.setVal R))
/-- several targets for the items of a tuple -/
def HGs {ρ : Rsc} (J : Jx ρ) (vs : List Nat) (ts : List Expr) (ds : List D) (Δ : Dl) (r : ρ.R) (q : Dl → Prop) : Prop := ∀ (xs : List V) (σ : L2.St) (H : Hp) (Q : L2.St → Hp → Prop),
  (∃ T, J.Cv T H σ Δ r ∧ Reps J.X.K T ds xs ∧ ∀ Δ', q Δ' → ∀ T' σ', Ext T T' → wipe σ' vs = wipe σ vs → J.Cv T' H σ' Δ' r → Q σ' H) →
  ∀ pins s us, Inv J.X pins σ H s → Vals xs us → wpAny (model J.X.prog J.X.w) J.X.A (assignInOrder ((assignEach ts J.X.env).map (·.2)) us) (fun _ s' => ∃ σ' H', Inv J.X pins σ' H' s' ∧ Q σ' H') J.X.xe s
theorem hgs_nil {q : Dl → Prop} (h : q Δ) : HGs J vs [] [] Δ r q := fun xs σ H Q ⟨T, C, R, k⟩ pins s us I rv => by
  simp only [Reps] at R
  subst R
  exact (pgs_nil (X := J.X)).run pins s σ H [] us Q I rv ⟨rfl, k Δ h T σ (Ext.refl T) rfl C⟩
theorem hgs_cons {q : Dl → Prop} {d : D} {ds : List D} (h : HG J vs e d Δ r fun Δ1 => HGs J vs es ds Δ1 r q) (hs : (assignEach (e :: es) J.X.env).map (·.2) = assign e J.X.env :: (assignEach es J.X.env).map (·.2)) : HGs J vs (e :: es) (d :: ds) Δ r q := fun xs σ H Q ⟨T, C, R, k⟩ pins s us I rv => by
  simp only [Reps] at R
  obtain ⟨v, xr, rfl, R1, R2⟩ := R
  refine (pgs_cons (X := J.X) (t := wpG J.X e) (u := fun (xs : List V) (σ : L2.St) (H : Hp) (Q : L2.St → Hp → Prop) => ∀ pins s us, Inv J.X pins σ H s → Vals xs us → wpAny (model J.X.prog J.X.w) J.X.A (assignInOrder ((assignEach es J.X.env).map (·.2)) us) (fun _ s' => ∃ σ' H', Inv J.X pins σ' H' s' ∧ Q σ' H') J.X.xe s)
    pg_wp ⟨fun pins s σ H xs us Q I rv h => h pins s us I rv⟩ hs).run pins s σ H _ us Q I rv ⟨v, xr, rfl, h v σ H _ ⟨T, C, R1, fun Δ1 h1 T1 σ1 e1 w1 C1 => ?_⟩⟩
  exact h1 xr σ1 H Q ⟨T1, C1, R2.mono e1, fun Δ2 h2 T2 σ2 e2 w2 C2 => k Δ2 h2 T2 σ2 (e1.trans e2) (w2.trans w1) C2⟩
theorem hg_tup {kk n : Nat} {ds : List D} {q : Dl → Prop} (ok : J.Ok) (h : HGs J vs es ds Δ r q) (hl : ds.length = n) (hn : (assignEach es J.X.env).length = n) (hst : (assignEach es J.X.env).findIdx? (·.1) = none) : HG J vs (.Tuple es kk pos) (.tup ds) Δ r q := fun v σ H Q ⟨T, C, R, k⟩ => by
  obtain ⟨p, xs, rfl, h2, h3⟩ := rep_tup R
  refine of_pg (pg_tup (n := n) (t := fun (xs : List V) (σ : L2.St) (H : Hp) (Q : L2.St → Hp → Prop) => ∀ pins s us, Inv J.X pins σ H s → Vals xs us → wpAny (model J.X.prog J.X.w) J.X.A (assignInOrder ((assignEach es J.X.env).map (·.2)) us) (fun _ s' => ∃ σ' H', Inv J.X pins σ' H' s' ∧ Q σ' H') J.X.xe s) ok.calm ⟨fun pins s σ H xs us Q I rv h => h pins s us I rv⟩ hn hst) ?_
  exact ⟨p, xs, rfl, C.sub.st h2, by rw [h3.length]; exact hl, h xs σ H Q ⟨T, C, h3, k⟩⟩
/-! ### what is walked -/
def ItD (K : PySem.W.Frag) (T : Hp) (I : It) (items : List D) : Prop := ∀ Tc H i, Ext T Tc → Ext Tc H →
  (i < items.length → I.go i H ∧ ∀ x H', I.yld i H x H' → ∃ T' d, items[i]? = some d ∧ Gro Tc H T' H' ∧ Rep K T' d x) ∧ (i = items.length → I.stop i H)
def HI {ρ : Rsc} (J : Jx ρ) (tg iter : Expr) (Δ : Dl) (r : ρ.R) (q : List D → ρ.R → Prop) : Prop := ∀ σ H R,
  (∃ T, J.Cv T H σ Δ r ∧ ∀ items r', q items r' → ∀ T' H' I, Ext T T' → J.Cv T' H' σ Δ r' → ItD J.X.K T' I items → R I H') → wpI J.X tg iter σ H R
variable {tg : Expr} {qi : List D → ρ.R → Prop}
theorem itd_list {K : PySem.W.Frag} {T : Hp} {p : Addr} {xs : List V} {l : List D} (h : SqL K T p xs) (hr : Reps K T l xs) : ItD K T (Itl K p) l := fun Tc H i e1 e2 => by
  have h' : SqL K H p xs := (e1.trans e2).sl h
  refine ⟨fun hi => ?_, fun hi => ⟨xs, h', by rw [hr.length]; omega⟩⟩
  obtain ⟨x, hx, rx⟩ := hr.get (List.getElem?_eq_getElem hi)
  refine ⟨⟨xs, x, h', hx⟩, fun y H' ⟨eH, hy⟩ => ?_⟩
  subst eH
  have e3 := hy xs h'
  rw [hx] at e3
  cases e3
  exact ⟨Tc, l[i], List.getElem?_eq_getElem hi, .same, rx.mono e1⟩
theorem itd_tup {K : PySem.W.Frag} {T : Hp} {p : Addr} {xs : List V} {l : List D} (h : SqT K T p xs) (hr : Reps K T l xs) : ItD K T (Itt K p) l := fun Tc H i e1 e2 => by
  have h' : SqT K H p xs := (e1.trans e2).st h
  refine ⟨fun hi => ?_, fun hi => ⟨xs, h', by rw [hr.length]; omega⟩⟩
  obtain ⟨x, hx, rx⟩ := hr.get (List.getElem?_eq_getElem hi)
  refine ⟨⟨xs, x, h', hx⟩, fun y H' ⟨eH, hy⟩ => ?_⟩
  subst eH
  have e3 := hy xs h'
  rw [hx] at e3
  cases e3
  exact ⟨Tc, l[i], List.getElem?_eq_getElem hi, .same, rx.mono e1⟩
theorem itd_range {K : PySem.W.Frag} {T : Hp} (lo : Int) (n : Nat) : ItD K T (Itr lo n) ((List.range n).map fun k : Nat => D.int (lo + (k : Int))) := fun Tc H i e1 e2 => by
  simp only [List.length_map, List.length_range]
  refine ⟨fun hi => ⟨hi, fun x H' ⟨eH, ex⟩ => ?_⟩, fun hi => by show n ≤ i; omega⟩
  subst eH ex
  exact ⟨Tc, .int (lo + (i : Int)), by rw [List.getElem?_map, List.getElem?_range hi]; rfl, .same, .int⟩
theorem hi_list (h : HE J e Δ r fun d r1 => ∃ l, d = .lst l ∧ qi l r1) : HI J tg e Δ r qi := fun σ H R ⟨T, C, k⟩ => by
  refine of_pi (pi_list pe_wp) (h σ H _ ⟨T, C, fun d r1 ⟨l, hd, hq⟩ T1 H1 v e1 C1 R1 => ?_⟩)
  subst hd
  obtain ⟨p, xs, rfl, h2, h3⟩ := rep_lst R1
  exact ⟨p, rfl, ⟨xs, .of (C1.sub _ _ h2)⟩, k l r1 hq T1 H1 _ e1 C1 (itd_list (.of h2) h3)⟩
theorem hi_tup (h : HE J e Δ r fun d r1 => ∃ l, d = .tup l ∧ qi l r1) : HI J tg e Δ r qi := fun σ H R ⟨T, C, k⟩ => by
  refine of_pi (pi_tup pe_wp) (h σ H _ ⟨T, C, fun d r1 ⟨l, hd, hq⟩ T1 H1 v e1 C1 R1 => ?_⟩)
  subst hd
  obtain ⟨p, xs, rfl, h2, h3⟩ := rep_tup R1
  exact ⟨p, rfl, ⟨xs, C1.sub.st h2⟩, k l r1 hq T1 H1 _ e1 C1 (itd_tup h2 h3)⟩
theorem hi_range1 {p : Pos} (hg : Gl J.X "range") (hm : J.X.mg "range" = none) (h : HA J [a] Δ r fun ds r1 => ∃ j : Int, ds = [.int j] ∧ -(2 ^ 62) ≤ j ∧ j < 2 ^ 62 ∧ qi ((List.range j.toNat).map fun k : Nat => D.int (0 + (k : Int))) r1) (hs : starEach [a] J.X.env = [(false, eval a J.X.env)]) :
    HI J tg (.Call (.Name "range" p) [a] [] pos) Δ r qi := fun σ H R ⟨T, C, k⟩ => by
  refine of_pi (pi_range1 hg hm pa_wp hs) (h σ H _ ⟨T, C, fun ds r1 ⟨j, hd, h1, h2, hq⟩ T1 H1 vs e1 C1 R1 => ?_⟩)
  subst hd
  simp only [Reps] at R1
  obtain ⟨v, _, rfl, hv, rfl⟩ := R1
  exact ⟨j, by rw [rep_int hv], h1, h2, k _ r1 hq T1 H1 _ e1 C1 (itd_range 0 j.toNat)⟩
theorem hi_range2 {p : Pos} (hg : Gl J.X "range") (hm : J.X.mg "range" = none) (h : HA J [a, b] Δ r fun ds r1 => ∃ i j : Int, ds = [.int i, .int j] ∧ (-(2 ^ 62) ≤ i ∧ i < 2 ^ 62 ∧ -(2 ^ 62) ≤ j ∧ j < 2 ^ 62) ∧ qi ((List.range (j - i).toNat).map fun k : Nat => D.int (i + (k : Int))) r1)
    (hs : starEach [a, b] J.X.env = [(false, eval a J.X.env), (false, eval b J.X.env)]) (hs2 : starEach [b] J.X.env = [(false, eval b J.X.env)]) : HI J tg (.Call (.Name "range" p) [a, b] [] pos) Δ r qi := fun σ H R ⟨T, C, k⟩ => by
  refine of_pi (pi_range2 hg hm pa_wp hs hs2) (h σ H _ ⟨T, C, fun ds r1 ⟨i, j, hd, h1, hq⟩ T1 H1 vs e1 C1 R1 => ?_⟩)
  subst hd
  simp only [Reps] at R1
  obtain ⟨v, _, rfl, hv, v2, _, rfl, hv2, rfl⟩ := R1
  exact ⟨i, j, by rw [rep_int hv, rep_int hv2], h1, k _ r1 hq T1 H1 _ e1 C1 (itd_range i (j - i).toNat)⟩
/-- pairs of a zip -/
theorem itd_zipT {K : PySem.W.Frag} {T : Hp} {p p2 : Addr} {xs ys : List V} {l l2 : List D} (h : SqT K T p xs) (hr : Reps K T l xs) (h2 : SqT K T p2 ys) (hr2 : Reps K T l2 ys) : ItD K T (ItzT K p p2) ((l.zip l2).map fun z => D.tup [z.1, z.2]) := fun Tc H i e1 e2 => by
  have ha : SqT K H p xs := (e1.trans e2).st h
  have hb : SqT K H p2 ys := (e1.trans e2).st h2
  simp only [List.length_map, List.length_zip]
  refine ⟨fun hi => ?_, fun hi => ⟨xs, ys, ha, hb, ?_⟩⟩
  · have hi1 : i < l.length := by omega
    have hi2 : i < l2.length := by omega
    obtain ⟨x, hx, rx⟩ := hr.get (List.getElem?_eq_getElem hi1)
    obtain ⟨y, hy, ry⟩ := hr2.get (List.getElem?_eq_getElem hi2)
    refine ⟨⟨xs, ys, x, y, ha, hb, hx, hy⟩, fun v H' ⟨t, x', y', ev, nt, eH, f1, f2⟩ => ?_⟩
    have z1 := f1 xs ha
    have z2 := f2 ys hb
    rw [hx] at z1; cases z1
    rw [hy] at z2; cases z2
    subst ev eH
    refine ⟨upd Tc t (.tup [x, y]), .tup [l[i], l2[i]], ?_, .new nt, .tup (.of upd_same) ?_⟩
    · rw [List.getElem?_map, List.getElem?_zip_eq_some (z := (l[i], l2[i])) |>.mpr ⟨List.getElem?_eq_getElem hi1, List.getElem?_eq_getElem hi2⟩]
      rfl
    · have e3 := Ext.new (o := .tup [x, y]) (e2.back nt)
      exact Reps.cons (rx.mono (e1.trans e3)) (Reps.cons (ry.mono (e1.trans e3)) Reps.nil)
  · rw [hr.length, hr2.length]; omega
theorem hi_zipT {e2 : Expr} {elts : List Expr} {kk : Nat} {p tpos : Pos} (hg : Gl J.X "zip") (hm : J.X.mg "zip" = none) (h : HA J [e, e2] Δ r fun ds r1 => ∃ l l2, ds = [.tup l, .tup l2] ∧ qi ((l.zip l2).map fun z => D.tup [z.1, z.2]) r1)
    (hs : starEach [e, e2] J.X.env = (false, eval e J.X.env) :: starEach [e2] J.X.env) (hs2 : (backTo pos (starEach [e2] J.X.env)).any (·.1) = false) : HI J (.Tuple elts kk tpos) (.Call (.Name "zip" p) [e, e2] [] pos) Δ r qi := fun σ H R ⟨T, C, k⟩ => by
  refine of_pi (pi_zipA hg hm pa_wp hs hs2) (h σ H _ ⟨T, C, fun ds r1 ⟨l, l2, hd, hq⟩ T1 H1 vs e1 C1 R1 => ?_⟩)
  subst hd
  simp only [Reps] at R1
  obtain ⟨v, _, rfl, hv, v2, _, rfl, hv2, rfl⟩ := R1
  obtain ⟨p, xs, rfl, h2, h3⟩ := rep_tup hv
  obtain ⟨p2, ys, rfl, h4, h5⟩ := rep_tup hv2
  exact ⟨p, p2, xs, ys, rfl, .inr ⟨C1.sub.st h2, C1.sub.st h4, k _ r1 hq T1 H1 _ e1 C1 (itd_zipT h2 h3 h4 h5)⟩⟩
/-! ### for -/
variable {P : Post ρ.R}
theorem hs_for {body : List Stmt} (vs : List Nat) (ok : J.Ok) (hp : PassesOwn (model J.X.prog J.X.w) J.X.A J.X.env J.X.xe)
    (h : HI J tg e Δ r fun items r1 => ∃ Iv : Nat → Dl → ρ.R → Prop, Iv 0 Δ r1 ∧
      (∀ i d Δ1 r1, items[i]? = some d → Iv i Δ1 r1 → HG J vs tg d Δ1 r1 fun Δ2 => HSs J body Δ2 r1 { P with nx := Iv (i + 1), ct := Iv (i + 1), bk := P.nx }) ∧ (∀ Δ1 r1, Iv items.length Δ1 r1 → P.nx Δ1 r1))
    (hs : ∀ x, foldedSetIterable e J.X.env x = pure x) : HS J (.For tg e body [] pos) Δ r P := fun D σ H ⟨T, C, k⟩ => by
  refine of_ps (ps_for hp ok.calm pi_wp pg_wp pss_wp hs) (h σ H _ ⟨T, C, fun items r1 ⟨Iv, h0, hb, hd⟩ T1 H1 I e1 C1 it => ?_⟩)
  refine ⟨fun i m σ' H' => m = items.length - i ∧ i ≤ items.length ∧ ∃ T' Δ' r', Ext T1 T' ∧ J.Cv T' H' σ' Δ' r' ∧ Iv i Δ' r', ⟨_, rfl, Nat.zero_le _, T1, Δ, r1, Ext.refl _, C1, h0⟩, fun i m σ2 H2 ⟨hm, hi, T2, Δ2, r2, e2, C2, i2⟩ => ?_⟩
  obtain ⟨go, stop⟩ := it T2 H2 i e2 C2.sub
  by_cases hlt : i < items.length
  · obtain ⟨g1, g2⟩ := go hlt
    refine .inr ⟨g1, fun σ' H' => ∃ T' Δ' r', Ext T1 T' ∧ J.Cv T' H' σ' Δ' r' ∧ Iv (i + 1) Δ' r', fun σ' H' hN => ⟨items.length - (i + 1), by omega, rfl, hlt, hN⟩, fun x H3 hy => ?_⟩
    obtain ⟨T3, d, hd3, gr, R3⟩ := g2 x H3 hy
    obtain ⟨e3, C3⟩ := C2.gro gr
    refine hb i d Δ2 r2 hd3 i2 x σ2 H3 _ ⟨T3, C3, R3, fun Δ4 h4 T4 σ4 e4 _ C4 => ?_⟩
    have e14 := e2.trans (e3.trans e4)
    refine h4 _ σ4 H3 ⟨T4, C4, ?_, ?_, ?_, ?_⟩
    · exact fun Δ5 r5 i5 T5 H5 σ5 e5 C5 => ⟨T5, Δ5, r5, e14.trans e5, C5, i5⟩
    · exact fun d r5 h5 T5 H5 v e5 A5 R5 => k.2.1 d r5 h5 T5 H5 v (e1.trans (e14.trans e5)) A5 R5
    · exact fun Δ5 r5 h5 T5 H5 σ5 e5 C5 => k.1 Δ5 r5 h5 T5 H5 σ5 (e1.trans (e14.trans e5)) C5
    · exact fun Δ5 r5 i5 T5 H5 σ5 e5 C5 => ⟨T5, Δ5, r5, e14.trans e5, C5, i5⟩
  · have ei : i = items.length := by omega
    subst ei
    exact .inl ⟨stop rfl, k.1 Δ2 r2 (hd Δ2 r2 i2) T2 H2 σ2 (e1.trans e2) C2⟩
end
end FD
set_option Elab.async false
set_option linter.all false
set_option maxRecDepth 100000
set_option maxHeartbeats 4000000
namespace FD
open PySem PySem.Spec PyProof.Rows L2
/-! ### a new list that nobody else holds -/
structure Fre (K : PySem.W.Frag) (ρ : Rsc) (B : Bs ρ) (T H : Hp) (σ : L2.St) (Δ : Dl) (r : ρ.R) (p : Addr) (ds : List D) : Prop where
  cov : Cov K ρ B T H σ Δ r
  at_ : ∃ xs, H p = some (.lst xs) ∧ Reps K T ds xs
  nT : T p = none
  nB : B.H p = none
  nf : ¬ ρ.foot r p
  no : ∀ (i : Nat) l, Δ[i]? = some (some (.own l)) → σ[i]? ≠ some (some (.ref p))
section
variable {K : PySem.W.Frag} {ρ : Rsc} {B : Bs ρ} {T H T' H' : Hp} {σ σ2 : L2.St} {Δ Δ2 : Dl} {r r' : ρ.R} {p : Addr} {o : HO} {ds ds' : List D} {xs : List V}
theorem Fre.new (C : Cov K ρ B T H σ Δ r) (h : H p = none) (R : Reps K T ds xs) : Fre K ρ B T (upd H p (.lst xs)) σ Δ r p ds where
  cov := C.allocOwn h
  at_ := ⟨xs, upd_same, R⟩
  nT := C.sub.back h
  nB := C.dom p h
  nf := C.toAft.noft h
  no := fun i l q e => by
    obtain ⟨p', xs', h1, h2, _⟩ := C.own i l q
    rw [e] at h1
    cases h1
    rw [h] at h2; cases h2
theorem Fre.slot (F : Fre K ρ B T H σ Δ r p ds) {i : Nat} : Cov K ρ B T H (σ.set i (some (.ref p))) (Δ.set i (some (.own ds))) r := by
  have C := F.cov
  refine ⟨C.toAft, by rw [List.length_set, List.length_set, C.len], fun j e q => ?_, fun j l' q => ?_, fun j k l1 l2 p' ne q1 q2 q3 => ?_⟩
  · by_cases z : i = j
    · subst z
      by_cases hi : i < Δ.length
      · rw [List.getElem?_set_self hi] at q; cases q
      · rw [List.getElem?_eq_none (by rw [List.length_set]; omega)] at q; cases q
    · rw [List.getElem?_set_ne z] at q ⊢
      exact C.val j e q
  · by_cases z : i = j
    · subst z
      by_cases hi : i < Δ.length
      · rw [List.getElem?_set_self hi] at q
        cases q
        obtain ⟨xs, h1, h2⟩ := F.at_
        exact ⟨p, xs, List.getElem?_set_self (by rw [C.len]; exact hi), h1, h2, F.nT, F.nB, F.nf⟩
      · rw [List.getElem?_eq_none (by rw [List.length_set]; omega)] at q; cases q
    · rw [List.getElem?_set_ne z] at q ⊢
      exact C.own j l' q
  · by_cases zj : i = j
    · subst zj
      by_cases hi : i < Δ.length
      · rw [List.getElem?_set_ne ne] at q2 ⊢
        rw [List.getElem?_set_self (by rw [C.len]; exact hi)] at q3
        cases q3
        exact F.no k l2 q2
      · rw [List.getElem?_eq_none (by rw [List.length_set]; omega)] at q1; cases q1
    · rw [List.getElem?_set_ne zj] at q1 q3
      by_cases zk : i = k
      · subst zk
        by_cases hi : i < Δ.length
        · rw [List.getElem?_set_self (by rw [C.len]; exact hi)]
          intro e
          cases e
          exact F.no j l1 q1 q3
        · rw [List.getElem?_eq_none (by rw [List.length_set]; omega)] at q2; cases q2
      · rw [List.getElem?_set_ne zk] at q2 ⊢
        exact C.apart j k l1 l2 p' ne q1 q2 q3
theorem Fre.freeze (F : Fre K ρ B T H σ Δ r p ds) : ∃ T', Ext T T' ∧ Cov K ρ B T' H σ Δ r ∧ Rep K T' (.lst ds) (.ref p) := by
  obtain ⟨xs, h2, h3⟩ := F.at_
  have C := F.cov
  have h4 := F.nT
  have h5 := F.nB
  have h6 := F.nf
  have e1 := Ext.new (o := .lst xs) h4
  refine ⟨_, e1, ⟨⟨fun a o q => ?_, C.ext.trans e1, C.frame, fun a q1 q2 => ?_, C.dom, ρ.mono C.rel e1 fun _ _ => rfl, fun a q => ?_, C.f0⟩, C.len, fun j e q => ?_, fun j m q => ?_, C.apart⟩, .lst upd_same (h3.mono e1)⟩
  · by_cases z : a = p
    · rw [z, upd_same] at q; cases q; rw [z]; exact h2
    · rw [upd_ne z] at q; exact C.sub a o q
  · by_cases z : a = p
    · rw [z]; exact h5
    · rw [upd_ne z] at q2; exact C.new a q1 q2
  · have z : a ≠ p := fun z => h6 (by rw [← z]; exact q)
    rw [upd_ne z]; exact C.ft a q
  · obtain ⟨v, g1, g2⟩ := C.val j e q
    exact ⟨v, g1, g2.mono e1⟩
  · obtain ⟨p2, xs2, g1, g2, g3, g4, g5, g6⟩ := C.own j m q
    exact ⟨p2, xs2, g1, g2, g3.mono e1, by rw [upd_ne (fun z => F.no j m q (by rw [← z]; exact g1))]; exact g4, g5, g6⟩
theorem Fre.write (F : Fre K ρ B T H σ Δ r p ds) (R : Reps K T ds' xs) : Fre K ρ B T (upd H p (.lst xs)) σ Δ r p ds' := by
  have C := F.cov
  have h4 := F.nT
  have h5 := F.nB
  have h6 := F.nf
  refine ⟨⟨⟨fun a o q => ?_, C.ext, fun a o q nf => ?_, C.new, fun a q => ?_, ρ.mono C.rel (Ext.refl T) fun a q => upd_ne fun z => h6 (by rw [← z]; exact q), fun a q => ?_, C.f0⟩, C.len, C.val, fun j m q => ?_, C.apart⟩, ⟨xs, upd_same, R⟩, h4, h5, h6, F.no⟩
  · rw [upd_ne (fun z => by rw [z, h4] at q; cases q)]; exact C.sub a o q
  · rw [upd_ne (fun z => by rw [z, h5] at q; cases q)]; exact C.frame a o q nf
  · by_cases z : a = p
    · rw [z, upd_same] at q; cases q
    · rw [upd_ne z] at q; exact C.dom a q
  · have z : a ≠ p := fun z => h6 (by rw [← z]; exact q)
    rw [upd_ne z]; exact C.ft a q
  · obtain ⟨p2, xs2, g1, g2, g3, g4, g5, g6⟩ := C.own j m q
    exact ⟨p2, xs2, g1, by rw [upd_ne (fun z => F.no j m q (by rw [← z]; exact g1))]; exact g2, g3, g4, g5, g6⟩
/-- the list as a thing of the entry: none writes it -/
theorem Fre.pin (F : Fre K ρ B T H σ Δ r p ds) (h : H p = some o) : Cov K ρ ⟨B.T, upd B.H p o, B.r⟩ T H σ Δ r := by
  have C := F.cov
  refine ⟨⟨C.sub, C.ext, fun a u q nf => ?_, fun a q1 q2 => ?_, fun a q => ?_, C.rel, fun a q => ?_, fun a q => ?_⟩, C.len, C.val, fun j m q => ?_, C.apart⟩
  · have q : upd B.H p o a = some u := q
    by_cases z : a = p
    · subst z; rw [upd_same] at q; rw [← q]; exact h
    · rw [upd_ne z] at q; exact C.frame a u q nf
  · have z : a ≠ p := fun z => q2 (by rw [z]; exact F.nT)
    show upd B.H p o a = none
    rw [upd_ne z]; exact C.new a q1 q2
  · have z : a ≠ p := fun z => by rw [z, h] at q; cases q
    show upd B.H p o a = none
    rw [upd_ne z]; exact C.dom a q
  · have z : a ≠ p := fun z => F.nf (by rw [← z]; exact q)
    show _ ∧ _ ∧ (_ ∨ upd B.H p o a = none)
    rw [upd_ne z]; exact C.ft a q
  · show upd B.H p o a ≠ none
    by_cases z : a = p
    · rw [z, upd_same]; exact fun e => nomatch e
    · rw [upd_ne z]; exact C.f0 a q
  · obtain ⟨p2, xs2, g1, g2, g3, g4, g5, g6⟩ := C.own j m q
    exact ⟨p2, xs2, g1, g2, g3, g4, by show upd B.H p o p2 = none; rw [upd_ne (fun z => F.no j m q (by rw [← z]; exact g1))]; exact g5, g6⟩
theorem Cov.unpin (C : Cov K ρ ⟨B.T, upd B.H p o, B.r⟩ T H σ Δ r) (nB : B.H p = none) (nT : B.T p = none) (f0 : ∀ a, ρ.foot B.r a → B.H a ≠ none) : Cov K ρ B T H σ Δ r ∧ H p = some o ∧ T p = none ∧ ¬ ρ.foot r p ∧ ∀ (i : Nat) l, Δ[i]? = some (some (.own l)) → σ[i]? ≠ some (some (.ref p)) := by
  have nf : ¬ ρ.foot B.r p := fun z => f0 p z nB
  have hp : H p = some o := C.frame p o upd_same nf
  have hT : T p = none := by
    by_cases z : T p = none
    · exact z
    · have y : upd B.H p o p = none := C.new p nT z
      rw [upd_same] at y; cases y
  refine ⟨⟨⟨C.sub, C.ext, fun a u q nf => ?_, fun a q1 q2 => ?_, fun a q => ?_, C.rel, fun a q => ?_, f0⟩, C.len, C.val, fun j m q => ?_, C.apart⟩, hp, hT, fun z => ?_, fun j m q e => ?_⟩
  · have z : a ≠ p := fun z => by rw [z, nB] at q; cases q
    exact C.frame a u (by show upd B.H p o a = _; rw [upd_ne z]; exact q) nf
  · have y : upd B.H p o a = none := C.new a q1 q2
    by_cases z : a = p
    · rw [z]; exact nB
    · rw [upd_ne z] at y; exact y
  · by_cases z : a = p
    · rw [z]; exact nB
    · have y : upd B.H p o a = none := C.dom a q
      rw [upd_ne z] at y; exact y
  · obtain ⟨h1, h2, h3⟩ := C.ft a q
    refine ⟨h1, h2, ?_⟩
    rcases h3 with y | y
    · exact .inl y
    · have y : upd B.H p o a = none := y
      by_cases z : a = p
      · rw [z]; exact .inr nB
      · rw [upd_ne z] at y; exact .inr y
  · obtain ⟨p2, xs2, g1, g2, g3, g4, g5, g6⟩ := C.own j m q
    have y : upd B.H p o p2 = none := g5
    by_cases z : p2 = p
    · rw [z, upd_same] at y; cases y
    · rw [upd_ne z] at y; exact ⟨p2, xs2, g1, g2, g3, g4, y, g6⟩
  · rcases (C.ft p z).2.2 with y | y
    · exact nf y
    · have y : upd B.H p o p = none := y
      rw [upd_same] at y; cases y
  · obtain ⟨p2, xs2, g1, g2, g3, g4, g5, g6⟩ := C.own j m q
    rw [e] at g1
    cases g1
    have y : upd B.H p o p = none := g5
    rw [upd_same] at y; cases y
/-! ### slots forgotten -/
def wipeD (Δ : Dl) : List Nat → Dl
  | [] => Δ
  | v :: vs => (wipeD Δ vs).set v none
theorem Cov.wipe (C : Cov K ρ B T H σ Δ r) : ∀ vs : List Nat, Cov K ρ B T H (wipe σ vs) (wipeD Δ vs) r
  | [] => C
  | v :: vs => (Cov.wipe C vs).clear
theorem wipeD_out {Δ : Dl} {i : Nat} : ∀ {vs : List Nat}, i ∉ vs → (wipeD Δ vs)[i]? = Δ[i]?
  | [], _ => rfl
  | v :: vs, h => by
    show ((wipeD Δ vs).set v none)[i]? = _
    rw [List.getElem?_set_ne (fun z => h (by rw [z]; exact List.mem_cons_self))]
    exact wipeD_out fun z => h (List.mem_cons_of_mem _ z)
theorem Cov.unwipe {vs : List Nat} {B0 : Bs ρ} {T0 H0 : Hp} {r0 : ρ.R} (C0 : Cov K ρ B0 T0 H0 σ Δ r0) (C : Cov K ρ B T H σ2 Δ2 r) (e : Ext T0 T) (h1 : L2.wipe σ2 vs = L2.wipe σ vs) (h2 : wipeD Δ2 vs = wipeD Δ vs) (ho : ∀ i ∈ vs, ∀ l, Δ[i]? ≠ some (some (.own l))) :
    Cov K ρ B T H σ Δ r where
  toAft := C.toAft
  len := C0.len
  val := fun i d q => by
    obtain ⟨v, g1, g2⟩ := C0.val i d q
    exact ⟨v, g1, g2.mono e⟩
  own := fun i l q => by
    have hi : i ∉ vs := fun z => ho i z l q
    have e1 : σ2[i]? = σ[i]? := by rw [← wipe_out (σ := σ2) hi, h1, wipe_out hi]
    have e2 : Δ2[i]? = Δ[i]? := by rw [← wipeD_out (Δ := Δ2) hi, h2, wipeD_out hi]
    obtain ⟨p2, xs2, g⟩ := C.own i l (by rw [e2]; exact q)
    rw [e1] at g
    exact ⟨p2, xs2, g⟩
  apart := C0.apart
end
/-! ### expressions that make a list -/
def tDF {ρ : Rsc} (J : Jx ρ) (Δ : Dl) (r : ρ.R) (q : List D → ρ.R → Prop) : TE := fun σ H Q =>
  ∃ T, J.Cv T H σ Δ r ∧ ∀ ds r', q ds r' → ∀ T' H' p, Ext T T' → Fre J.X.K ρ J.B T' H' σ Δ r' p ds → Q (.ref p) H'
def HF {ρ : Rsc} (J : Jx ρ) (e : Expr) (Δ : Dl) (r : ρ.R) (q : List D → ρ.R → Prop) : Prop := ∀ σ H Q, tDF J Δ r q σ H Q → wpE J.X e σ H Q
section
variable {ρ : Rsc} {J : Jx ρ} {Δ : Dl} {r : ρ.R} {q : D → ρ.R → Prop} {qf : List D → ρ.R → Prop} {a b c e : Expr} {es rest : List Expr} {pos : Pos} {P : Post ρ.R}
theorem he_hf (h : HF J e Δ r fun ds r1 => q (.lst ds) r1) : HE J e Δ r q := fun σ H Q ⟨T, C, k⟩ => h σ H Q ⟨T, C, fun ds r1 h1 T1 H1 p e1 F => by
  obtain ⟨T2, e2, C2, R2⟩ := F.freeze
  exact k _ r1 h1 T2 H1 _ (e1.trans e2) C2 R2⟩
theorem hf_lst (h : HA J es Δ r fun ds r1 => ds.length ≤ sizeLine ∧ qf ds r1) : HF J (.List es pos) Δ r qf := fun σ H Q ⟨T, C, k⟩ => by
  refine of_pe (pe_lst pa_wp) (h σ H _ ⟨T, C, fun ds r1 ⟨hl, hq⟩ T1 H1 vs e1 C1 R1 => ⟨by rw [R1.length]; exact hl, fun p hp => ?_⟩⟩)
  exact k _ r1 hq _ _ _ e1 (.new C1 hp R1)
theorem hf_if {qf : List D → ρ.R → Prop} (h : HT J c Δ r fun k r1 => (k = true → HF J a Δ r1 qf) ∧ (k = false → HF J b Δ r1 qf)) : HF J (.IfExp c a b pos) Δ r qf := fun σ H Q ⟨T, C, k⟩ => by
  refine of_pe (pe_ifExp pt_wp pe_wp pe_wp) (h σ H _ ⟨T, C, fun c r1 ⟨h1, h2⟩ T1 H1 e1 C1 => ?_⟩)
  cases c with
  | true => exact iteT (h1 rfl σ H1 Q ⟨T1, C1, fun d r' hb T' H' v e' C' => k d r' hb T' H' v (e1.trans e') C'⟩)
  | false => exact iteF (h2 rfl σ H1 Q ⟨T1, C1, fun d r' hb T' H' v e' C' => k d r' hb T' H' v (e1.trans e') C'⟩)
/-- name = a new list: the slot's own -/
theorem hs_setF {i : Nat} {x : Str} {pos' : Pos} (ok : J.Ok) (hi : J.X.N[i]? = some x) (hx : Loc J.X.env.scope x) (h : HF J e Δ r fun ds r1 => P.nx (Δ.set i (some (.own ds))) r1)
    (hs : swapsWith e (some (.Name x pos')) pos.line J.X.env = pure false) (hf : J.X.fn x = true ∨ J.X.env.scope.names.lookup x = some .local) : HS J (.Assign [.Name x pos'] e pos) Δ r P := fun D σ H ⟨T, C, k1, _⟩ =>
  of_ps (ps_set ok.nd hi hx pe_wp hs hf) (h σ H _ ⟨T, C, fun d r1 h1 T1 H1 p e1 F => k1 _ r1 h1 T1 H1 _ e1 F.slot⟩)
end
end FD
set_option Elab.async false
set_option linter.all false
set_option maxRecDepth 100000
set_option maxHeartbeats 4000000
/-! comprehensions over data -/
namespace FD
open PySem PySem.Spec PyProof.Rows L2
/-- the judgement's context within a comprehension -/
abbrev Jx.blk {ρ : Rsc} (J : Jx ρ) (s : Shared) (H : Hp) (scope : Scope) (C : Addr) (cl : List (Str × Addr)) (fp : List Addr) (B : Bs ρ) : Jx ρ where
  X := J.X.blk s H scope (compEnvC scope cl C J.X.env) fp
  W := fun _ _ _ _ => False
  B := B
  x := fun _ _ _ => False
theorem Jx.Ok.blk {ρ : Rsc} {J : Jx ρ} (ok : J.Ok) {s : Shared} {H : Hp} {scope : Scope} {C : Addr} {cl : List (Str × Addr)} {fp : List Addr} {B : Bs ρ} : (J.blk s H scope C cl fp B).Ok where
  calm := ok.calm
  nd := ok.nd
  tk := LamX.takes0
  xok := fun _ _ _ h => h.elim
/-- a clause's tests -/
def wpTs (X : Cx) (ifs : List Expr) : TT := fun σ H Q => ∀ pins s, Inv X pins σ H s → wpAny (model X.prog X.w) X.A (forIn ifs true fun c r => if r = true then do let ok ← isTrue c X.env (eval c X.env); pure (ForInStep.yield ok) else pure (ForInStep.yield r)) (TP X pins σ Q) X.xe s
theorem pts_wp {X : Cx} {ifs : List Expr} : PTs X ifs (wpTs X ifs) := ⟨fun pins s σ H Q I h => h pins s I⟩
theorem of_pts {X : Cx} {ifs : List Expr} {t : TT} (h : PTs X ifs t) {σ : L2.St} {H : Hp} {Q : Bool → Hp → Prop} (q : t σ H Q) : wpTs X ifs σ H Q := fun pins s I => h.run pins s σ H Q I q
def HTs {ρ : Rsc} (J : Jx ρ) (ifs : List Expr) (Δ : Dl) (r : ρ.R) (q : Bool → ρ.R → Prop) : Prop := ∀ σ H Q, tDT J Δ r q σ H Q → wpTs J.X ifs σ H Q
section
variable {ρ : Rsc} {J : Jx ρ} {Δ : Dl} {r : ρ.R} {qb : Bool → ρ.R → Prop} {qf : List D → ρ.R → Prop} {a b c e elt tg iter : Expr} {ifs : List Expr} {pos : Pos} {scope : Scope} {own : List (Str × Nat)} {P : Post ρ.R}
theorem hts_nil (h : qb true r) : HTs J [] Δ r qb := fun σ H Q ⟨T, C, k⟩ => of_pts pts_nil (k true r h T H (Ext.refl T) C)
theorem hts_one (h : HT J c Δ r qb) : HTs J [c] Δ r qb := fun σ H Q t => of_pts (pts_one pt_wp) (h σ H Q t)
/-- what a turn of a comprehension is asked, for each context that a block may have -/
def Blk {ρ : Rsc} (J : Jx ρ) (scope : Scope) (elt tg : Expr) (ifs : List Expr) (vs : List Nat) (d : D) (Δ : Dl) (r : ρ.R) (qn : Option D → ρ.R → Prop) : Prop :=
  ∀ B : Bs ρ, ∀ s H C cl fp, HG (J.blk s H scope C cl fp B) vs tg d (wipeD Δ vs) r fun Δ2 => wipeD Δ2 vs = wipeD Δ vs ∧ ∀ s H C cl fp, HTs (J.blk s H scope C cl fp B) ifs Δ2 r fun k r2 =>
    (k = true → ∀ s H C cl fp, HE (J.blk s H scope C cl fp B) elt Δ2 r2 fun y r3 => qn (some y) r3) ∧ (k = false → qn none r2)
def gB {ρ : Rsc} (J : Jx ρ) (scope : Scope) (tg : Expr) : TG := fun v σ H R => ∀ s0 H0 C cl fp, wpG (J.X.blk s0 H0 scope (compEnvC scope cl C J.X.env) fp) tg v σ H R
def tB {ρ : Rsc} (J : Jx ρ) (scope : Scope) (ifs : List Expr) : TT := fun σ H R => ∀ s0 H0 C cl fp, wpTs (J.X.blk s0 H0 scope (compEnvC scope cl C J.X.env) fp) ifs σ H R
def eB {ρ : Rsc} (J : Jx ρ) (scope : Scope) (elt : Expr) : TE := fun σ H R => ∀ s0 H0 C cl fp, wpE (J.X.blk s0 H0 scope (compEnvC scope cl C J.X.env) fp) elt σ H R
theorem Fre.gro {K : PySem.W.Frag} {ρ : Rsc} {B : Bs ρ} {T H T' H' : Hp} {σ : L2.St} {Δ : Dl} {r : ρ.R} {p : Addr} {ds : List D} (F : Fre K ρ B T H σ Δ r p ds) (g : Gro T H T' H') : Ext T T' ∧ Fre K ρ B T' H' σ Δ r p ds := by
  obtain ⟨xs, h1, h2⟩ := F.at_
  obtain ⟨e, C⟩ := (F.pin h1).gro g
  obtain ⟨C', a1, a2, a3, a4⟩ := C.unpin F.nB (F.cov.ext.back F.nT) F.cov.f0
  exact ⟨e, C', ⟨xs, a1, h2.mono e⟩, a2, F.nB, a3, a4⟩
/-- what is asked of a comprehension over items -/
def LcI {ρ : Rsc} (J : Jx ρ) (scope : Scope) (elt tg : Expr) (ifs : List Expr) (vs : List Nat) (Δ : Dl) (qf : List D → ρ.R → Prop) (items : List D) (r1 : ρ.R) : Prop :=
  ∃ Iv : Nat → List D → ρ.R → Prop, Iv 0 [] r1 ∧
    (∀ i d acc r1, items[i]? = some d → Iv i acc r1 → Blk J scope elt tg ifs vs d Δ r1 fun y r3 => match y with | some y => acc.length < sizeLine ∧ Iv (i + 1) (acc ++ [y]) r3 | none => Iv (i + 1) acc r3) ∧
    (∀ acc r1, Iv items.length acc r1 → qf acc r1)
/-- the reading of a comprehension from the judgement -/
theorem lc_read {vs : List Nat} {σ : L2.St} {H : Hp} {Q : VK} (hvs : ∀ i ∈ vs, ∀ l, Δ[i]? ≠ some (some (.own l)))
    (h : HI J tg iter Δ r (LcI J scope elt tg ifs vs Δ qf)) (t : tDF J Δ r qf σ H Q) : tLc (wpI J.X tg iter) (gB J scope tg) (tB J scope ifs) (eB J scope elt) vs σ H Q := by
  obtain ⟨T, C, k⟩ := t
  refine h σ H _ ⟨T, C, fun items r1 ⟨Iv, h0, hb, hd⟩ T1 H1 I e1 C1 it => fun D hD => ?_⟩
  refine ⟨fun i m H' => m = items.length - i ∧ i ≤ items.length ∧ ∃ T' acc r', Ext T1 T' ∧ Fre J.X.K ρ J.B T' H' σ Δ r' D acc ∧ Iv i acc r', ⟨_, rfl, Nat.zero_le _, T1, [], r1, Ext.refl _, .new C1 hD Reps.nil, h0⟩, fun i m H2 ⟨hm, hi, T2, acc, r2, e2, F2, i2⟩ => ?_⟩
  obtain ⟨go, stop⟩ := it T2 H2 i e2 F2.cov.sub
  by_cases hlt : i < items.length
  · obtain ⟨g1, g2⟩ := go hlt
    refine .inr ⟨g1, fun H' => ∃ T' acc r', Ext T1 T' ∧ Fre J.X.K ρ J.B T' H' σ Δ r' D acc ∧ Iv (i + 1) acc r', fun H' hN => ⟨items.length - (i + 1), by omega, rfl, hlt, hN⟩, fun x H3 hy => ?_⟩
    obtain ⟨T3, d, hd3, gr, R3⟩ := g2 x H3 hy
    obtain ⟨e3, F3⟩ := F2.gro gr
    obtain ⟨xs, hx, rx⟩ := F3.at_
    have back : ∀ {T6 H6 σ6 Δ6 r6}, Ext T3 T6 → Cov J.X.K ρ ⟨J.B.T, upd J.B.H D (.lst xs), J.B.r⟩ T6 H6 σ6 Δ6 r6 → L2.wipe σ6 vs = L2.wipe σ vs → wipeD Δ6 vs = wipeD Δ vs → Fre J.X.K ρ J.B T6 H6 σ Δ r6 D acc ∧ H6 D = some (.lst xs) := fun {T6 H6 σ6 Δ6 r6} e6 C6 w1 w2 => by
      obtain ⟨C', a1, a2, a3, _⟩ := C6.unpin F3.nB (F3.cov.ext.back F3.nT) F3.cov.f0
      exact ⟨⟨F3.cov.unwipe C' e6 w1 w2 hvs, ⟨xs, a1, rx.mono e6⟩, a2, F3.nB, a3, F3.no⟩, a1⟩
    have wwS : L2.wipe (L2.wipe σ vs) vs = L2.wipe σ vs := by
      apply List.ext_getElem?
      intro j
      by_cases hj : j ∈ vs
      · have hz : ∀ (us : List Nat) (s2 : L2.St), j ∈ us → (L2.wipe s2 us)[j]? = if j < s2.length then some none else none := fun us => by
          induction us with
          | nil => exact fun _ h => by simp at h
          | cons u us ih =>
            intro s2 h
            show ((L2.wipe s2 us).set u none)[j]? = _
            by_cases z : u = j
            · subst z
              by_cases hw : u < s2.length
              · rw [if_pos hw, List.getElem?_set_self (by rw [wipe_length]; exact hw)]
              · rw [if_neg hw, List.getElem?_eq_none (by rw [List.length_set, wipe_length]; omega)]
            · rw [List.getElem?_set_ne z]
              exact ih s2 ((List.mem_cons.mp h).resolve_left fun q => z q.symm)
        rw [hz _ _ hj, hz _ _ hj, wipe_length]
      · rw [wipe_out hj]
    intro s0 H0 C0 cl fp
    refine hb i d acc r2 hd3 i2 ⟨J.B.T, upd J.B.H D (.lst xs), J.B.r⟩ s0 H0 C0 cl fp x (L2.wipe σ vs) H3 _ ⟨T3, (F3.pin hx).wipe vs, R3, fun Δ4 ⟨w4, h4⟩ T4 σ4 e4 ws4 C4 => ?_⟩
    have ws4 : L2.wipe σ4 vs = L2.wipe σ vs := ws4.trans wwS
    refine ⟨ws4, fun s0 H0 C0 cl fp => ?_⟩
    refine h4 s0 H0 C0 cl fp σ4 H3 _ ⟨T4, C4, fun b r5 ⟨h51, h52⟩ T5 H5 e5 C5 => ?_⟩
    cases b with
    | false =>
      rw [if_neg (by decide)]
      obtain ⟨F5, _⟩ := back (e4.trans e5) C5 ws4 w4
      exact ⟨T5, acc, r5, e2.trans (e3.trans (e4.trans e5)), F5, h52 rfl⟩
    | true =>
      rw [if_pos rfl]
      intro s0 H0 C0 cl fp
      refine h51 rfl s0 H0 C0 cl fp σ4 H5 _ ⟨T5, C5, fun y r6 ⟨hl, i6⟩ T6 H6 v e6 C6 R6 => ?_⟩
      obtain ⟨F6, hx6⟩ := back (e4.trans (e5.trans e6)) C6 ws4 w4
      have e36 : Ext T3 T6 := e4.trans (e5.trans e6)
      refine ⟨xs, hx6, by rw [rx.length]; exact hl, T6, acc ++ [y], r6, e2.trans (e3.trans e36), ?_, i6⟩
      exact F6.write ((rx.mono e36).append (Reps.cons R6 Reps.nil))
  · have ei : i = items.length := by omega
    subst ei
    exact .inl ⟨stop rfl, k acc r2 (hd acc r2 i2) T2 H2 D (e1.trans e2) F2⟩
theorem hf_lc (ok : J.Ok) (okB : BlkOk J.X.N J.X.env.scope scope own) (hvs : ∀ i ∈ own.map (·.2), ∀ l, Δ[i]? ≠ some (some (.own l)))
    (h : HI J tg iter Δ r (LcI J scope elt tg ifs (own.map (·.2)) Δ qf)) (hs : ∀ x, foldedSetIterable iter J.X.env x = pure x) : HF J (.ListComp elt [⟨tg, iter, ifs, 0⟩] scope pos) Δ r qf := fun σ H Q t => by
  refine of_pe (pe_lc (wi := wpI J.X tg iter) (g := gB J scope tg) (tt := tB J scope ifs) (te := eB J scope elt) ok.calm ok.nd pi_wp okB (fun s H C cl fp => ⟨fun pins s' σ H v u Q I rv h => h s _ C cl fp pins s' u I rv⟩) (fun s H C cl fp => ⟨fun pins s' σ H Q I h => h s _ C cl fp pins s' I⟩)
    (fun s H C cl fp => ⟨fun pins s' σ H Q I h => h s _ C cl fp pins s' I⟩) hs) (lc_read hvs h t)
/-- name = [.. for ..] on one line -/
theorem hs_setLc {i : Nat} {y : Str} {py spos : Pos} (ok : J.Ok) (okB : BlkOk J.X.N J.X.env.scope scope own) (hvs : ∀ i ∈ own.map (·.2), ∀ l, Δ[i]? ≠ some (some (.own l))) (hy : J.X.N[i]? = some y) (hyl : J.X.env.scope.names.lookup y = some .local)
    (hsw : swapsWith (.ListComp elt [⟨tg, iter, ifs, 0⟩] scope pos) (some (.Name y py)) spos.line J.X.env = pure true)
    (h : HI J tg iter Δ r (LcI J scope elt tg ifs (own.map (·.2)) Δ fun ds r1 => P.nx (Δ.set i (some (.own ds))) r1)) (hs : ∀ x, foldedSetIterable iter J.X.env x = pure x) : HS J (.Assign [.Name y py] (.ListComp elt [⟨tg, iter, ifs, 0⟩] scope pos) spos) Δ r P := fun D σ H ⟨T, C, k1, _⟩ => by
  refine of_ps (ps_setLc (wi := wpI J.X tg iter) (g := gB J scope tg) (tt := tB J scope ifs) (te := eB J scope elt) ok.calm ok.nd hy hyl hsw pi_wp okB (fun s H C cl fp => ⟨fun pins s' σ H v u Q I rv h => h s _ C cl fp pins s' u I rv⟩) (fun s H C cl fp => ⟨fun pins s' σ H Q I h => h s _ C cl fp pins s' I⟩)
    (fun s H C cl fp => ⟨fun pins s' σ H Q I h => h s _ C cl fp pins s' I⟩) hs) ?_
  exact lc_read hvs h ⟨T, C, fun ds r1 h1 T1 H1 p e1 F => k1 _ r1 h1 T1 H1 _ e1 F.slot⟩
end
end FD
set_option Elab.async false
set_option linter.all false
set_option maxRecDepth 100000
set_option maxHeartbeats 4000000
/-! operations on data -/
namespace FD
open PySem PySem.Spec PyProof.Rows L2
/-! ### data as PyData -/
mutual
def toP : D → PyData
  | .non => .none | .bl b => .bool b | .int i => .int i | .str x => .str x | .ty _ => .none | .ref _ => .none | .rol _ => .none
  | .tup l => .tuple (toPs l)
  | .lst l => .list (toPs l)
def toPs : List D → List PyData
  | [] => []
  | d :: l => toP d :: toPs l
end
mutual
def isDat : D → Bool
  | .ty _ => false | .ref _ => false | .rol _ => false | .non => true | .bl _ => true | .int _ => true | .str _ => true
  | .tup l => areDat l
  | .lst l => areDat l
def areDat : List D → Bool
  | [] => true
  | d :: l => isDat d && areDat l
end
mutual
theorem dp_of {K : PySem.W.Frag} {T H : Hp} (s : Ext T H) : ∀ {d : D} {v : V}, isDat d = true → Rep K T d v → Dp K H v (toP d)
  | .non, v, _, h => by rw [rep_non h]; exact .non
  | .bl b, v, _, h => by rw [rep_bl h]; exact .bl b
  | .int i, v, _, h => by rw [rep_int h]; exact .int i
  | .str x, v, _, h => by rw [rep_str h]; exact .str x
  | .ty _, _, e, _ => by simp [isDat] at e
  | .ref _, _, e, _ => by simp [isDat] at e
  | .rol _, _, e, _ => by simp [isDat] at e
  | .tup l, v, e, h => by
    obtain ⟨a, xs, rfl, h2, h3⟩ := rep_tup h
    simp only [isDat] at e
    simp only [toP]
    exact .tup (s.st h2) (dps_of s e h3)
  | .lst l, v, e, h => by
    obtain ⟨a, xs, rfl, h2, h3⟩ := rep_lst h
    simp only [isDat] at e
    simp only [toP]
    exact .lst (.of (s _ _ h2)) (dps_of s e h3)
theorem dps_of {K : PySem.W.Frag} {T H : Hp} (s : Ext T H) : ∀ {l : List D} {xs : List V}, areDat l = true → Reps K T l xs → DpAll K H xs (toPs l)
  | [], xs, _, h => by simp only [Reps] at h; rw [h]; exact .nil
  | d :: l, xs, e, h => by
    simp only [Reps] at h
    obtain ⟨v, r, h1, h2, h3⟩ := h
    simp only [areDat, Bool.and_eq_true] at e
    rw [h1]
    simp only [toPs]
    exact .cons (dp_of s e.1 h2) (dps_of s e.2 h3)
end
def eqD (d e : D) : Bool := PyData.eqv (toP d) (toP e)
def datB (d : D) : Bool := isDat d && SeqAt.shaped (toP d)
section
variable {K : PySem.W.Frag}
theorem od_i0 {g : Int → Int → V} {i j : Int} {d : D} (h : ∀ T, Rep K T d (g i j)) : OpD K (rI0 g) (.int i) (.int j) d := fun T H v1 v2 Q s R1 R2 k => ⟨i, j, rep_int R1, rep_int R2, k _ T H .same (h T)⟩
theorem od_i {C : Int → Int → Prop} {g : Int → Int → V} {i j : Int} {d : D} (hc : C i j) (h : ∀ T, Rep K T d (g i j)) : OpD K (rI C g) (.int i) (.int j) d := fun T H v1 v2 Q s R1 R2 k => ⟨i, j, rep_int R1, rep_int R2, hc, k _ T H .same (h T)⟩
theorem od_eq {d e : D} (h1 : datB d = true) (h2 : datB e = true) : OpD K (rEqD K) d e (.bl (eqD d e)) := fun T H v1 v2 Q s R1 R2 k => by
  unfold datB at h1 h2
  rw [Bool.and_eq_true] at h1 h2
  exact ⟨_, _, dp_of s h1.1 R1, dp_of s h2.1 R2, h1.2, h2.2, k _ T H .same .bl⟩
theorem od_ne {d e : D} (h1 : datB d = true) (h2 : datB e = true) : OpD K (rNeD K) d e (.bl (!eqD d e)) := fun T H v1 v2 Q s R1 R2 k => by
  unfold datB at h1 h2
  rw [Bool.and_eq_true] at h1 h2
  exact ⟨_, _, dp_of s h1.1 R1, dp_of s h2.1 R2, h1.2, h2.2, k _ T H .same .bl⟩
/-- == of scalars -/
def isSc : D → Bool | .int _ => true | .str _ => true | .bl _ => true | .non => true | _ => false
def scD : D → D → Bool
  | .non, .non => true | .non, .int _ => true | .int _, .non => true | .non, .bl _ => true | .bl _, .non => true | .non, .str _ => true | .str _, .non => true
  | .int _, .int _ => true | .bl _, .bl _ => true | .str _, .str _ => true
  | .int _, .str _ => true | .str _, .int _ => true | .bl _, .str _ => true | .str _, .bl _ => true
  | _, _ => false
def sameD : D → D → Bool
  | .non, .non => true | .int i, .int j => decide (i = j) | .bl i, .bl j => decide (i = j) | .str i, .str j => decide (i = j) | _, _ => false
theorem scD_v {T : Hp} {d e : D} {v u : V} (h : scD d e = true) (R1 : Rep K T d v) (R2 : Rep K T e u) : scal v u = true ∧ decide (v = u) = sameD d e := by
  cases d <;> cases e <;> first
    | (simp [scD] at h; done)
    | (simp only [Rep] at R1 R2; subst R1 R2; exact ⟨rfl, by simp [sameD]⟩)
theorem od_eqS {d e : D} (h : scD d e = true) : OpD K rEq d e (.bl (sameD d e)) := fun T H v1 v2 Q s R1 R2 k => by
  obtain ⟨h1, h2⟩ := scD_v h R1 R2
  exact ⟨h1, by rw [h2]; exact k _ T H .same .bl⟩
theorem od_neS {d e : D} (h : scD d e = true) : OpD K rNe d e (.bl (!sameD d e)) := fun T H v1 v2 Q s R1 R2 k => by
  obtain ⟨h1, h2⟩ := scD_v h R1 R2
  exact ⟨h1, by rw [h2]; exact k _ T H .same .bl⟩
/-! ### is -/
def isNonD : D → Bool | .non => true | _ => false
theorem isNon_v {T : Hp} {d : D} {v : V} (R : Rep K T d v) : decide (v = .non) = isNonD d := by
  cases d <;> simp only [Rep] at R <;> first
    | (subst R; simp [isNonD]; done)
    | (obtain ⟨a, xs, e, _⟩ := R; subst e; simp [isNonD])
def rIsNn : R2 := fun x y H Q => y = .non ∧ Q (.bl (decide (x = .non))) H
def rNotNn : R2 := fun x y H Q => y = .non ∧ Q (.bl (!decide (x = .non))) H
theorem od_isN {d : D} : OpD K rIsNn d .non (.bl (isNonD d)) := fun T H v1 v2 Q s R1 R2 k => ⟨rep_non R2, by rw [isNon_v R1]; exact k _ T H .same .bl⟩
theorem od_notN {d : D} : OpD K rNotNn d .non (.bl (!isNonD d)) := fun T H v1 v2 Q s R1 R2 k => ⟨rep_non R2, by rw [isNon_v R1]; exact k _ T H .same .bl⟩
/-- x is a bool, x any value -/
def rIsBA : R2 := fun x y H Q => ∃ b : Bool, y = .bl b ∧ Q (.bl (decide (x = .bl b))) H
def rNotBA : R2 := fun x y H Q => ∃ b : Bool, y = .bl b ∧ Q (.bl (!decide (x = .bl b))) H
theorem op_isBA {X : Cx} : OpR X (compareOp .Is) rIsBA := by
  intro pins s σ H x y v u Q I rx ry h
  obtain ⟨b, rfl, q⟩ := h
  cases (show u = Value.bool b from ry)
  by_cases e : x = .bl b
  · subst e
    cases (show v = Value.bool b from rx)
    exact wpAny_is_self rfl ⟨.bl true, H, I, rfl, by simpa using q⟩
  · have ne : v ≠ .bool b := fun z => by
      subst z
      have z := rx.abs
      exact e (Option.some.inj z).symm
    have hp : plainIs v (.bool b) = true := by
      cases x <;> first
        | (cases rx; rfl)
        | (obtain ⟨t, rfl⟩ := rx; rfl)
    exact wpAny_is_other hp ne ⟨.bl false, H, I, rfl, by simpa [e] using q⟩
theorem op_notBA {X : Cx} : OpR X (compareOp .IsNot) rNotBA := by
  intro pins s σ H x y v u Q I rx ry h
  obtain ⟨b, rfl, q⟩ := h
  cases (show u = Value.bool b from ry)
  by_cases e : x = .bl b
  · subst e
    cases (show v = Value.bool b from rx)
    exact wpAny_isNot_self rfl ⟨.bl false, H, I, rfl, by simpa using q⟩
  · have ne : v ≠ .bool b := fun z => by
      subst z
      have z := rx.abs
      exact e (Option.some.inj z).symm
    have hp : plainIs v (.bool b) = true := by
      cases x <;> first
        | (cases rx; rfl)
        | (obtain ⟨t, rfl⟩ := rx; rfl)
    exact wpAny_isNot_other hp ne ⟨.bl true, H, I, rfl, by simpa [e] using q⟩
def isBlD (b : Bool) : D → Bool | .bl c => decide (c = b) | _ => false
theorem isBl_v {T : Hp} {d : D} {v : V} {b : Bool} (R : Rep K T d v) : decide (v = .bl b) = isBlD b d := by
  cases d <;> simp only [Rep] at R <;> first
    | (subst R; simp [isBlD]; done)
    | (obtain ⟨a, xs, e, _⟩ := R; subst e; simp [isBlD])
theorem od_isB {d : D} {b : Bool} : OpD K rIsBA d (.bl b) (.bl (isBlD b d)) := fun T H v1 v2 Q s R1 R2 k => ⟨b, rep_bl R2, by rw [isBl_v R1]; exact k _ T H .same .bl⟩
theorem od_notB {d : D} {b : Bool} : OpD K rNotBA d (.bl b) (.bl (!isBlD b d)) := fun T H v1 v2 Q s R1 R2 k => ⟨b, rep_bl R2, by rw [isBl_v R1]; exact k _ T H .same .bl⟩
/-! ### texts -/
def rInSg : R2 := fun x y H Q => ∃ (c : Nat) (z : Str), x = .str ⟨#[c]⟩ ∧ y = .str z ∧ Q (.bl (decide (c ∈ z.cps.toList))) H
def rNotInSg : R2 := fun x y H Q => ∃ (c : Nat) (z : Str), x = .str ⟨#[c]⟩ ∧ y = .str z ∧ Q (.bl (!decide (c ∈ z.cps.toList))) H
theorem od_inSg {c : Nat} {z : Str} : OpD K rInSg (.str ⟨#[c]⟩) (.str z) (.bl (decide (c ∈ z.cps.toList))) := fun T H v1 v2 Q s R1 R2 k => ⟨c, z, rep_str R1, rep_str R2, k _ T H .same .bl⟩
theorem od_notInSg {c : Nat} {z : Str} : OpD K rNotInSg (.str ⟨#[c]⟩) (.str z) (.bl (!decide (c ∈ z.cps.toList))) := fun T H v1 v2 Q s R1 R2 k => ⟨c, z, rep_str R1, rep_str R2, k _ T H .same .bl⟩
def rAddS : R2 := fun x y H Q => ∃ i j : Str, x = .str i ∧ y = .str j ∧ i.length + j.length ≤ sizeLine ∧ Q (.str (i ++ j)) H
theorem od_addS {i j : Str} (h : i.length + j.length ≤ sizeLine) : OpD K rAddS (.str i) (.str j) (.str (i ++ j)) := fun T H v1 v2 Q s R1 R2 k => ⟨i, j, rep_str R1, rep_str R2, h, k _ T H .same .str⟩
/-! ### items -/
theorem atI_reps {T : Hp} {l : List D} {xs : List V} {i : Int} {d : D} (R : Reps K T l xs) (h : atI l i = some d) : ∃ v, atI xs i = some v ∧ Rep K T d v := by
  unfold atI at h ⊢
  rw [R.length]
  cases e : ixN l.length i with
  | none => rw [e] at h; cases h
  | some j =>
    rw [e] at h
    exact R.get h
theorem od_ixL {l : List D} {i : Int} {d : D} (h : atI l i = some d) : OpD K (rIx K) (.lst l) (.int i) d := fun T H v1 v2 Q s R1 R2 k => by
  obtain ⟨a, xs, rfl, h2, h3⟩ := rep_lst R1
  obtain ⟨v, h4, h5⟩ := atI_reps h3 h
  exact .inl ⟨a, xs, i, v, rfl, rep_int R2, .of (s _ _ h2), h4, k v T H .same h5⟩
theorem od_ixT {l : List D} {i : Int} {d : D} (h : atI l i = some d) : OpD K (rIx K) (.tup l) (.int i) d := fun T H v1 v2 Q s R1 R2 k => by
  obtain ⟨a, xs, rfl, h2, h3⟩ := rep_tup R1
  obtain ⟨v, h4, h5⟩ := atI_reps h3 h
  exact .inr (.inl ⟨a, xs, i, v, rfl, rep_int R2, s.st h2, h4, k v T H .same h5⟩)
theorem od_ixS {z : Str} {i : Int} {c : Nat} (hz : z.length ≤ sizeLine) (h : atI z.cps.toList i = some c) : OpD K (rIx K) (.str z) (.int i) (.str ⟨#[c]⟩) := fun T H v1 v2 Q s R1 R2 k =>
  .inr (.inr ⟨z, i, c, rep_str R1, rep_int R2, hz, h, k _ T H .same .str⟩)
/-! ### tuples put together -/
theorem od_catT {l l2 : List D} (h : l.length + l2.length ≤ sizeLine) : OpD K (rCatA K) (.tup l) (.tup l2) (.tup (l ++ l2)) := fun T H v1 v2 Q s R1 R2 k => by
  obtain ⟨a, xs, rfl, h2, h3⟩ := rep_tup R1
  obtain ⟨b, ys, rfl, h4, h5⟩ := rep_tup R2
  refine ⟨a, b, xs, ys, rfl, rfl, s.st h2, s.st h4, by rw [h3.length, h5.length]; exact h, fun e => ?_, fun e1 e2 => ?_, fun _ _ p hp => ?_⟩
  · have e' : l = [] := List.eq_nil_of_length_eq_zero (by rw [← h3.length, e]; rfl)
    subst e'
    exact k _ T H .same (.tup h4 h5)
  · have e' : l2 = [] := List.eq_nil_of_length_eq_zero (by rw [← h5.length, e2]; rfl)
    subst e'
    rw [List.append_nil] at k
    exact k _ T H .same (.tup h2 h3)
  · have e1 := Ext.new (o := .tup (xs ++ ys)) (s.back hp)
    exact k _ _ _ (.new hp) (.tup (.of upd_same) ((h3.mono e1).append (h5.mono e1)))
/-- lists put together: a new one -/
theorem od_catL {l l2 : List D} (h : l.length + l2.length ≤ sizeLine) : OpD K rCat (.lst l) (.lst l2) (.lst (l ++ l2)) := fun T H v1 v2 Q s R1 R2 k => by
  obtain ⟨a, xs, rfl, h2, h3⟩ := rep_lst R1
  obtain ⟨b, ys, rfl, h4, h5⟩ := rep_lst R2
  refine ⟨a, b, xs, ys, rfl, rfl, s _ _ h2, s _ _ h4, by rw [h3.length, h5.length]; exact h, fun p hp => ?_⟩
  have e1 := Ext.new (o := .lst (xs ++ ys)) (s.back hp)
  exact k _ _ _ (.new hp) (.lst upd_same ((h3.mono e1).append (h5.mono e1)))
/-! ### built-ins -/
def lenD : D → Option Nat
  | .str x => if x.length ≤ sizeLine then some x.length else none
  | .tup l => some l.length
  | .lst l => some l.length
  | _ => none
def rLenD (K : PySem.W.Frag) : List V → Hp → VK → Prop := fun xs H Q => ∃ x n, xs = [x] ∧ LenV K x H n ∧ Q (.int n) H
theorem reps1 {T : Hp} {d : D} {vs : List V} (R : Reps K T [d] vs) : ∃ v, vs = [v] ∧ Rep K T d v := by
  simp only [Reps] at R
  obtain ⟨v, _, rfl, hv, rfl⟩ := R
  exact ⟨v, rfl, hv⟩
theorem reps2 {T : Hp} {d e : D} {vs : List V} (R : Reps K T [d, e] vs) : ∃ v u, vs = [v, u] ∧ Rep K T d v ∧ Rep K T e u := by
  simp only [Reps] at R
  obtain ⟨v, _, rfl, hv, u, _, rfl, hu, rfl⟩ := R
  exact ⟨v, u, rfl, hv, hu⟩
theorem oa_len {d : D} {n : Nat} (h : lenD d = some n) : OpDA K (rLenD K) [d] (.int n) := fun T H vs Q s R k => by
  obtain ⟨v, rfl, hv⟩ := reps1 R
  refine ⟨v, n, rfl, ?_, k _ T H .same .int⟩
  cases d with
  | str x =>
    rw [rep_str hv]
    simp only [lenD] at h
    by_cases hl : x.length ≤ sizeLine
    · rw [if_pos hl] at h; exact ⟨hl, (Option.some.inj h).symm⟩
    · rw [if_neg hl] at h; cases h
  | tup l =>
    obtain ⟨a, xs, rfl, h2, h3⟩ := rep_tup hv
    exact .inr ⟨xs, s.st h2, by rw [h3.length]; exact (Option.some.inj h).symm⟩
  | lst l =>
    obtain ⟨a, xs, rfl, h2, h3⟩ := rep_lst hv
    exact .inl ⟨xs, .of (s _ _ h2), by rw [h3.length]; exact (Option.some.inj h).symm⟩
  | _ => cases h
def rAbs : List V → Hp → VK → Prop := fun xs H Q => ∃ i, xs = [.int i] ∧ Q (.int (if i < 0 then -i else i)) H
theorem oa_abs {i : Int} : OpDA K rAbs [.int i] (.int i.natAbs) := fun T H vs Q s R k => by
  obtain ⟨v, rfl, hv⟩ := reps1 R
  rw [rep_int hv]
  refine ⟨i, rfl, ?_⟩
  have e : (if i < 0 then -i else i) = (i.natAbs : Int) := by split <;> omega
  rw [e]
  exact k _ T H .same .int
def rInt1 : List V → Hp → VK → Prop := fun xs H Q => (∃ i, xs = [.int i] ∧ Q (.int i) H) ∨ ∃ k, xs = [.bl k] ∧ Q (.int (if k then 1 else 0)) H
theorem oa_intI {i : Int} : OpDA K rInt1 [.int i] (.int i) := fun T H vs Q s R k => by
  obtain ⟨v, rfl, hv⟩ := reps1 R
  rw [rep_int hv]
  exact .inl ⟨i, rfl, k _ T H .same .int⟩
theorem oa_intB {b : Bool} : OpDA K rInt1 [.bl b] (.int (if b then 1 else 0)) := fun T H vs Q s R k => by
  obtain ⟨v, rfl, hv⟩ := reps1 R
  rw [rep_bl hv]
  exact .inr ⟨b, rfl, k _ T H .same .int⟩
def rTupOf (K : PySem.W.Frag) : List V → Hp → VK → Prop := fun xs H Q => ∃ p ys, xs = [.ref p] ∧ ((SqL K H p ys ∧ ∀ l, H l = none → Q (.ref l) (upd H l (.tup ys))) ∨ (SqT K H p ys ∧ Q (.ref p) H))
theorem oa_tupL {l : List D} : OpDA K (rTupOf K) [.lst l] (.tup l) := fun T H vs Q s R k => by
  obtain ⟨v, rfl, hv⟩ := reps1 R
  obtain ⟨a, xs, rfl, h2, h3⟩ := rep_lst hv
  refine ⟨a, xs, rfl, .inl ⟨.of (s _ _ h2), fun p hp => ?_⟩⟩
  have e1 := Ext.new (o := .tup xs) (s.back hp)
  exact k _ _ _ (.new hp) (.tup (.of upd_same) (h3.mono e1))
theorem oa_tupT {l : List D} : OpDA K (rTupOf K) [.tup l] (.tup l) := fun T H vs Q s R k => by
  obtain ⟨v, rfl, hv⟩ := reps1 R
  obtain ⟨a, xs, rfl, h2, h3⟩ := rep_tup hv
  exact ⟨a, xs, rfl, .inr ⟨s.st h2, k _ T H .same (.tup h2 h3)⟩⟩
/-! ### isinstance -/
def tyD : D → Option String
  | .non => some "NoneType" | .bl _ => some "bool" | .int _ => some "int" | .str _ => some "str" | .tup _ => some "tuple" | .lst _ => some "list" | _ => none
theorem tyx_of {T H : Hp} {d : D} {v : V} {n : String} (s : Ext T H) (R : Rep K T d v) (h : tyD d = some n) : TyX K H v (.type n) := by
  cases d with
  | non => rw [rep_non R]; cases h; exact .base .non
  | bl b => rw [rep_bl R]; cases h; exact .base (.bl b)
  | int b => rw [rep_int R]; cases h; exact .base (.int b)
  | str b => rw [rep_str R]; cases h; exact .base (.str b)
  | ty _ => cases h
  | ref _ => cases h
  | rol _ => cases h
  | tup l =>
    cases h
    obtain ⟨a, xs, rfl, h2, h3⟩ := rep_tup R
    rcases s.st h2 with (e | ⟨o, e⟩) | ⟨o, its, m, e, c, _⟩
    · exact .base (.tup e)
    · exact .fTuple e
    · exact .kTuple e c
  | lst l =>
    cases h
    obtain ⟨a, xs, rfl, h2, h3⟩ := rep_lst R
    exact .base (.lst (s _ _ h2))
theorem oa_isi {d : D} {n c : String} {b : Bool} (h : tyD d = some n) (hk : kitB n c = some b) : OpDA K (rIsi K) [d, .ty c] (.bl b) := fun T H vs Q s R k => by
  obtain ⟨v, u, rfl, hv, hu⟩ := reps2 R
  rw [rep_ty hu]
  exact ⟨v, .ty c, .type n, .type c, b, rfl, .ty c, tyx_of s hv h, kit_ty hk, k _ T H .same .bl⟩
end
end FD
set_option Elab.async false
set_option linter.all false
set_option maxRecDepth 100000
set_option maxHeartbeats 4000000
/-! what is walked: texts, enumerate of texts, lists, tuples -/
namespace FD
open PySem PySem.Spec PyProof.Rows L2
/-! ### enumerate(text) -/
def IteS (x : Str) : It := ⟨fun i _ => i < x.cps.size, fun i H v H' => ∃ T c, v = .ref T ∧ H T = none ∧ H' = upd H T (.tup [.int (i : Nat), .str ⟨#[c]⟩]) ∧ x.cps[i]? = some c, fun i _ => i = x.cps.size⟩
theorem turn_enumS {P : Program} {w : World} {K : PySem.W.Frag} {elts : List Expr} {kk : Nat} {tpos : Pos} (e it : Addr) (z : Str) (t : Tok) :
    Turn P w K (.Tuple elts kk tpos) (IteS z) [e, it] e (fun i h => (∃ old, IsEnum h e it ((i : Nat) : Int) old) ∧ h.IsStrIter it (strIterType z) z t i ∧ e ≠ it) where
  mem := by simp
  obj := fun i h st b hb => by
    obtain ⟨⟨old, he⟩, ⟨o, ho, hc, hd⟩, _⟩ := st
    have e' : b = e ∨ b = it := by simpa using hb
    rcases e' with z | z
    · rw [z]; exact ⟨_, he, fun v q => nomatch q⟩
    · rw [z]; exact ⟨o, ho, fun v q => by rw [hd] at q; cases q⟩
  keep := fun i h h' st k => let ⟨⟨old, he⟩, ⟨o, ho, r⟩, hne⟩ := st; ⟨⟨old, k e (by simp) _ he⟩, ⟨o, k it (by simp) o ho, r⟩, hne⟩
  item := by
    intro X hP hw hK hc i pins s σ H E I hf st hg
    subst hP hw hK
    obtain ⟨⟨old, he⟩, hit, hne⟩ := st
    have hel : e < s.heap.objs.size := Heap.lt_size he
    have hil : it < s.heap.objs.size := by obtain ⟨_, q, _⟩ := hit; exact Heap.lt_size q
    have Dr : Draws X.prog X.w X.A.in1 it [it] z.cps.size (fun i v => ∃ c u, z.cps[i]? = some c ∧ v = .str ⟨#[c]⟩ u) (fun i h => h.IsStrIter it (strIterType z) z t i) := Draws.text (show X.A.in1.handled = none from I.ok.hd hc) it z t
    refine wpAny_pyNext_enum_itemD Dr he hit hg hne (by simpa using hne) fun x h' tk hx ho hit' hT hsz hk => ?_
    obtain ⟨c, u, hcx, rfl⟩ := hx
    refine ⟨_, rfl, wpAny_letOwnedTupleGo_enum (s := { s with heap := h', toks := tk + 1 }) ho fun h'' he' sb => ?_⟩
    have hT2 : h''.get? s.heap.objs.size = some { cls := .type "tuple", data := .seq #[.int i tk, .str ⟨#[c]⟩ u] } := (sb.2 _ (Nat.ne_of_gt hel)).trans hT
    have new : ObjOk X.prog X.w (upd H s.heap.objs.size (.tup [.int (i : Nat), .str ⟨#[c]⟩])) h'' s.heap.objs.size (.tup [.int (i : Nat), .str ⟨#[c]⟩]) :=
      ⟨by show 2 ≤ sizeLine; decide, [.int i tk, .str ⟨#[c]⟩ u], .cons ⟨_, rfl⟩ (.cons ⟨_, rfl⟩ .nil), ⟨_, hT2, rfl, _, rfl⟩⟩
    have I1 : Inv X pins σ (upd H s.heap.objs.size (.tup [.int (i : Nat), .str ⟨#[c]⟩])) { s with heap := h'', toks := tk + 1 } :=
      I.turnedNew (ch := [e, it]) (fun b ob hb q => (sb.2 b (fun z => hb (by simp [z]))).trans (hk b ob (fun z => hb (by simp [z])) (fun z => hb (by simp [z])) q)) hf (Nat.le_refl _) new
    refine ⟨.ref s.heap.objs.size, _, I1, rfl, ⟨_, c, rfl, I.hok.fresh (Nat.le_refl _), rfl, hcx⟩, ⟨⟨.str ⟨#[c]⟩ u, ?_⟩, Dr.frame _ _ _ hit' fun b hb o q => ?_, hne⟩, fun b hb => ?_⟩
    · have e1 : ((i + 1 : Nat) : Int) = (i : Int) + 1 := by omega
      rw [e1]; exact he'
    · have eb : b = it := by simpa using hb
      rw [eb] at q ⊢
      exact (sb.2 it (Ne.symm hne)).trans q
    · have hb' : b < s.heap.objs.size := by
        have e' : b = e ∨ b = it := by simpa using hb
        rcases e' with z | z
        · rw [z]; exact hel
        · rw [z]; exact hil
      rw [upd_ne (Nat.ne_of_lt hb')]
      exact (hf b hb).1
  done := by
    intro X hP hw hK hc i pins s σ H E I hf st hg
    subst hP hw hK
    obtain ⟨⟨old, he⟩, hit, hne⟩ := st
    obtain ⟨f0, f1, f2, f3, f4, f5⟩ := hf it (by simp)
    have hg : i = z.cps.size := hg
    subst hg
    have Dr : Draws X.prog X.w X.A.in1 it [it] z.cps.size (fun i v => ∃ c u, z.cps[i]? = some c ∧ v = .str ⟨#[c]⟩ u) (fun i h => h.IsStrIter it (strIterType z) z t i) := Draws.text (show X.A.in1.handled = none from I.ok.hd hc) it z t
    exact wpAny_pyNext_enum_endD Dr he hit fun h' eb => ⟨rfl, I.turned (t' := s.toks) (fun b o hb q => eb b o hb q) f0 f1 f3 f4 f5⟩
  self := fun A i s Q E st h => let ⟨⟨_, he⟩, _⟩ := st; wpAny_pyIter_enum he h
def iEnumS (ta : TA) : TI := fun σ H R => ta σ H fun vs H1 => ∃ z, vs = [.str z] ∧ R (IteS z) H1
theorem pi_enumS {X : Cx} {e : Expr} {ta : TA} {p pos tpos : Pos} {elts : List Expr} {kk : Nat} (hg : Gl X "enumerate") (hm : X.mg "enumerate" = none) (ha : PA X [e] ta) (hs : starEach [e] X.env = [(false, eval e X.env)]) :
    PI X (.Tuple elts kk tpos) (.Call (.Name "enumerate" p) [e] [] pos) (iEnumS ta) := by
  refine ⟨fun pins s σ H R I h => ?_⟩
  refine Call_ (ld_blt I hg hm boot_enumerate (PyProof.Rows.callWith_type1 (thn (ha.run pos pins s σ H _ I h) fun us s1 ⟨vs, H1, I1, r1, q1⟩ => ?_) hs rfl))
  obtain ⟨z, ex, q⟩ := q1
  subst ex
  cases r1 with
  | cons r rr =>
    cases rr
    obtain ⟨t, rfl⟩ := r
    refine call_enumerate_str fun h' he hit hsz hk => wpAny_pyIter_enum he ?_
    have I2 : Inv X pins σ H1 { s1 with heap := h' } := I1.kept (t' := s1.toks) hk
    refine ⟨s1.heap.objs.size + 1, [s1.heap.objs.size + 1, s1.heap.objs.size], _, _, H1, rfl, I2, turn_enumS (s1.heap.objs.size + 1) s1.heap.objs.size z t, ⟨⟨.none, he⟩, hit, Nat.succ_ne_self _⟩, fun b hb => ?_, q⟩
    have e' : b = s1.heap.objs.size + 1 ∨ b = s1.heap.objs.size := by simpa using hb
    have hle : s1.heap.objs.size ≤ b := by
      rcases e' with z | z
      · rw [z]; exact Nat.le_add_right _ _
      · rw [z]; exact Nat.le_refl _
    exact I1.fpOk hle (I1.hok.fresh hle)
section
variable {ρ : Rsc} {J : Jx ρ} {Δ : Dl} {r : ρ.R} {q : D → ρ.R → Prop} {a b c e tg : Expr} {es rest : List Expr} {pos : Pos} {P : Post ρ.R} {qi : List D → ρ.R → Prop}
def signs (z : Str) : List D := z.cps.toList.map fun c => D.str ⟨#[c]⟩
theorem itd_str {K : PySem.W.Frag} {T : Hp} {z : Str} : ItD K T (Its z) (signs z) := fun Tc H i e1 e2 => by
  unfold signs
  rw [List.length_map, Array.length_toList]
  refine ⟨fun hi => ⟨hi, fun x H' ⟨eH, cc, ec, ex⟩ => ?_⟩, fun hi => by show z.cps.size ≤ i; omega⟩
  subst eH ex
  exact ⟨Tc, _, by rw [List.getElem?_map, Array.getElem?_toList, ec]; rfl, .same, .str⟩
theorem hi_str (h : HE J e Δ r fun d r1 => ∃ z, d = .str z ∧ qi (signs z) r1) : HI J tg e Δ r qi := fun σ H R ⟨T, C, k⟩ => by
  refine of_pi (pi_str pe_wp) (h σ H _ ⟨T, C, fun d r1 ⟨z, hd, hq⟩ T1 H1 v e1 C1 R1 => ?_⟩)
  subst hd
  exact ⟨z, rep_str R1, k _ r1 hq T1 H1 _ e1 C1 itd_str⟩
def enumS (z : Str) : List D := z.cps.toList.mapIdx fun i c => D.tup [.int (i : Nat), .str ⟨#[c]⟩]
theorem itd_enumS {K : PySem.W.Frag} {T : Hp} {z : Str} : ItD K T (IteS z) (enumS z) := fun Tc H i e1 e2 => by
  unfold enumS
  rw [List.length_mapIdx, Array.length_toList]
  refine ⟨fun hi => ⟨hi, fun x H' ⟨t, cc, ex, nt, eH, ec⟩ => ?_⟩, fun hi => hi⟩
  subst eH ex
  have hT : Tc t = none := e2.back nt
  exact ⟨upd Tc t (.tup [.int (i : Nat), .str ⟨#[cc]⟩]), _, by rw [List.getElem?_mapIdx, Array.getElem?_toList, ec]; rfl, .new nt, .tup (.of upd_same) (.cons .int (.cons .str .nil))⟩
theorem hi_enumS {elts : List Expr} {kk : Nat} {p tpos : Pos} (hg : Gl J.X "enumerate") (hm : J.X.mg "enumerate" = none) (h : HA J [e] Δ r fun ds r1 => ∃ z, ds = [.str z] ∧ qi (enumS z) r1) (hs : starEach [e] J.X.env = [(false, eval e J.X.env)]) :
    HI J (.Tuple elts kk tpos) (.Call (.Name "enumerate" p) [e] [] pos) Δ r qi := fun σ H R ⟨T, C, k⟩ => by
  refine of_pi (pi_enumS hg hm pa_wp hs) (h σ H _ ⟨T, C, fun ds r1 ⟨z, hd, hq⟩ T1 H1 vs e1 C1 R1 => ?_⟩)
  subst hd
  obtain ⟨v, rfl, hv⟩ := reps1 R1
  exact ⟨z, by rw [rep_str hv], k _ r1 hq T1 H1 _ e1 C1 itd_enumS⟩
def enumD (l : List D) : List D := l.mapIdx fun i d => D.tup [.int (i : Nat), d]
theorem itd_enumL {K : PySem.W.Frag} {T : Hp} {p : Addr} {xs : List V} {l : List D} (h : SqL K T p xs) (hr : Reps K T l xs) : ItD K T (Ite K p) (enumD l) := fun Tc H i e1 e2 => by
  have h' : SqL K H p xs := (e1.trans e2).sl h
  unfold enumD
  rw [List.length_mapIdx]
  refine ⟨fun hi => ?_, fun hi => ⟨xs, h', by rw [hr.length]; omega⟩⟩
  obtain ⟨x, hx, rx⟩ := hr.get (List.getElem?_eq_getElem hi)
  refine ⟨⟨xs, x, h', hx⟩, fun y H' ⟨t, x', ey, nt, eH, hy⟩ => ?_⟩
  subst eH ey
  have e3 := hy xs h'
  rw [hx] at e3
  cases e3
  have hT : Tc t = none := e2.back nt
  have eN := Ext.new (o := .tup [.int (i : Nat), x]) hT
  exact ⟨_, _, by rw [List.getElem?_mapIdx, List.getElem?_eq_getElem hi]; rfl, .new nt, .tup (.of upd_same) (.cons .int (.cons (rx.mono (e1.trans eN)) .nil))⟩
theorem hi_enumL {elts : List Expr} {kk : Nat} {p tpos : Pos} (hg : Gl J.X "enumerate") (hm : J.X.mg "enumerate" = none) (h : HA J [e] Δ r fun ds r1 => ∃ l, ds = [.lst l] ∧ qi (enumD l) r1) (hs : starEach [e] J.X.env = [(false, eval e J.X.env)]) :
    HI J (.Tuple elts kk tpos) (.Call (.Name "enumerate" p) [e] [] pos) Δ r qi := fun σ H R ⟨T, C, k⟩ => by
  refine of_pi (pi_enum hg hm pa_wp hs) (h σ H _ ⟨T, C, fun ds r1 ⟨l, hd, hq⟩ T1 H1 vs e1 C1 R1 => ?_⟩)
  subst hd
  obtain ⟨v, rfl, hv⟩ := reps1 R1
  obtain ⟨p, xs, rfl, h2, h3⟩ := rep_lst hv
  exact ⟨p, xs, rfl, .of (C1.sub _ _ h2), k _ r1 hq T1 H1 _ e1 C1 (itd_enumL (.of h2) h3)⟩
/-! ### slices -/
def tDO (J : Jx ρ) (Δ : Dl) (r : ρ.R) (q : Option Int → ρ.R → Prop) : TO := fun σ H Q => ∃ T, J.Cv T H σ Δ r ∧ ∀ o r', q o r' → ∀ T' H', Ext T T' → J.Cv T' H' σ Δ r' → Q o H'
def wpO (X : Cx) (e : Option Expr) : TO := fun σ H Q => ∀ pins s, Inv X pins σ H s → wpAny (model X.prog X.w) X.A (evalPart e X.env) (fun u s' => ∃ o H', Inv X pins σ H' s' ∧ IsPart u o ∧ Q o H') X.xe s
theorem po_wp {X : Cx} {e : Option Expr} : PO X e (wpO X e) := ⟨fun pins s _ _ _ I h => h pins s I⟩
theorem of_po {X : Cx} {e : Option Expr} {t : TO} (h : PO X e t) {σ : L2.St} {H : Hp} {Q : Option Int → Hp → Prop} (q : t σ H Q) : wpO X e σ H Q := fun pins s I => h.run pins s σ H Q I q
def HO' (J : Jx ρ) (e : Option Expr) (Δ : Dl) (r : ρ.R) (q : Option Int → ρ.R → Prop) : Prop := ∀ σ H Q, tDO J Δ r q σ H Q → wpO J.X e σ H Q
theorem ho_none {q : Option Int → ρ.R → Prop} (h : q none r) : HO' J none Δ r q := fun σ H Q ⟨T, C, k⟩ => of_po po_none (k none r h T H (Ext.refl T) C)
theorem ho_some {q : Option Int → ρ.R → Prop} (h : HE J e Δ r fun d r1 => ∃ i, d = .int i ∧ q (some i) r1) : HO' J (some e) Δ r q := fun σ H Q ⟨T, C, k⟩ => by
  refine of_po (po_some pe_wp) (h σ H _ ⟨T, C, fun d r1 ⟨i, hd, hq⟩ T1 H1 v e1 C1 R1 => ?_⟩)
  subst hd
  exact ⟨i, rep_int R1, k _ r1 hq T1 H1 e1 C1⟩
def OpS (K : PySem.W.Frag) (rr : V → Option Int → Option Int → Hp → VK → Prop) (d : D) (lo hi : Option Int) (d' : D) : Prop :=
  ∀ T H v (Q : VK), Ext T H → Rep K T d v → (∀ v' T' H', Gro T H T' H' → Rep K T' d' v' → Q v' H') → rr v lo hi H Q
theorem he_slice {lo hi : Option Expr} {rr : V → Option Int → Option Int → Hp → VK → Prop} {p2 : Pos} (ho : SlR J.X rr) (h : HE J a Δ r fun d1 r1 => HO' J lo Δ r1 fun l r2 => HO' J hi Δ r2 fun u r3 => ∃ d, OpS J.X.K rr d1 l u d ∧ q d r3) :
    HE J (.Subscript a (.Slice lo hi none p2) pos) Δ r q := fun σ H Q ⟨T, C, k⟩ => by
  refine of_pe (pe_slice ho pe_wp po_wp po_wp) (h σ H _ ⟨T, C, fun d1 r1 h1 T1 H1 v e1 C1 R1 => h1 σ H1 _ ⟨T1, C1, fun l r2 h2 T2 H2 e2 C2 => h2 σ H2 _ ⟨T2, C2, fun u r3 h3 T3 H3 e3 C3 => ?_⟩⟩⟩)
  obtain ⟨d, od, hq⟩ := h3
  exact od T3 H3 v Q C3.sub (R1.mono (e2.trans e3)) fun v' T' H' g Rv => let ⟨e4, C4⟩ := C3.gro g; k d r3 hq T' H' v' (e1.trans (e2.trans (e3.trans e4))) C4 Rv
def cutD {α : Type} (xs : List α) (lo hi : Option Int) : List α := (xs.drop (HT.sIx xs.length 0 lo)).take (HT.sIx xs.length xs.length hi - HT.sIx xs.length 0 lo)
theorem Reps.cut {K : PySem.W.Frag} {T : Hp} {l : List D} {xs : List V} (R : Reps K T l xs) (lo hi : Option Int) : Reps K T (cutD l lo hi) (cutV xs lo hi) := by
  unfold cutD cutV
  rw [R.length]
  exact (R.drop _).take _
theorem os_str {K : PySem.W.Frag} {z : Str} {lo hi : Option Int} (hz : z.length ≤ sizeLine) : OpS K rSlS (.str z) lo hi (.str (cutS z lo hi)) := fun T H v Q s R k => ⟨z, rep_str R, hz, k _ T H .same .str⟩
theorem os_lst {K : PySem.W.Frag} {l : List D} {lo hi : Option Int} : OpS K (rSlL K) (.lst l) lo hi (.lst (cutD l lo hi)) := fun T H v Q s R k => by
  obtain ⟨a, xs, rfl, h2, h3⟩ := rep_lst R
  refine ⟨a, xs, rfl, .of (s _ _ h2), fun p hp => ?_⟩
  have e1 := Ext.new (o := .lst (cutV xs lo hi)) (s.back hp)
  exact k _ _ _ (.new hp) (.lst upd_same ((h3.mono e1).cut lo hi))
theorem os_rol {K : PySem.W.Frag} {l : List D} {lo hi : Option Int} : OpS K (rSlL K) (.rol l) lo hi (.lst (cutD l lo hi)) := fun T H v Q s R k => by
  obtain ⟨a, xs, rfl, h2, h3⟩ := rep_rol R
  refine ⟨a, xs, rfl, s.sl h2, fun p hp => ?_⟩
  have e1 := Ext.new (o := .lst (cutV xs lo hi)) (s.back hp)
  exact k _ _ _ (.new hp) (.lst upd_same ((h3.mono e1).cut lo hi))
theorem os_tup {K : PySem.W.Frag} {l : List D} {lo hi : Option Int} : OpS K (rSlA K) (.tup l) lo hi (.tup (cutD l lo hi)) := fun T H v Q s R k => by
  obtain ⟨a, xs, rfl, h2, h3⟩ := rep_tup R
  refine ⟨a, xs, rfl, s.st h2, fun hw => ?_, fun hw p hp => ?_⟩
  · have e : cutD l lo hi = l := by
      unfold cutD
      rw [h3.length] at hw
      rw [hw.1, hw.2]
      simp
    rw [e] at k
    exact k _ T H .same (.tup h2 h3)
  · have e1 := Ext.new (o := .tup (cutV xs lo hi)) (s.back hp)
    exact k _ _ _ (.new hp) (.tup (.of upd_same) ((h3.mono e1).cut lo hi))
/-! ### x op= e -/
theorem hs_aug {op : Operator} {rr : R2} {i : Nat} {x : Str} {pos' : Pos} {d0 : D} (ok : J.Ok) (ho : OpR J.X (inplaceOp op) rr) (hi : J.X.N[i]? = some x) (hx : Loc J.X.env.scope x) (h0 : Δ[i]? = some (some (.val d0)))
    (h : HE J e Δ r fun d1 r1 => ∃ d, OpD J.X.K rr d0 d1 d ∧ P.nx (Δ.set i (some (.val d))) r1) (hf : J.X.fn x = true ∨ J.X.env.scope.names.lookup x = some .local) : HS J (.AugAssign (.Name x pos') op e pos) Δ r P := fun D σ H ⟨T, C, k1, _⟩ => by
  obtain ⟨v0, e0, R0⟩ := C.val i d0 h0
  refine of_ps (ps_aug (ti := rr) ok.nd hi hx pe_wp (fun pins s σ H x y v u Q I rx ry q => ho pins s σ H x y v u Q I rx ry q) hf) ⟨v0, e0, h σ H _ ⟨T, C, fun d1 r1 h1 T1 H1 v e1 C1 R1 => ?_⟩⟩
  obtain ⟨d, od, hq⟩ := h1
  exact od T1 H1 v0 v _ C1.sub (R0.mono e1) R1 fun v' T' H' g Rv => let ⟨e2, C2⟩ := C1.gro g; k1 _ r1 hq T' H' _ (e1.trans e2) (C2.setVal Rv)
/-! ### x.append(e), x an own list of a slot -/
theorem hs_append {i : Nat} {x : Str} {l : List D} {xp ap cp : Pos} (ok : J.Ok) (hi : J.X.N[i]? = some x) (hv : Vis J.X.env.scope x) (h0 : Δ[i]? = some (some (.own l)))
    (h : HE J e Δ r fun d r1 => l.length < sizeLine ∧ P.nx (Δ.set i (some (.own (l ++ [d])))) r1)
    (hs : swapsWith (.Call (.Attribute (.Name x xp) "append" ap) [e] [] cp) none pos.line J.X.env = pure false) (hbase : attributeBase (.Name x xp) "append" J.X.env (eval (.Name x xp) J.X.env) = eval (.Name x xp) J.X.env)
    (hse : starEach (e :: []) J.X.env = (false, eval e J.X.env) :: starEach [] J.X.env) (hfew : ((backTo cp (starEach (e :: []) J.X.env)).all (fun x => !x.1) && (backToKw cp (keywordEach [] J.X.env)).all (fun x => x.1.isSome)
      && decide ((e :: []).length + ([] : List Keyword).length + (if ([] : List Keyword).isEmpty then 0 else 1) < 30)) = true)
    (hline : (ap.endLine == cp.line) = true) (hplain : (backTo cp (starEach [] J.X.env)).any (·.1) = false) (hd : (x == ("__debug__" : Str)) = false := by decide) (hcd : (x == ("__classdict__" : Str)) = false := by decide) :
    HS J (.Expr (.Call (.Attribute (.Name x xp) "append" ap) [e] [] cp) pos) Δ r P := fun D σ H ⟨T, C, k1, _⟩ => by
  obtain ⟨p, xs, e0, hp, R0, _⟩ := C.own i l h0
  have pa : PA J.X [e] (wpA J.X [e]) := pa_wp
  refine of_ps (ps_expr (pe_bm F.plainAttrs_list F.slot_list_append F.type_list_append mt_append (pe_var hi hv hd hcd) pa hbase hfew hline hse hplain) hs) ?_
  refine ⟨.ref p, e0, .inl ⟨rfl, xs, .of hp⟩, ?_⟩
  have hA : HA J [e] Δ r fun ds r1 => ∃ d, ds = [d] ∧ l.length < sizeLine ∧ P.nx (Δ.set i (some (.own (l ++ [d])))) r1 := ha_cons (he_imp h fun d r1 hh => ha_nil ⟨d, rfl, hh⟩) hse
  refine hA σ H _ ⟨T, C, fun ds r1 ⟨d, hd, hl, hq⟩ T1 H1 vs e1 C1 R1 => ?_⟩
  subst hd
  obtain ⟨v, rfl, hv⟩ := reps1 R1
  obtain ⟨p', xs', e0', hp', R0', _⟩ := C1.own i l h0
  rw [e0] at e0'
  cases e0'
  refine ⟨p, xs', v, rfl, rfl, hp', by rw [R0'.length]; exact hl, ?_⟩
  exact k1 _ r1 hq T1 _ σ e1 (C1.writeOwn h0 e0 (R0'.append (.cons hv .nil)))
end
end FD
set_option Elab.async false
set_option linter.all false
set_option maxRecDepth 100000
set_option maxHeartbeats 4000000
/-! boxes (lists that are written), tables of code objects; a, b = ..; raise; defs; join -/
namespace FD
open PySem PySem.Spec PyProof.Rows L2
/-! ### the resource: written lists, and the tables of code objects -/
def TabT (T H : Hp) (P : Addr) (q : Str) : Prop := ∃ ps : Array Value, H P = some (.tbl ps) ∧ TriplesOk ps.toList ∧ ∀ (pos : Pos) (cv : Value), codeAmong pos ps.toList = some cv → ∃ c, cv = .ref c ∧ T c = some (LamX.CodeO c q)
abbrev Bx := List (Addr × List D)
@[reducible] def ρT (tabs : List (Addr × Str)) : Rsc where
  R := Bx
  foot := fun r a => a ∈ r.map (·.1) ∨ a ∈ tabs.map (·.1)
  rel := fun K T H r => (∀ e ∈ r, ∃ xs, H e.1 = some (.lst xs) ∧ Reps K T e.2 xs) ∧ (r.map (·.1)).Nodup ∧ ∀ p ∈ tabs, TabT T H p.1 p.2
  mono := fun {K T T' H H' r} ⟨h1, h2, h3⟩ e k => by
    refine ⟨fun b hb => ?_, h2, fun p hp => ?_⟩
    · obtain ⟨xs, a1, a2⟩ := h1 b hb
      exact ⟨xs, by rw [k b.1 (.inl (List.mem_map_of_mem hb))]; exact a1, a2.mono e⟩
    · obtain ⟨ps, a1, a2, a3⟩ := h3 p hp
      refine ⟨ps, by rw [k p.1 (.inr (List.mem_map_of_mem hp))]; exact a1, a2, fun pos cv hc => ?_⟩
      obtain ⟨c, c1, c2⟩ := a3 pos cv hc
      exact ⟨c, c1, e _ _ c2⟩
/-- a box's new content -/
def setBox (r : Bx) (p : Addr) (l : List D) : Bx := r.map fun e => if e.1 = p then (p, l) else e
theorem setBox_fst (r : Bx) (p : Addr) (l : List D) : (setBox r p l).map (·.1) = r.map (·.1) := by
  unfold setBox
  rw [List.map_map]
  apply List.map_congr_left
  intro e _
  show (if e.1 = p then (p, l) else e).1 = e.1
  split
  · rename_i h; exact h.symm
  · rfl
section
variable {K : PySem.W.Frag} {tabs : List (Addr × Str)} {B : Bs (ρT tabs)} {T H : Hp} {σ : L2.St} {Δ : Dl} {r : Bx} {p : Addr} {l l' : List D} {xs : List V}
theorem Cov.box (C : Cov K (ρT tabs) B T H σ Δ r) (hp : (p, l) ∈ r) (R : Reps K T l' xs) : Cov K (ρT tabs) B T (upd H p (.lst xs)) σ Δ (setBox r p l') := by
  have f1 : (ρT tabs).foot r p := .inl (List.mem_map_of_mem (f := (·.1)) hp)
  obtain ⟨nT, _, hB⟩ := C.ft p f1
  obtain ⟨h1, h2, h3⟩ := C.rel
  obtain ⟨xs0, hp0, _⟩ := h1 (p, l) hp
  have hp0 : H p = some (.lst xs0) := hp0
  have feq : ∀ a, (ρT tabs).foot (setBox r p l') a ↔ (ρT tabs).foot r a := fun a => by
    show (a ∈ (setBox r p l').map (·.1) ∨ _) ↔ (a ∈ r.map (·.1) ∨ _)
    rw [setBox_fst]
  have ntab : ∀ e ∈ tabs, e.1 ≠ p := fun e he z => by
    obtain ⟨ps, a1, _⟩ := h3 e he
    rw [z, hp0] at a1; cases a1
  refine ⟨⟨fun a o q => ?_, C.ext, fun a o q nf => ?_, C.new, fun a q => ?_, ⟨fun e he => ?_, ?_, fun e he => ?_⟩, fun a q => ?_, C.f0⟩, C.len, C.val, fun j m q => ?_, C.apart⟩
  · rw [upd_ne (fun z => by rw [z, nT] at q; cases q)]; exact C.sub a o q
  · have z : a ≠ p := fun z => by
      subst z
      rcases hB with y | y
      · exact nf y
      · rw [q] at y; cases y
    rw [upd_ne z]; exact C.frame a o q nf
  · by_cases z : a = p
    · rw [z, upd_same] at q; cases q
    · rw [upd_ne z] at q; exact C.dom a q
  · obtain ⟨e0, he0, rfl⟩ := List.mem_map.mp he
    by_cases z : e0.1 = p
    · rw [if_pos z]
      exact ⟨xs, upd_same, R⟩
    · rw [if_neg z, upd_ne z]
      exact h1 e0 he0
  · rw [setBox_fst]; exact h2
  · obtain ⟨ps, a1, a2, a3⟩ := h3 e he
    exact ⟨ps, by rw [upd_ne (ntab e he)]; exact a1, a2, a3⟩
  · have q := (feq a).mp q
    obtain ⟨b1, b2, b3⟩ := C.ft a q
    refine ⟨b1, ?_, b3⟩
    by_cases z : a = p
    · rw [z, upd_same]; exact fun e => nomatch e
    · rw [upd_ne z]; exact b2
  · obtain ⟨p2, xs2, g1, g2, g3, g4, g5, g6⟩ := C.own j m q
    have z : p2 ≠ p := fun z => g6 (by rw [z]; exact f1)
    exact ⟨p2, xs2, g1, by rw [upd_ne z]; exact g2, g3, g4, g5, fun y => g6 ((feq p2).mp y)⟩
/-- a new list becomes a box -/
theorem Fre.toBox (F : Fre K (ρT tabs) B T H σ Δ r p l) : Aft K (ρT tabs) B T H ((p, l) :: r) := by
  have C := F.cov
  obtain ⟨h1, h2, h3⟩ := C.rel
  obtain ⟨xs, hx, rx⟩ := F.at_
  have np : p ∉ r.map (·.1) := fun z => F.nf (.inl z)
  refine ⟨C.sub, C.ext, C.frame, C.new, C.dom, ⟨fun e he => ?_, ?_, h3⟩, fun a q => ?_, C.f0⟩
  · rcases List.mem_cons.mp he with z | z
    · subst z; exact ⟨xs, hx, rx⟩
    · exact h1 e z
  · exact List.nodup_cons.mpr ⟨np, h2⟩
  · rcases q with q | q
    · rcases List.mem_cons.mp q with z | z
      · have z : a = p := z
        subst z
        exact ⟨F.nT, by rw [hx]; exact (fun e => nomatch e), .inr F.nB⟩
      · exact C.ft a (.inl z)
    · exact C.ft a (.inr q)
end
section
variable {tabs : List (Addr × Str)} {J : Jx (ρT tabs)} {Δ : Dl} {r : Bx} {q : D → Bx → Prop} {a b c e : Expr} {es : List Expr} {pos : Pos} {P : Post Bx}
/-- box[i] -/
theorem he_box (hs : PlainIx b) (ha : HE J a Δ r fun d1 r1 => HE J b Δ r1 fun d2 r2 => ∃ p l i d, d1 = .ref p ∧ d2 = .int i ∧ (p, l) ∈ r2 ∧ atI l i = some d ∧ q d r2) : HE J (.Subscript a b pos) Δ r q := fun σ H Q ⟨T, C, k⟩ => by
  refine of_pe (pe_ix ix_seq pe_wp pe_wp hs) (ha σ H _ ⟨T, C, fun d1 r1 h1 T1 H1 v1 e1 C1 R1 => h1 σ H1 _ ⟨T1, C1, fun d2 r2 h2 T2 H2 v2 e2 C2 R2 => ?_⟩⟩)
  obtain ⟨p, l, i, d, rfl, rfl, hp, hi, hq⟩ := h2
  obtain ⟨xs, hx, rx⟩ := C2.rel.1 (p, l) hp
  obtain ⟨v, hv, rv⟩ := atI_reps rx hi
  exact .inl ⟨p, xs, i, v, rep_ref R1, rep_int R2, .of hx, hv, k d r2 hq T2 H2 v (e1.trans e2) C2 rv⟩
/-- box[i] = e -/
theorem hs_box {tp : Pos} (h : HE J e Δ r fun d r1 => HE J a Δ r1 fun d2 r2 => HE J b Δ r2 fun d3 r3 => ∃ p l i j, d2 = .ref p ∧ d3 = .int i ∧ (p, l) ∈ r3 ∧ ixN l.length i = some j ∧ P.nx Δ (setBox r3 p (l.set j d)))
    (pg : ∀ {to ti : TE} {t : TSet}, PE J.X a to → PE J.X b ti → PSet J.X t → PG J.X (.Subscript a b tp) (gSub to ti t))
    (hs : swapsWithSole [.Subscript a b tp] e pos.line J.X.env = pure false) (hw : swappedStores [.Subscript a b tp] e J.X.env = pure none) : HS J (.Assign [.Subscript a b tp] e pos) Δ r P := fun D σ H ⟨T, C, k1, _⟩ => by
  refine of_ps (ps_asg pe_wp (pg pe_wp pe_wp set_list) hs hw) (h σ H _ ⟨T, C, fun d r1 h1 T1 H1 v e1 C1 R1 => h1 σ H1 _ ⟨T1, C1, fun d2 r2 h2 T2 H2 v2 e2 C2 R2 => h2 σ H2 _ ⟨T2, C2, fun d3 r3 h3 T3 H3 v3 e3 C3 R3 => ?_⟩⟩⟩)
  obtain ⟨p, l, i, j, rfl, rfl, hp, hi, hq⟩ := h3
  obtain ⟨xs, hx, rx⟩ := C3.rel.1 (p, l) hp
  refine ⟨p, xs, i, j, rep_ref R2, rep_int R3, hx, by rw [rx.length]; exact hi, ?_⟩
  exact k1 _ _ hq T3 _ σ (e1.trans (e2.trans e3)) (C3.box hp (rx.set (R1.mono (e2.trans e3)) j))
/-- return a new list that is to be written -/
theorem hs_retBox (h : HF J e Δ r fun ds r1 => ∀ p, p ∉ r1.map (·.1) → P.rt (.ref p) ((p, ds) :: r1)) : HS J (.Return (some e) pos) Δ r P := fun D σ H ⟨T, C, _, k2, _⟩ =>
  of_ps (ps_ret pe_wp) (h σ H _ ⟨T, C, fun ds r1 h1 T1 H1 p e1 F => k2 _ _ (h1 p fun z => F.nf (.inl z)) T1 H1 _ e1 F.toBox .ref⟩)
end
section
variable {ρ : Rsc} {J : Jx ρ} {Δ : Dl} {r : ρ.R} {q : D → ρ.R → Prop} {a b c e : Expr} {es : List Expr} {pos : Pos} {P : Post ρ.R}
/-! ### a, b = x, y -/
theorem hs_par {i j : Nat} {x y : Str} {px py pt : Pos} {kt k2 : Nat} {pt2 : Pos} (ok : J.Ok) (hi : J.X.N[i]? = some x) (hj : J.X.N[j]? = some y) (hij : i ≠ j) (hx : J.X.env.scope.names.lookup x = some .local) (hy : J.X.env.scope.names.lookup y = some .local)
    (h : HA J [a, b] Δ r fun ds r1 => ∃ d1 d2, ds = [d1, d2] ∧ P.nx ((Δ.set i (some (.val d1))).set j (some (.val d2))) r1)
    (hw : swappedStores [.Tuple [.Name x px, .Name y py] kt pt] (.Tuple [a, b] k2 pt2) J.X.env = pure (some [x, y])) (hs : swapsWithSole [.Tuple [.Name x px, .Name y py] kt pt] (.Tuple [a, b] k2 pt2) pos.line J.X.env = pure false) :
    HS J (.Assign [.Tuple [.Name x px, .Name y py] kt pt] (.Tuple [a, b] k2 pt2) pos) Δ r P := fun D σ H ⟨T, C, k1, _⟩ => by
  refine of_ps (ps_par ok.calm ok.nd hi hj hij hx hy pa_wp hw hs) (h σ H _ ⟨T, C, fun ds r1 ⟨d1, d2, hd, hq⟩ T1 H1 vs e1 C1 R1 => ?_⟩)
  subst hd
  obtain ⟨v, u, rfl, hv, hu⟩ := reps2 R1
  exact ⟨v, u, rfl, k1 _ r1 hq T1 H1 _ e1 ((C1.setVal hv).setVal hu)⟩
/-- an expression that leaves all as it is -/
def HP (J : Jx ρ) (e : Expr) (Δ : Dl) (d : D) : Prop := ∀ σ H (Q : VK) T r, J.Cv T H σ Δ r → (∀ v, Rep J.X.K T d v → Q v H) → wpE J.X e σ H Q
theorem hp_int {i : Int} {j : Nat} : HP J (.Constant (.int i) j pos) Δ (.int i) := fun σ H Q T r C k => of_pe pe_int (k _ .int)
theorem hp_str {x : Str} {j : Nat} : HP J (.Constant (.str x) j pos) Δ (.str x) := fun σ H Q T r C k => of_pe pe_str (k _ .str)
theorem hp_non {j : Nat} : HP J (.Constant .none j pos) Δ .non := fun σ H Q T r C k => of_pe pe_non (k _ .non)
theorem hp_bl {i : Bool} {j : Nat} : HP J (.Constant (.bool i) j pos) Δ (.bl i) := fun σ H Q T r C k => of_pe pe_bl (k _ .bl)
theorem hp_name {x : Str} {i : Nat} {d : D} (hN : J.X.N[i]? = some x) (hv : Vis J.X.env.scope x) (hi : Δ[i]? = some (some (.val d))) (hd : (x == ("__debug__" : Str)) = false := by decide) (hcd : (x == ("__classdict__" : Str)) = false := by decide) : HP J (.Name x pos) Δ d := fun σ H Q T r C k => by
  obtain ⟨v, h1, h2⟩ := C.val i d hi
  exact of_pe (pe_var hN hv hd hcd) ⟨v, h1, k v h2⟩
/-- a, b = a new list, something plain -/
theorem hs_parF {i j : Nat} {x y : Str} {px py pt : Pos} {kt k2 : Nat} {pt2 : Pos} {d : D} (ok : J.Ok) (hi : J.X.N[i]? = some x) (hj : J.X.N[j]? = some y) (hij : i ≠ j) (hx : J.X.env.scope.names.lookup x = some .local) (hy : J.X.env.scope.names.lookup y = some .local)
    (h : HF J a Δ r fun ds r1 => P.nx ((Δ.set i (some (.own ds))).set j (some (.val d))) r1) (hb : HP J b Δ d) (h1 : starEach [a, b] J.X.env = (false, eval a J.X.env) :: starEach [b] J.X.env) (h2 : starEach [b] J.X.env = (false, eval b J.X.env) :: starEach [] J.X.env)
    (hw : swappedStores [.Tuple [.Name x px, .Name y py] kt pt] (.Tuple [a, b] k2 pt2) J.X.env = pure (some [x, y])) (hs : swapsWithSole [.Tuple [.Name x px, .Name y py] kt pt] (.Tuple [a, b] k2 pt2) pos.line J.X.env = pure false) :
    HS J (.Assign [.Tuple [.Name x px, .Name y py] kt pt] (.Tuple [a, b] k2 pt2) pos) Δ r P := fun D σ H ⟨T, C, k1, _⟩ => by
  refine of_ps (ps_par ok.calm ok.nd hi hj hij hx hy (pa_cons pe_wp (pa_cons pe_wp pa_nil h2) h1) hw hs) (h σ H _ ⟨T, C, fun ds r1 hq T1 H1 p e1 F => ?_⟩)
  refine hb σ H1 _ T1 r1 F.cov fun u hu => ?_
  exact ⟨.ref p, u, rfl, k1 _ r1 hq T1 H1 _ e1 (F.slot.setVal hu)⟩
/-! ### raise -/
theorem hs_raise1 {x f : Str} {C fI cc cda : Addr} {p cp : Pos} {k : Nat} (ok : J.Ok) (T : ErrN J.X x C fI cc cda [f]) (hr : Room k J.X.A) (h : HE J a Δ r fun d r1 => J.x ⟨C, [(f, d)]⟩ Δ r1) (hg : Gl J.X x)
    (he : starEach (a :: []) J.X.env = (false, eval a J.X.env) :: starEach [] J.X.env) (hpl : (backTo cp (starEach [] J.X.env)).any (·.1) = false)
    (hdb : (x == ("__debug__" : Str)) = false := by decide) (hf1 : f ≠ "super" := by decide) (hf2 : f ≠ "__class__" := by decide) (hf3 : f ≠ "self" := by decide) (hf4 : (f == ("__debug__" : Str)) = false := by decide) :
    HS J (.Raise (some (.Call (.Name x p) [a] [] cp)) none pos) Δ r P := fun D σ H ⟨T0, C0, _⟩ => by
  refine of_ps (ps_raise ok.calm ok.tk (pmk_e1 T hr pa_wp hg hdb he hpl hf1 hf2 hf3 hf4)) ?_
  refine ha_cons (q := fun ds r1 => ∃ d, ds = [d] ∧ J.x ⟨C, [(f, d)]⟩ Δ r1) (he_imp h fun d r1 hh => ha_nil ⟨d, rfl, hh⟩) he σ H _ ⟨T0, C0, fun ds r1 ⟨d, hd, hx⟩ T1 H1 vs e1 C1 R1 => ?_⟩
  subst hd
  obtain ⟨v, rfl, hv⟩ := reps1 R1
  refine ⟨v, rfl, fun dd hdd => ?_⟩
  have eN := Ext.new (o := .xd [(f, v)]) (C1.sub.back hdd)
  exact ok.xok _ Δ r1 hx _ _ σ _ _ (C1.alloc hdd) ⟨rfl, dd, _, rfl, upd_same, v, [], rfl, hv.mono eN, rfl⟩
theorem hs_raise2 {x f f2 : Str} {C fI cc cda : Addr} {p cp : Pos} {k : Nat} (ok : J.Ok) (T : ErrN J.X x C fI cc cda [f, f2]) (hr : Room k J.X.A) (h : HA J [a, b] Δ r fun ds r1 => ∃ d d2, ds = [d, d2] ∧ J.x ⟨C, [(f, d), (f2, d2)]⟩ Δ r1) (hg : Gl J.X x)
    (he : starEach (a :: [b]) J.X.env = (false, eval a J.X.env) :: starEach [b] J.X.env) (hpl : (backTo cp (starEach [b] J.X.env)).any (·.1) = false)
    (hdb : (x == ("__debug__" : Str)) = false := by decide) (hf1 : f ≠ "super" := by decide) (hf2 : f ≠ "__class__" := by decide) (hf3 : f ≠ "self" := by decide) (hf4 : (f == ("__debug__" : Str)) = false := by decide)
    (hg1 : f2 ≠ "super" := by decide) (hg2 : f2 ≠ "__class__" := by decide) (hg3 : f2 ≠ "self" := by decide) (hg4 : (f2 == ("__debug__" : Str)) = false := by decide) (hne : f2 ≠ f := by decide) :
    HS J (.Raise (some (.Call (.Name x p) [a, b] [] cp)) none pos) Δ r P := fun D σ H ⟨T0, C0, _⟩ => by
  refine of_ps (ps_raise ok.calm ok.tk (pmk_e2 T hr pa_wp hg hdb he hpl hf1 hf2 hf3 hf4 hg1 hg2 hg3 hg4 hne)) ?_
  refine h σ H _ ⟨T0, C0, fun ds r1 ⟨d, d2, hd, hx⟩ T1 H1 vs e1 C1 R1 => ?_⟩
  subst hd
  obtain ⟨v, u, rfl, hv, hu⟩ := reps2 R1
  refine ⟨v, u, rfl, fun dd hdd => ?_⟩
  have eN := Ext.new (o := .xd [(f, v), (f2, u)]) (C1.sub.back hdd)
  exact ok.xok _ Δ r1 hx _ _ σ _ _ (C1.alloc hdd) ⟨rfl, dd, _, rfl, upd_same, v, _, rfl, hv.mono eN, u, [], rfl, hu.mono eN, rfl⟩
/-! ### sep.join(..) -/
def strsD (l : List Str) : List D := l.map D.str
theorem reps_strs {K : PySem.W.Frag} {T : Hp} : ∀ {l : List Str} {xs : List V}, Reps K T (strsD l) xs → xs = l.map V.str
  | [], xs, h => by simp only [strsD, List.map_nil, Reps] at h; exact h
  | z :: l, xs, h => by
    simp only [strsD, List.map_cons, Reps] at h
    obtain ⟨v, r, rfl, h1, h2⟩ := h
    rw [rep_str h1, List.map_cons, reps_strs h2]
theorem he_join {o : Expr} {ap : Pos} (h : HE J o Δ r fun d r1 => ∃ z, d = .str z ∧ HE J e Δ r1 fun d2 r2 => ∃ l : List Str, (d2 = .lst (strsD l) ∨ d2 = .tup (strsD l)) ∧ (l.map (·.length)).sum + l.length * z.length ≤ 16777216 ∧ q (.str (Txt.join z l)) r2)
    (hs : starEach [e] J.X.env = [(false, eval e J.X.env)]) (hb : attributeBase o "join" J.X.env (eval o J.X.env) = eval o J.X.env) (hl : (ap.endLine == pos.line) = true) : HE J (.Call (.Attribute o "join" ap) [e] [] pos) Δ r q := fun σ H Q ⟨T, C, k⟩ => by
  refine of_pe (pe_join pe_wp pe_wp hs hb hl) (h σ H _ ⟨T, C, fun d r1 ⟨z, hd, h2⟩ T1 H1 v e1 C1 R1 => ?_⟩)
  subst hd
  refine ⟨⟨z, rep_str R1⟩, h2 σ H1 _ ⟨T1, C1, fun d2 r2 ⟨l, hd2, hz, hq⟩ T2 H2 v2 e2 C2 R2 => ?_⟩⟩
  rcases hd2 with rfl | rfl
  · obtain ⟨a, xs, rfl, h3, h4⟩ := rep_lst R2
    have h5 := reps_strs h4
    subst h5
    exact ⟨z, a, l, rep_str R1, rfl, .inl (.of (C2.sub _ _ h3)), hz, k _ r2 hq T2 H2 _ (e1.trans e2) C2 .str⟩
  · obtain ⟨a, xs, rfl, h3, h4⟩ := rep_tup R2
    have h5 := reps_strs h4
    subst h5
    exact ⟨z, a, l, rep_str R1, rfl, .inr (C2.sub.st h3), hz, k _ r2 hq T2 H2 _ (e1.trans e2) C2 .str⟩
end
/-! ### a def -/
def startD (N : List Str) (ds : List D) : Dl := ds.map (fun d => some (.val d)) ++ List.replicate (N.length - ds.length) none
abbrev jx {ρ : Rsc} (P : Program) (w : World) (K : PySem.W.Frag) (mg : Str → Option Value) (base : Heap) (N : List Str) (qual : Str) (scope : Scope) (f : Addr) (cd : Value) (A : Around) (outer : List Env) (s : Shared) (H : Hp) (E : XK) (B : Bs ρ) (xq : Exn → ρ.R → Prop) : Jx ρ where
  X := cxOf (L2.CX P w) P w K mg base N qual scope f cd A outer s H E
  W := fun cls d _ H => E cls d H
  B := B
  x := fun ex _ r => xq ex r
section
variable {ρ : Rsc} {P : Program} {w : World} {K : PySem.W.Frag} {mg : Str → Option Value} {base : Heap}
theorem cov_start {N : List Str} {T H : Hp} {r : ρ.R} {ds : List D} {vs : List V} (A : Aft K ρ ⟨T, H, r⟩ T H r) (R : Reps K T ds vs) (hl : ds.length ≤ N.length) : Cov K ρ ⟨T, H, r⟩ T H (L2.start N vs) (startD N ds) r where
  toAft := A
  len := by unfold L2.start startD; rw [List.length_append, List.length_append, List.length_map, List.length_map, List.length_replicate, List.length_replicate, R.length]
  val := fun i d h => by
    unfold startD at h
    unfold L2.start
    by_cases hi : i < ds.length
    · rw [List.getElem?_append_left (by rw [List.length_map]; exact hi), List.getElem?_map] at h
      rw [List.getElem?_append_left (by rw [List.length_map, R.length]; exact hi), List.getElem?_map]
      cases e : ds[i]? with
      | none => rw [e] at h; cases h
      | some d' =>
        rw [e] at h
        cases h
        obtain ⟨v, h1, h2⟩ := R.get e
        exact ⟨v, by rw [h1]; rfl, h2⟩
    · rw [List.getElem?_append_right (by rw [List.length_map]; omega), List.getElem?_replicate] at h
      split at h <;> cases h
  own := fun i l h => by
    unfold startD at h
    by_cases hi : i < ds.length
    · rw [List.getElem?_append_left (by rw [List.length_map]; exact hi), List.getElem?_map] at h
      cases e : ds[i]? with
      | none => rw [e] at h; cases h
      | some d' => rw [e] at h; cases h
    · rw [List.getElem?_append_right (by rw [List.length_map]; omega), List.getElem?_replicate] at h
      split at h <;> cases h
  apart := fun i j l l' p _ h => by
    unfold startD at h
    by_cases hi : i < ds.length
    · rw [List.getElem?_append_left (by rw [List.length_map]; exact hi), List.getElem?_map] at h
      cases e : ds[i]? with
      | none => rw [e] at h; cases h
      | some d' => rw [e] at h; cases h
    · rw [List.getElem?_append_right (by rw [List.length_map]; omega), List.getElem?_replicate] at h
      split at h <;> cases h
/-- THE RULE for a def on data -/
theorem fd_ok {x qual : Str} {st : Stmt} {f : Addr} {fd : FuncData} {N ps : List Str} {k : Nat} {F : Spec ρ.R} (Fn : Fun K x qual st f fd) (S : FnScope N ps (defScope st))
    (h : ∀ (cdv : Value) (A : Around) (outer : List Env) (s : Shared) (H : Hp) (E : XK) (B : Bs ρ) (xq : Exn → ρ.R → Prop), (jx P w K mg base N qual (defScope st) f cdv A outer s H E B xq).Ok → Room k (A.deeper (envOfC qual (defScope st) s.heap.objs.size f cdv)) →
      PassesOwn (model P w) (A.deeper (envOfC qual (defScope st) s.heap.objs.size f cdv)) (envOfC qual (defScope st) s.heap.objs.size f cdv) (jx P w K mg base N qual (defScope st) f cdv A outer s H E B xq).X.xe →
      ∀ ds r q, ds.length = ps.length → F ds r q xq → HSs (jx P w K mg base N qual (defScope st) f cdv A outer s H E B xq) (defBody st) (startD N ds) r { nx := fun _ r' => q .non r', rt := q }) :
    FnOk P w K mg base (L2.CX P w) (k + 1) f fd ps (spD K ρ ps.length F) := by
  refine Fn.okX S (fun vs H Q E hh => ?_) fun cdv A outer s H vs Q E hr hh => ?_
  · obtain ⟨T, ds, r, q, x, hl, A, R, _⟩ := hh
    rw [R.length]; exact hl
  · obtain ⟨T, ds, r, q, xq, hl, A0, R, hF, k1, k2⟩ := hh
    have hpN : ps.length ≤ N.length := by
      have e := congrArg List.length S.pre
      rw [List.length_take] at e
      omega
    have ok : (jx P w K mg base N qual (defScope st) f cdv A outer s H E ⟨T, H, r⟩ xq).Ok :=
      ⟨rfl, S.nd, takes_of rfl rfl rfl rfl, fun ex Δ r' hx T' H' σ cls d C R' => k2 ex r' hx T' H' cls d C.toAft R'⟩
    refine ⟨_, pss_wp, ?_⟩
    refine h cdv A outer s H E ⟨T, H, r⟩ xq ok hr (passes_of rfl) ds r q hl hF _ _ _ ⟨T, cov_start A0 R (by omega), ?_, ?_, ?_, ?_⟩
    · exact fun Δ' r' hq T' H' σ' e C => k1 .non r' hq T' H' .non C.toAft .non
    · exact fun d r' hq T' H' v e A' R' => k1 d r' hq T' H' v A' R'
    · exact fun _ _ z => z.elim
    · exact fun _ _ z => z.elim
end
end FD
set_option Elab.async false
set_option linter.all false
set_option maxRecDepth 100000
set_option maxHeartbeats 4000000
/-! a lambda handed to a def that calls it within a try -/
namespace FD
open PySem PySem.Spec PyProof.Rows L2 LamX
/-- what making a lambda may do to the heap: nothing, or a new code object that a table tells -/
def Made (tabs : List (Addr × Str)) (H H1 : Hp) : Prop := H1 = H ∨ ∃ (P : Addr) (ps : Array Value) (pos : Pos) (c : Addr) (q : Str), (P, q) ∈ tabs ∧ (∀ p ∈ tabs, p.1 = P → p.2 = q) ∧ H P = some (.tbl ps) ∧ H c = none ∧ H1 = upd (upd H P (.tbl (ps ++ #[rawInt pos.line, rawInt pos.col, .ref c]))) c (CodeO c q)
section
variable {X : Cx} {pins : List (Addr × Obj)} {σ : L2.St} {H : Hp} {s : Shared}
theorem lam_make3 {T : List (Addr × Str)} {c P : Addr} {params : Arguments} {body : Expr} {scope : Scope} {pos : Pos} {E : Value → Shared → Prop} {Q : Value → Shared → Prop} (I : Inv X pins σ H s) (TB : TabB X.base X.mg c P) (hcode : X.env.code = .ref c)
    (hm : (P, X.env.qual ++ "<lambda>") ∈ T) (hu : ∀ p ∈ T, p.1 = P → p.2 = X.env.qual ++ "<lambda>") (hT : Tabs T H) (hdef : defaultsOf params X.env = ([], [])) (hfree : ∀ y ∈ scope.names, y.2 = .free → ∃ c, X.env.cells.lookup y.1 = some c)
    (h : ∀ (f c' : Addr) (pm ctv : Value) (H1 : Hp) (s' : Shared), Inv X pins σ H1 s' → Made T H H1 → Tabs T H1 →
      s'.heap.get? f = some (PySem.W.kla_obj "<lambda>" (X.env.qual ++ "<lambda>") params body scope (cloFrom X.env.cells scope.names []) pm c' ctv) → H1 f = none → f ∉ frs X.stack → H1 c' = some (CodeO c' (X.env.qual ++ "<lambda>")) → Q (.ref f) s') :
    wpAny (model X.prog X.w) X.A (eval (.Lambda params body scope pos) X.env) Q E s := by
  obtain ⟨ps, hP, ht, ha⟩ := hT _ hm
  have bP : s.heap.BuiltinsAt X.mg P := TB.bm.keeps I.bk
  have oP : s.heap.get? P = some { cls := .none, data := .fields ps } := I.hok P _ hP
  have out : ∀ f, s.heap.objs.size ≤ f → f ∉ frs X.stack := fun f hf z => by
    rcases List.mem_cons.mp (I.stkSub _ z) with e | e
    · exact absurd I.lt (by rw [← e]; exact Nat.not_lt.mpr hf)
    · exact I.nofs hf e
  refine PySem.W.kla_eval hdef ?_
  cases hc : codeAmong pos ps.toList with
  | some cv =>
    obtain ⟨c', e, hco⟩ := ha pos cv hc
    subst e
    refine PySem.W.kla_makeFunctionHit (mg := X.mg) (c := c) (P := P) (ps := ps) (closure_ok hfree) I.ok.glob (I.mod.glob.keeps I.bk) hcode (TB.code.keeps I.bk) oP ht hc bP fun ctv h' tk hx hsz => ?_
    refine h h'.objs.size c' _ ctv H _ (I.kept fun b o e => Heap.get?_push_of_some _ (hx b o e)) (.inl rfl) hT (Heap.get?_push_size _ rfl) (I.hok.fresh hsz) (out _ hsz) hco
  | none =>
    refine PySem.W.kla_makeFunction (mg := X.mg) (c := c) (P := P) (ps := ps) (closure_ok hfree) I.ok.glob (I.mod.glob.keeps I.bk) hcode (TB.code.keeps I.bk) oP ht hc TB.gP bP fun c' ctv h' tk hx hge hlt hrec htb => ?_
    obtain ⟨c2, oc, vs, t, e2, hoc, hd, hv⟩ := hrec
    cases e2
    have hsz : s.heap.objs.size ≤ h'.objs.size := Nat.le_trans hge (Nat.le_of_lt hlt)
    have nC : H c' = none := I.hok.fresh hge
    have eL : (ps ++ #[rawInt pos.line, rawInt pos.col, .ref c']).toList = ps.toList ++ [rawInt pos.line, rawInt pos.col, .ref c'] := by simp
    have up : ∀ b o, H b = some o → b ≠ P → upd (upd H P (.tbl (ps ++ #[rawInt pos.line, rawInt pos.col, .ref c']))) c' (CodeO c' (X.env.qual ++ "<lambda>")) b = some o := fun b o e z => by
      rw [upd_ne (ne_of_none e nC), upd_ne z]; exact e
    refine h h'.objs.size c' _ ctv _ _ (inv_table (t' := tk) (more := #[rawInt pos.line, rawInt pos.col, .ref c']) (h' := h'.push _) I hP (fun b o hb e => Heap.get?_push_of_some _ (hx b o hb e)) (Heap.get?_push_of_some _ htb) hge ⟨oc, vs, t, Heap.get?_push_of_some _ hoc, hd, hv⟩)
      (.inr ⟨P, ps, pos, c', _, hm, hu, hP, nC, rfl⟩) (fun p hp => ?_) (Heap.get?_push_size _ rfl) ?_ (out _ hsz) upd_same
    · by_cases hb : p.1 = P
      · rw [hu p hp hb, hb]
        refine ⟨_, by rw [upd_ne (ne_of_none hP nC), upd_same], by rw [eL]; exact PySem.TriplesOk_snoc _ _ _ _ ht, fun p' cv hcv => ?_⟩
        rw [eL] at hcv
        rcases among_app _ ht hcv with z | z
        · obtain ⟨c0, e1, e2⟩ := ha p' cv z
          exact ⟨c0, e1, up _ _ e2 fun y => by rw [y, hP] at e2; exact codeO_ne _ (Option.some.inj e2).symm⟩
        · exact ⟨c', z, upd_same⟩
      · obtain ⟨qs, a1, a2, a3⟩ := hT p hp
        refine ⟨qs, up _ _ a1 hb, a2, fun p' cv hcv => ?_⟩
        obtain ⟨c0, e1, e2⟩ := a3 p' cv hcv
        exact ⟨c0, e1, up _ _ e2 fun y => by rw [y, hP] at e2; exact codeO_ne _ (Option.some.inj e2).symm⟩
    · rw [upd_ne (Nat.ne_of_gt hlt), upd_ne (Nat.ne_of_gt (Nat.lt_of_lt_of_le (Heap.lt_size oP) hsz))]
      exact I.hok.fresh hsz
/-- x(lambda: body); TT: what x makes of the lambda's reading -/
def tLam3 (T : List (Addr × Str)) (TT : (XK → Hp → VK → Prop) → Hp → VK → Prop) (t : XK → TE) : TE := fun σ H Q => Tabs T H ∧ ∀ H1, Made T H H1 → Tabs T H1 → TT (fun E H' Q' => t E σ H' Q') H1 Q
theorem pe_lamcall3 {T : List (Addr × Str)} {TT : (XK → Hp → VK → Prop) → Hp → VK → Prop} {x a : Str} {g c P : Addr} {k : Nat} {pg : Arguments} {bg : List Stmt} {sg : Scope} {dV kV doc pm cdv ct oc : Value} {an od : Option Addr} {osl : Array (Option Value)} {Ng : List Str}
    {params : Arguments} {body : Expr} {scope : Scope} {t : XK → TE} {p lpos pos : Pos} (hg : Gl X x) (hm : X.mg x = some (.ref g)) (hk : PySem.W.keepIn X.K (.ref g) = true)
    (lk : X.K.lookup g = some ⟨oc, od, .func (PySem.W.fnOf x x pg bg sg dV kV doc pm an cdv ct), osl⟩) (hcg : PySem.W.codeIn X.K cdv x = true) (hb : L2.Binds X.K (PySem.W.fnOf x x pg bg sg dV kV doc pm an cdv ct) [a] []) (Sg : FnScope Ng [a] sg) (hNg : Ng[0]? = some a) (hva : Vis sg a)
    (hG : GivesTo X Ng x sg g cdv bg a (X.env.qual ++ "<lambda>") TT)
    (TB : TabB X.base X.mg c P) (hcode : X.env.code = .ref c) (hmT : (P, X.env.qual ++ "<lambda>") ∈ T) (hu : ∀ p ∈ T, p.1 = P → p.2 = X.env.qual ++ "<lambda>") (hr : Room (k + 2) X.A) (L : LamS X.env.scope scope) (hdef : defaultsOf params X.env = ([], []))
    (hbind : ∀ (q : Str) (cl : List (Str × Addr)) (pm cv ctv : Value), bindArgs (PySem.W.kla_fn "<lambda>" q params body scope cl pm cv ctv) ⟨[], []⟩ = pure [])
    (hbody : ∀ (A : Around) (outer : List Env) (s : Shared) (H : Hp) (E : XK) (f c' : Addr), Room k (A.deeper (lamEnv X scope s.heap.objs.size f c')) → PE (lamCx X A outer s H E scope f c') body (t E))
    (hdb : (x == ("__debug__" : Str)) = false) (hd : (a == ("__debug__" : Str)) = false) (hcd : (a == ("__classdict__" : Str)) = false) :
    PE X (.Call (.Name x p) [.Lambda params body scope lpos] [] pos) (tLam3 T TT t) := by
  refine ⟨fun pins s σ H Q I h => ?_⟩
  obtain ⟨hT, h⟩ := h
  refine wpAny_Call_Name_kw (ld_glob I hg hm ?_ hdb)
  refine PySem.W.callWith_K (h₀ := X.base) I.ok.mod.kin hk ?_ (by rfl) (by rfl)
  show wpAny _ _ (spliced ((false, eval (.Lambda params body scope lpos) X.env) :: backTo pos (starEach [] X.env))) _ _ s
  refine Calls.spliced_cons (lam_make3 I TB hcode hmT hu hT hdef (L.has I.ok) fun f c' pm' ctv H1 s' I1 eN T1 hf hfn hfr hco => ?_)
  refine Calls.spliced_nil ⟨I1.kIn, ?_⟩
  have rc : codeAny (model X.prog X.w) X.A (.call (.ref g) ⟨[.ref f], []⟩) (CR C8.CX0 X.stack X.prog X.w H1 s' Q C8.E0) s' := by
    refine run_ofS (N := Ng) (ps := [a]) (us := [.ref f]) (vs := [.ref f]) lk hcg Sg hr I1.env0 (hb s' [.ref f] I1.kIn rfl) (.cons rfl .nil) rfl fun hr' => ?_
    obtain ⟨t', ht', hq'⟩ := hG f c' s' H1 Q (fun E H' Q' => t E σ H' Q') (fun W pn xe E p1 p2 tk hW => pe_act (i := 0) I1 L hf hfn hfr (hbind _ _ _ _ _) tk hW hr' (fun A outer s H hr2 => hbody A outer s H E f c' hr2) hNg hva hd hcd) hco (h H1 eN T1)
    exact ⟨t', ht'.nox, hq'⟩
  refine wpAny_call (codeAny_mono rc fun r s2 hq => ?_)
  cases r with
  | error e => exact (show False from hq).elim
  | ok fl =>
    cases fl with
    | ret u => exact I1.after hq
    | next => exact False.elim hq
    | brk => exact False.elim hq
    | cont => exact False.elim hq
end
/-! ### the tables in the resource -/
section
variable {K : PySem.W.Frag} {tabs : List (Addr × Str)} {B : Bs (ρT tabs)} {T H H1 : Hp} {σ : L2.St} {Δ : Dl} {r : Bx}
theorem Cov.tabsOk (C : Cov K (ρT tabs) B T H σ Δ r) : Tabs tabs H := fun p hp => by
  obtain ⟨ps, h1, h2, h3⟩ := C.rel.2.2 p hp
  refine ⟨ps, h1, h2, fun pos cv hc => ?_⟩
  obtain ⟨c, e1, e2⟩ := h3 pos cv hc
  exact ⟨c, e1, C.sub _ _ e2⟩
theorem Cov.made (C : Cov K (ρT tabs) B T H σ Δ r) (M : Made tabs H H1) : ∃ T1, Ext T T1 ∧ Cov K (ρT tabs) B T1 H1 σ Δ r := by
  rcases M with rfl | ⟨P, ps, pos, c, q, hm, hu, hP, hc, rfl⟩
  · exact ⟨T, Ext.refl T, C⟩
  have nTc : T c = none := C.sub.back hc
  have fP : (ρT tabs).foot r P := .inr (List.mem_map_of_mem (f := (·.1)) hm)
  obtain ⟨nTP, _, hBP⟩ := C.ft P fP
  have nPc : P ≠ c := ne_of_none hP hc
  have eL : (ps ++ #[rawInt pos.line, rawInt pos.col, .ref c]).toList = ps.toList ++ [rawInt pos.line, rawInt pos.col, .ref c] := by simp
  generalize hmore : ps ++ #[rawInt pos.line, rawInt pos.col, .ref c] = pm at *
  have at_ : ∀ b, b ≠ P → b ≠ c → upd (upd H P (.tbl pm)) c (CodeO c q) b = H b := fun b h1 h2 => by rw [upd_ne h2, upd_ne h1]
  have atP : upd (upd H P (.tbl pm)) c (CodeO c q) P = some (.tbl pm) := by rw [upd_ne nPc, upd_same]
  have e1 : Ext T (upd T c (CodeO c q)) := Ext.new nTc
  have nfc : ¬ (ρT tabs).foot r c := C.toAft.noft hc
  obtain ⟨h1, h2, h3⟩ := C.rel
  have nbox : ∀ e ∈ r, e.1 ≠ P := fun e he z => by
    obtain ⟨xs, a1, _⟩ := h1 e he
    rw [z, hP] at a1; cases a1
  refine ⟨_, e1, ⟨⟨fun a o z => ?_, C.ext.trans e1, fun a o z nf => ?_, fun a z1 z2 => ?_, fun a z => ?_, ⟨fun e he => ?_, h2, fun p hp => ?_⟩, fun a z => ?_, C.f0⟩, C.len, fun j d z => ?_, fun j m z => ?_, C.apart⟩⟩
  · by_cases y : a = c
    · rw [y] at z ⊢; rw [upd_same] at z ⊢; exact z
    · rw [upd_ne y] at z
      rw [at_ a (fun w => by rw [w, nTP] at z; cases z) y]; exact C.sub a o z
  · have y : a ≠ P := fun y => by
      subst y
      rcases hBP with w | w
      · exact nf w
      · rw [z] at w; cases w
    have w : H a = some o := C.frame a o z nf
    rw [at_ a y (ne_of_none w hc)]; exact w
  · by_cases y : a = c
    · rw [y]; exact C.dom c hc
    · rw [upd_ne y] at z2; exact C.new a z1 z2
  · by_cases y : a = c
    · rw [y, upd_same] at z; cases z
    · by_cases w : a = P
      · rw [w, atP] at z; cases z
      · rw [at_ a w y] at z; exact C.dom a z
  · obtain ⟨xs, a1, a2⟩ := h1 e he
    exact ⟨xs, by rw [at_ _ (nbox e he) (fun w => nfc (by rw [← w]; exact .inl (List.mem_map_of_mem (f := (·.1)) he)))]; exact a1, a2.mono e1⟩
  · obtain ⟨qs, a1, a2, a3⟩ := h3 p hp
    by_cases w : p.1 = P
    · rw [w, hP] at a1
      cases a1
      refine ⟨pm, by rw [w]; exact atP, by rw [eL]; exact PySem.TriplesOk_snoc _ _ _ _ a2, fun p' cv hcv => ?_⟩
      rw [eL] at hcv
      rcases among_app _ a2 hcv with z | z
      · obtain ⟨c0, b1, b2⟩ := a3 p' cv z
        exact ⟨c0, b1, e1 _ _ b2⟩
      · exact ⟨c, z, by rw [hu p hp w]; exact upd_same⟩
    · refine ⟨qs, by rw [at_ _ w (ne_of_none a1 hc)]; exact a1, a2, fun p' cv hcv => ?_⟩
      obtain ⟨c0, b1, b2⟩ := a3 p' cv hcv
      exact ⟨c0, b1, e1 _ _ b2⟩
  · have y : a ≠ c := fun y => nfc (by rw [← y]; exact z)
    obtain ⟨a1, a2, a3⟩ := C.ft a z
    refine ⟨by rw [upd_ne y]; exact a1, ?_, a3⟩
    by_cases w : a = P
    · rw [w, atP]; exact fun e => nomatch e
    · rw [at_ a w y]; exact a2
  · obtain ⟨v, g1, g2⟩ := C.val j d z
    exact ⟨v, g1, g2.mono e1⟩
  · obtain ⟨p2, xs2, g1, g2, g3, g4, g5, g6⟩ := C.own j m z
    have y : p2 ≠ c := ne_of_none g2 hc
    refine ⟨p2, xs2, g1, ?_, g3.mono e1, by rw [upd_ne y]; exact g4, g5, g6⟩
    rw [at_ p2 (fun w => g6 (by rw [w]; exact fP)) y]; exact g2
end
/-- the judgement's context within a lambda -/
abbrev Jx.lam {ρ : Rsc} (J : Jx ρ) (A : Around) (outer : List Env) (s : Shared) (H : Hp) (E : XK) (scope : Scope) (f c' : Addr) (B : Bs ρ) (x : Exn → Dl → ρ.R → Prop) : Jx ρ where
  X := lamCx J.X A outer s H E scope f c'
  W := fun cls d _ H => E cls d H
  B := B
  x := x
end FD
set_option Elab.async false
set_option linter.all false
set_option maxRecDepth 100000
set_option maxHeartbeats 4000000
/-! a def that calls what it got, and tells the error that comes: ("told",) where none comes -/
namespace FD
open PySem PySem.Spec PyProof.Rows L2 LamX
theorem takes_len {X : Cx} {W : WX} (tk : L2.Takes X W) : L2.Takes X (fun cls d σ H => σ.length = X.N.length → W cls d σ H) := fun u s' ⟨a, B, sI, pins, σ, H, cls, d, e, I, nb, up, sky, na, os, ag, w⟩ =>
  tk u s' ⟨a, B, sI, pins, σ, H, cls, d, e, I, nb, up, sky, na, os, ag, w I.len⟩
/-- the told error: its class C, two of its fields -/
def TErr2 (C : Addr) (tag f1 f2 : Str) : (XK → Hp → VK → Prop) → Hp → VK → Prop := fun tl H Q =>
  tl (fun cls d H' => cls = .ref C ∧ ∃ dd fv v1 v2, d = some dd ∧ H' dd = some (.xd fv) ∧ fv.lookup f1 = some v1 ∧ fv.lookup f2 = some v2 ∧ ∀ p, H' p = none → Q (.ref p) (upd H' p (.tup [.str tag, v1, v2])))
    H (fun _ H' => ∀ p, H' p = none → Q (.ref p) (upd H' p (.tup [.str "told"])))
section
variable {X : Cx}
theorem err2_gives {Ng : List Str} {x a e n q tag f1 f2 : Str} {sg : Scope} {g C : Addr} {cdg : Value} {j1 j2 k1 k2 : Nat} {p1 p2 p3 p4 p6 p7 p8 p9 p10 p11 p12 p13 p14 p15 p16 p17 : Pos}
    (T : XfC X.K C) (hno1 : PySem.W.findIn X.K (.ref C) f1 = some none) (hno2 : PySem.W.findIn X.K (.ref C) f2 = some none) (hex : PySem.W.exmOne X.K (.ref C) (.ref C) = some true)
    (hnd : Ng.Nodup) (hN : Ng = [a, n]) (hn : sg.names.lookup n = some .local) (hge : sg.names.lookup e = some .globalImplicit) (hme : X.mg e = some (.ref C)) (hde : (e == ("__debug__" : Str)) = false)
    (hdn : (n == ("__debug__" : Str)) = false) (hcn : (n == ("__classdict__" : Str)) = false)
    (hb1 : ∀ env, attributeBase (.Name n p9) f1 env (eval (.Name n p9) env) = eval (.Name n p9) env) (hb2 : ∀ env, attributeBase (.Name n p11) f2 env (eval (.Name n p11) env) = eval (.Name n p11) env)
    (hsw : ∀ env, swapsWith (.Call (.Name a p1) [] [] p2) none p3.line env = pure false) :
    GivesTo X Ng x sg g cdg [.Try [.Expr (.Call (.Name a p1) [] [] p2) p3] [.ExceptHandler (some (.Name e p4)) (some n) [.Return (some (.Tuple [.Constant (.str tag) j1 p8, .Attribute (.Name n p9) f1 p10, .Attribute (.Name n p11) f2 p12] k1 p13)) p6] p7] [] [] p14, .Return (some (.Tuple [.Constant (.str "told") j2 p15] k2 p16)) p17] a q (TErr2 C tag f1 f2) := by
  subst hN
  intro f c' s H Q tl act hc h
  have hgl : Gl (cxOf C8.CX0 X.prog X.w X.K X.mg X.base [a, n] x sg g cdg X.A X.stack s H C8.E0).nox e := hge
  refine ⟨_, pss_cons (ps_try_as (X := (cxOf C8.CX0 X.prog X.w X.K X.mg X.base [a, n] x sg g cdg X.A X.stack s H C8.E0).nox) (c := .ref C) (i := 1)
      (tb := fun W D σ H => ∃ Ech : XK, (∀ cls d σ' H', Ech cls d H' → σ'.length = 2 → W cls d σ' H') ∧ σ[0]? = some (some (.ref f)) ∧ H c' = some (CodeO c' q) ∧ tl Ech H fun _ H1 => D.nx σ H1)
      rfl rfl hnd rfl hn ⟨hgl, hde, .inl hme⟩ L2.takes0 (fun W pn xe tk _ => ?_) (fun ad oe cls d pn hz hf => pss_one (ps_ret (pe_tup (pa_cons pe_str (pa_cons (pe_xf T hno1 hz hf (pe_var (i := 1) rfl (.inl hn) hdn hcn) (hb1 _)) (pa_cons (pe_xf T hno2 hz hf (pe_var (i := 1) rfl (.inl hn) hdn hcn) (hb2 _)) pa_nil)))))))
    (pss_one (ps_ret (pe_tup (pa_cons pe_str pa_nil)))), ?_⟩
  · refine ⟨fun pins s' σ H' D I h' => ?_⟩
    obtain ⟨Ech, hW, h1, h2, h3⟩ := h'
    have hp := act (fun cls d σ H => σ.length = 2 → W cls d σ H) pn xe Ech p1 p2 (takes_len tk) hW
    exact (pss_one (ps_expr (pos := p3) hp (hsw _))).run pins s' σ H' D I ⟨h1, h2, h3⟩
  · refine ⟨fun cls d H' => cls = .ref C ∧ ∃ dd fv v1 v2, d = some dd ∧ H' dd = some (.xd fv) ∧ fv.lookup f1 = some v1 ∧ fv.lookup f2 = some v2 ∧ ∀ p, H' p = none → Q (.ref p) (upd H' p (.tup [.str tag, v1, v2])), fun cls d σ' H' hE hl => ?_, rfl, hc, ?_⟩
    · obtain ⟨ec, dd, fv, v1, v2, ed, ef, l1, l2, q⟩ := hE
      subst ec
      refine ⟨true, hex, fun _ ad had => ?_, fun z => nomatch z⟩
      have hs : (σ'.set 1 (some (.ref ad)))[1]? = some (some (.ref ad)) := List.getElem?_set_self (by omega)
      refine ⟨.ref ad, hs, rfl, rfl, dd, fv, v1, ed, ef, l1, .ref ad, hs, rfl, rfl, dd, fv, v2, ed, ef, l2, ?_⟩
      exact ⟨by show 3 ≤ sizeLine; decide, q⟩
    · show tl _ H fun _ H1 => 1 ≤ sizeLine ∧ ∀ p, H1 p = none → Q (.ref p) (upd H1 p (.tup [.str "told"]))
      have e1 : ∀ H1 : Hp, (1 ≤ sizeLine ∧ ∀ p, H1 p = none → Q (.ref p) (upd H1 p (.tup [.str "told"]))) = (∀ p, H1 p = none → Q (.ref p) (upd H1 p (.tup [.str "told"]))) := fun H1 => propext ⟨fun h => h.2, fun h => ⟨by decide, h⟩⟩
      simp only [e1]
      exact h
end
/-- the slots without those that own a list -/
def noOwn (Δ : Dl) : Dl := Δ.map fun o => match o with | some (.own _) => none | o => o
theorem Cov.noOwn {K : PySem.W.Frag} {ρ : Rsc} {B : Bs ρ} {T H : Hp} {σ : L2.St} {Δ : Dl} {r : ρ.R} (C : Cov K ρ B T H σ Δ r) : Cov K ρ ⟨T, H, r⟩ T H σ (noOwn Δ) r where
  toAft := C.toAft.self
  len := by unfold FD.noOwn; rw [List.length_map]; exact C.len
  val := fun i d h => by
    unfold FD.noOwn at h
    rw [List.getElem?_map] at h
    cases e : Δ[i]? with
    | none => rw [e] at h; cases h
    | some o =>
      rw [e] at h
      cases o with
      | none => cases h
      | some z =>
        cases z with
        | own l => cases h
        | val d' =>
          cases h
          exact C.val i _ e
  own := fun i l h => by
    unfold FD.noOwn at h
    rw [List.getElem?_map] at h
    cases e : Δ[i]? with
    | none => rw [e] at h; cases h
    | some o =>
      rw [e] at h
      cases o with
      | none => cases h
      | some z => cases z <;> cases h
  apart := fun i j l l' p _ h => by
    unfold FD.noOwn at h
    rw [List.getElem?_map] at h
    cases e : Δ[i]? with
    | none => rw [e] at h; cases h
    | some o =>
      rw [e] at h
      cases o with
      | none => cases h
      | some z => cases z <;> cases h
/-- _law_error(lambda: body), on data -/
theorem he_err2 {tabs : List (Addr × Str)} {J : Jx (ρT tabs)} {Δ : Dl} {r : Bx} {q : D → Bx → Prop} {x a tag f1 f2 : Str} {g c P C : Addr} {k : Nat} {pg : Arguments} {bg : List Stmt} {sg : Scope} {dV kV doc pm cdv ct oc : Value} {an od : Option Addr} {osl : Array (Option Value)} {Ng : List Str}
    {params : Arguments} {body : Expr} {scope : Scope} {p lpos pos : Pos} (ok : J.Ok) (hg : Gl J.X x) (hm : J.X.mg x = some (.ref g)) (hk : PySem.W.keepIn J.X.K (.ref g) = true)
    (lk : J.X.K.lookup g = some ⟨oc, od, .func (PySem.W.fnOf x x pg bg sg dV kV doc pm an cdv ct), osl⟩) (hcg : PySem.W.codeIn J.X.K cdv x = true) (hb : L2.Binds J.X.K (PySem.W.fnOf x x pg bg sg dV kV doc pm an cdv ct) [a] []) (Sg : FnScope Ng [a] sg) (hNg : Ng[0]? = some a) (hva : Vis sg a)
    (hG : GivesTo J.X Ng x sg g cdv bg a (J.X.env.qual ++ "<lambda>") (TErr2 C tag f1 f2))
    (TB : TabB J.X.base J.X.mg c P) (hcode : J.X.env.code = .ref c) (hmT : (P, J.X.env.qual ++ "<lambda>") ∈ tabs) (hu : ∀ p ∈ tabs, p.1 = P → p.2 = J.X.env.qual ++ "<lambda>") (hr : Room (k + 2) J.X.A) (L : LamS J.X.env.scope scope) (hdef : defaultsOf params J.X.env = ([], []))
    (hbind : ∀ (q : Str) (cl : List (Str × Addr)) (pm cv ctv : Value), bindArgs (PySem.W.kla_fn "<lambda>" q params body scope cl pm cv ctv) ⟨[], []⟩ = pure [])
    (hdb : (x == ("__debug__" : Str)) = false) (hd : (a == ("__debug__" : Str)) = false) (hcd : (a == ("__classdict__" : Str)) = false)
    (h : ∀ (A : Around) (outer : List Env) (s : Shared) (H : Hp) (E : XK) (f c' : Addr) (B : Bs (ρT tabs)) (x : Exn → Dl → Bx → Prop), (J.lam A outer s H E scope f c' B x).Ok → Room k (A.deeper (lamEnv J.X scope s.heap.objs.size f c')) →
      (∀ ex Δ' r', (ex.C = C ∧ ∃ d1 d2, ex.fs.lookup f1 = some d1 ∧ ex.fs.lookup f2 = some d2 ∧ q (.tup [.str tag, d1, d2]) r') → x ex Δ' r') →
      HE (J.lam A outer s H E scope f c' B x) body (noOwn Δ) r fun _ r' => q (.tup [.str "told"]) r') :
    HE J (.Call (.Name x p) [.Lambda params body scope lpos] [] pos) Δ r q := fun σ H Q ⟨T, C0, k0⟩ => by
  refine of_pe (pe_lamcall3 (t := fun E σ H Q => ∀ (A : Around) (outer : List Env) (s : Shared) (H0 : Hp) (f c' : Addr), Room k (A.deeper (lamEnv J.X scope s.heap.objs.size f c')) → wpE (lamCx J.X A outer s H0 E scope f c') body σ H Q)
    hg hm hk lk hcg hb Sg hNg hva hG TB hcode hmT hu hr L hdef hbind (fun A outer s H E f c' hr2 => ⟨fun pins s' σ H' Q I hh => hh A outer s H f c' hr2 pins s' I⟩) hdb hd hcd) ?_
  refine ⟨C0.tabsOk, fun H1 M hT => ?_⟩
  obtain ⟨T1, e1, C1⟩ := C0.made M
  intro A outer s H0 f c' hr2
  refine h A outer s H0 _ f c' ⟨T1, H1, r⟩ (fun ex _ r' => ex.C = C ∧ ∃ d1 d2, ex.fs.lookup f1 = some d1 ∧ ex.fs.lookup f2 = some d2 ∧ q (.tup [.str tag, d1, d2]) r') ⟨rfl, ok.nd, takes_of rfl rfl rfl rfl, fun ex Δ' r' hx T' H' σ' cls d C' R' => ?_⟩ hr2 (fun ex Δ' r' hx => hx) σ H1 _ ⟨T1, C1.noOwn, fun d r' hq T' H' v e' C' R' => ?_⟩
  · obtain ⟨ec, d1, d2, l1, l2, hq⟩ := hx
    obtain ⟨hc, dd, fv, ed, ef, rf⟩ := R'
    obtain ⟨v1, m1, r1⟩ := rf.look l1
    obtain ⟨v2, m2, r2⟩ := rf.look l2
    refine ⟨by rw [hc, ec], dd, fv, v1, v2, ed, C'.sub _ _ ef, m1, m2, fun p hp => ?_⟩
    have C2 := (C1.after C'.toAft).alloc (o := .tup [.str tag, v1, v2]) hp
    have eN := Ext.new (o := .tup [.str tag, v1, v2]) (C'.sub.back hp)
    exact k0 _ r' hq _ _ _ (e1.trans (C'.ext.trans eN)) C2 (.tup (.of upd_same) (.cons .str (.cons (r1.mono eN) (.cons (r2.mono eN) .nil))))
  · intro p hp
    have C2 := (C1.after C'.toAft).alloc (o := .tup [.str "told"]) hp
    have eN := Ext.new (o := .tup [.str "told"]) (C'.sub.back hp)
    exact k0 _ r' hq _ _ _ (e1.trans (C'.ext.trans eN)) C2 (.tup (.of upd_same) (.cons .str .nil))
end FD
set_option Elab.async false
set_option linter.all false
set_option maxRecDepth 100000
set_option maxHeartbeats 4000000
/-! more small rules -/
namespace FD
open PySem PySem.Spec PyProof.Rows L2
section
variable {ρ : Rsc} {J : Jx ρ} {Δ : Dl} {r : ρ.R} {q : D → ρ.R → Prop} {qb : Bool → ρ.R → Prop} {a b c e : Expr} {es rest : List Expr} {pos : Pos}
/-- a built-in type by its name -/
theorem he_bty {x : Str} {n : String} (hg : Gl J.X x) (hm : J.X.mg x = none) (hv : bootBuiltins x = some (.type n)) (h : q (.ty n) r) (hn : x ≠ "__name__" := by decide) (hd : (x == ("__debug__" : Str)) = false := by decide) : HE J (.Name x pos) Δ r q :=
  fun σ H Q ⟨T, C, k⟩ => of_pe (pe_bltn (v := .ty n) hg hm hv rfl hn hd) (k _ r h T H _ (Ext.refl T) C (by simp [Rep]))
theorem od1_neg {K : PySem.W.Frag} {i : Int} : OpD1 K (rU fun i => .int (-i)) (.int i) (.int (-i)) := fun T H v Q s R k => ⟨i, rep_int R, k _ T H .same .int⟩
end
theorem boot_isi : bootBuiltins ("isinstance" : Str) = some (.builtin "isinstance") := by kernel_rfl
theorem d_t {p : Prop} [Decidable p] (h : decide p = true) : p := of_decide_eq_true h
theorem d_f {p : Prop} [Decidable p] (h : decide p = false) : ¬ p := of_decide_eq_false h
theorem nd_t {p : Prop} [Decidable p] (h : (!decide p) = true) : ¬ p := by simpa using h
theorem nd_f {p : Prop} [Decidable p] (h : (!decide p) = false) : p := by simpa using h
/-- each datum without addresses has a type -/
theorem ty_dat {d : D} (h : isDat d = true) : ∃ n, tyD d = some n ∧ n ∈ ["NoneType", "bool", "int", "str", "tuple", "list"] := by
  cases d with
  | non => exact ⟨_, rfl, by simp⟩
  | bl _ => exact ⟨_, rfl, by simp⟩
  | int _ => exact ⟨_, rfl, by simp⟩
  | str _ => exact ⟨_, rfl, by simp⟩
  | ty _ => simp [isDat] at h
  | ref _ => simp [isDat] at h
  | rol _ => simp [isDat] at h
  | tup _ => exact ⟨_, rfl, by simp⟩
  | lst _ => exact ⟨_, rfl, by simp⟩
/-- isinstance of a type that has no other below it -/
theorem oa_isiX {K : PySem.W.Frag} {d : D} {n c : String} (hc : ∀ m ∈ ["NoneType", "bool", "int", "str", "tuple", "list"], kitB m c = some (decide (m = c))) (hd : isDat d = true) (h : tyD d = some n) : OpDA K (rIsi K) [d, .ty c] (.bl (decide (n = c))) := by
  obtain ⟨m, h1, h2⟩ := ty_dat hd
  rw [h] at h1
  cases h1
  exact oa_isi h (hc n h2)
/-- an int is one, and a bool is one -/
theorem oa_isiInt {K : PySem.W.Frag} {d : D} {n : String} (hc : ∀ m ∈ ["NoneType", "bool", "int", "str", "tuple", "list"], kitB m "int" = some (decide (m = "int") || decide (m = "bool"))) (hd : isDat d = true) (h : tyD d = some n) : OpDA K (rIsi K) [d, .ty "int"] (.bl (decide (n = "int") || decide (n = "bool"))) := by
  obtain ⟨m, h1, h2⟩ := ty_dat hd
  rw [h] at h1
  cases h1
  exact oa_isi h (hc n h2)
theorem kit_str : ∀ m ∈ ["NoneType", "bool", "int", "str", "tuple", "list"], kitB m "str" = some (decide (m = "str")) := by decide +kernel
theorem kit_tuple : ∀ m ∈ ["NoneType", "bool", "int", "str", "tuple", "list"], kitB m "tuple" = some (decide (m = "tuple")) := by decide +kernel
theorem kit_list : ∀ m ∈ ["NoneType", "bool", "int", "str", "tuple", "list"], kitB m "list" = some (decide (m = "list")) := by decide +kernel
theorem kit_bool : ∀ m ∈ ["NoneType", "bool", "int", "str", "tuple", "list"], kitB m "bool" = some (decide (m = "bool")) := by decide +kernel
theorem kit_int : ∀ m ∈ ["NoneType", "bool", "int", "str", "tuple", "list"], kitB m "int" = some (decide (m = "int") || decide (m = "bool")) := by decide +kernel
end FD
set_option Elab.async false
set_option linter.all false
set_option maxRecDepth 100000
set_option maxHeartbeats 4000000
/-! calls by name alone; a sign repeated; "".join -/
namespace FD
open PySem PySem.Spec PyProof.Rows L2
section
variable {X : Cx} {CX : CXT} {k : Nat} {f : Addr} {fd : FuncData} {ps ks : List Str} {sp : Sp} {x : Str} {p pos : Pos} {kws : List Keyword} {tk : TA}
theorem pe_callK0 {E : L2.St → XK} (F : FnOk X.prog X.w X.K X.mg X.base CX k f fd ps sp) (hr : Room k X.A) (hg : Gl X x) (hm : X.mg x = some (.ref f)) (hk : PySem.W.keepIn X.K (.ref f) = true) (hb : ∀ (s : Shared) (ws : List Value), X.K.In s.heap → ws.length = ps.length → BindsTo s fd ⟨[], ks.zip ws⟩ (ps.zip ws)) (hx : ∀ σ, PassesAt CX X σ (E σ))
    (hkw : PK X kws tk) (hall : (backToKw pos (keywordEach kws X.env)).all (·.1.isSome) = true) (hks : (backToKw pos (keywordEach kws X.env)).filterMap (·.1) = ks) (hdb : (x == ("__debug__" : Str)) = false)
    (hpl : ((backTo pos (starEach [] X.env)).any (·.1) || (backToKw pos (keywordEach kws X.env)).any (·.1.isNone)) = false) :
    PE X (.Call (.Name x p) [] kws pos) (fun σ H Q => tk σ H fun zs H2 => sp zs H2 Q (E σ)) := by
  refine ⟨fun pins s σ H Q I h => ?_⟩
  refine wpAny_Call_Name_kw (ld_glob I hg hm ?_ hdb)
  refine PySem.W.callWith_KW0 (h₀ := X.base) I.ok.mod.kin hk hall (thn (hkw.run pos pins s σ H _ I h) fun ws s2 ⟨zs, H2, I2, rz, q2⟩ => ⟨I2.kIn, ?_⟩) hpl
  rw [hks]
  have hl : ws.length = ps.length := by rw [← rz.length]; exact F.len _ _ _ _ q2
  refine wpAny_call (codeAny_mono (F.run X.A X.stack s2 H2 ⟨[], ks.zip ws⟩ ws zs Q (E σ) hr I2.env0 (hb s2 ws I2.kIn hl) rz q2) fun r s' hq => ?_)
  cases r with
  | error e => exact hx σ pins H2 s2 e s' I2 hq
  | ok fl =>
    cases fl with
    | ret u => exact I2.after hq
    | next => exact False.elim hq
    | brk => exact False.elim hq
    | cont => exact False.elim hq
end
section
variable {ρ : Rsc} {J : Jx ρ} {Δ : Dl} {r : ρ.R} {q : D → ρ.R → Prop} {a b c e : Expr} {es rest : List Expr} {pos : Pos}
/-- f(k = e) of a def of one parameter -/
theorem he_call1K {x kn : Str} {k : Nat} {f : Addr} {fd : FuncData} {F : Spec ρ.R} {p kp : Pos} (ok : J.Ok) (Fk : FnOk J.X.prog J.X.w J.X.K J.X.mg J.X.base (L2.CX J.X.prog J.X.w) k f fd [kn] (spD J.X.K ρ 1 F)) (hr : Room k J.X.A) (hg : Gl J.X x) (hm : J.X.mg x = some (.ref f)) (hk : PySem.W.keepIn J.X.K (.ref f) = true)
    (hb : ∀ (s : Shared) (u : Value), J.X.K.In s.heap → BindsTo s fd ⟨[], [(kn, u)]⟩ [(kn, u)])
    (h : HE J e Δ r fun d r1 => F [d] r1 q (fun ex r2 => J.x ex Δ r2)) (hdb : (x == ("__debug__" : Str)) = false)
    (hall : (backToKw pos (keywordEach [⟨some kn, e, kp⟩] J.X.env)).all (·.1.isSome) = true) (hks : (backToKw pos (keywordEach [⟨some kn, e, kp⟩] J.X.env)).filterMap (·.1) = [kn])
    (hpl : ((backTo pos (starEach [] J.X.env)).any (·.1) || (backToKw pos (keywordEach [⟨some kn, e, kp⟩] J.X.env)).any (·.1.isNone)) = false) : HE J (.Call (.Name x p) [] [⟨some kn, e, kp⟩] pos) Δ r q := fun σ H Q ⟨T, C, k'⟩ => by
  refine of_pe (pe_callK0 (ks := [kn]) Fk hr hg hm hk (fun s ws hK hl => match ws, hl with | [u], _ => hb s u hK) (fun σ => passAt ok.tk σ) (pk_cons pe_wp pk_nil) hall hks hdb hpl) ?_
  refine h σ H _ ⟨T, C, fun d r1 hF T1 H1 v e1 C1 R1 => ?_⟩
  refine ⟨T1, [d], r1, q, _, rfl, C1.toAft.self, .cons R1 .nil, hF, fun d r3 hq T3 H3 v A3 R3 => ?_, fun ex r3 hx T3 H3 cls d A3 R3 => ?_⟩
  · exact k' d r3 hq T3 H3 v (e1.trans A3.ext) (C1.after A3) R3
  · exact ok.xok ex Δ r3 hx T3 H3 σ cls d (C1.after A3) R3
end
/-! ### a sign so many times -/
def rMulC : R2 := fun x y H Q => ∃ (c n : Nat), x = .str ⟨#[c]⟩ ∧ y = .int (n : Int) ∧ 2 ≤ n ∧ n ≤ sizeLine ∧ Q (.str ⟨(List.replicate n c).toArray⟩) H
theorem fold_rep (c : Nat) : ∀ (n : Nat) (acc : Array Nat), (List.replicate n #[c]).foldl (· ++ ·) acc = acc ++ (List.replicate n c).toArray
  | 0, acc => by simp
  | n + 1, acc => by
    rw [List.replicate_succ, List.foldl_cons, fold_rep c n (acc ++ #[c]), List.replicate_succ, Array.append_assoc]
    congr 1
    apply Array.ext'
    simp
theorem op_mulC {X : Cx} : OpR X (binaryOp .Mult) rMulC := by
  intro pins s σ H x y v u Q I rx ry h
  obtain ⟨c, n, rfl, rfl, h2, hz, q⟩ := h
  obtain ⟨t, rfl⟩ := rx
  obtain ⟨t', rfl⟩ := ry
  have hs : sizeLine = 16777216 := sizeLine_eq
  have h1 : (⟨#[c]⟩ : Str).length = 1 := rfl
  refine P.mul_str ?_ (fun _ _ => ?_) (fun _ _ => ?_) ?_
  · rw [decide_eq_false (by omega), decide_eq_false (by omega)]; rfl
  · rw [h1]
    have : (1 : Int) ≤ (2 ^ 63 - 1) / (n : Int) := by
      rw [Int.le_ediv_iff_mul_le (by omega)]; omega
    omega
  · rw [h1, Int.toNat_natCast, Nat.one_mul]
    unfold Builtin.Str.tooLong
    exact decide_eq_false (by omega)
  · rw [if_neg (by omega), if_neg (by rw [h1]; simp; omega), Int.toNat_natCast, fold_rep]
    refine ⟨?_, ⟨.str ⟨(List.replicate n c).toArray⟩, H, I.tok _, ⟨s.toks, ?_⟩, q⟩⟩
    · show (#[] ++ (List.replicate n c).toArray).size ≤ sizeLine
      simp; omega
    · simp
theorem od_mulC {K : PySem.W.Frag} {c n : Nat} (h2 : 2 ≤ n) (hz : n ≤ sizeLine) : OpD K rMulC (.str ⟨#[c]⟩) (.int (n : Int)) (.str ⟨(List.replicate n c).toArray⟩) := fun T H v1 v2 Q s R1 R2 k => ⟨c, n, rep_str R1, rep_int R2, h2, hz, k _ T H .same .str⟩
/-! ### "".join -/
theorem joinL_nil : ∀ l : List (List Nat), TL.joinL [] l = l.flatten
  | [] => rfl
  | [p] => by simp [TL.joinL]
  | p :: q :: r => by
    show p ++ ([] ++ TL.joinL [] (q :: r)) = _
    rw [joinL_nil (q :: r)]
    simp
def strOf (l : List Nat) : Str := ⟨l.toArray⟩
theorem join_of (a : List Nat) (l : List (List Nat)) : Txt.join (strOf a) (l.map strOf) = strOf (TL.joinL a l) := SX.join_S a l
theorem strOf_toList {l : List Nat} : (strOf l).cps.toList = l := rfl
theorem strOf_length {l : List Nat} : (strOf l).length = l.length := by show l.toArray.size = _; rw [List.size_toArray]
theorem strOf_eq (z : Str) : strOf z.cps.toList = z := by
  obtain ⟨c⟩ := z
  show (⟨c.toList.toArray⟩ : Str) = _
  rw [Array.toArray_toList]
theorem strOf_append {a b : List Nat} : strOf a ++ strOf b = strOf (a ++ b) := by
  show (⟨a.toArray ++ b.toArray⟩ : Str) = ⟨(a ++ b).toArray⟩
  rw [List.append_toArray]
section
variable {ρ : Rsc} {J : Jx ρ} {Δ : Dl} {r : ρ.R} {st : Stmt} {sts : List Stmt} {P : Post ρ.R}
/-- a statement, what stands behind it, the rest -/
theorem hss_mid (Mid : Dl → ρ.R → Prop) (h1 : HS J st Δ r { P with nx := Mid }) (h2 : ∀ Δ' r', Mid Δ' r' → HSs J sts Δ' r' P) : HSs J (st :: sts) Δ r P :=
  hss_cons fun D σ H ⟨T, C, k1, k2, k3, k4⟩ => h1 D σ H ⟨T, C, fun Δ' r' hm => k1 Δ' r' (h2 Δ' r' hm), k2, k3, k4⟩
end
def ownAt (Δ : Dl) (i : Nat) : Bool := match Δ[i]? with | some (some (.own _)) => true | _ => false
theorem hvs_by {Δ : Dl} {vs : List Nat} (h : (vs.all fun i => !ownAt Δ i) = true) : ∀ i ∈ vs, ∀ l, Δ[i]? ≠ some (some (.own l)) := fun i hi l e => by
  have h1 := List.all_eq_true.mp h i hi
  unfold ownAt at h1
  rw [e] at h1
  cases h1
end FD
set_option Elab.async false
set_option linter.all false
set_option maxRecDepth 100000
set_option maxHeartbeats 4000000
/-! a def whose code object is known; the law's head -/
namespace FD
open PySem PySem.Spec PyProof.Rows L2
section
variable {ρ : Rsc} {P : Program} {w : World} {K : PySem.W.Frag} {mg : Str → Option Value} {base : Heap}
theorem fd_okC {name qual : Str} {params : Arguments} {body : List Stmt} {scope : Scope} {dV kV doc pm cdv ct oc : Value} {an od : Option Addr} {osl : Array (Option Value)} {f : Addr} {N ps : List Str} {k : Nat} {F : Spec ρ.R}
    (lk : K.lookup f = some ⟨oc, od, .func (PySem.W.fnOf name qual params body scope dV kV doc pm an cdv ct), osl⟩) (hcd : PySem.W.codeIn K cdv qual = true) (S : FnScope N ps scope)
    (h : ∀ (A : Around) (outer : List Env) (s : Shared) (H : Hp) (E : XK) (B : Bs ρ) (xq : Exn → ρ.R → Prop), (jx P w K mg base N qual scope f cdv A outer s H E B xq).Ok → Room k (A.deeper (envOfC qual scope s.heap.objs.size f cdv)) →
      PassesOwn (model P w) (A.deeper (envOfC qual scope s.heap.objs.size f cdv)) (envOfC qual scope s.heap.objs.size f cdv) (jx P w K mg base N qual scope f cdv A outer s H E B xq).X.xe →
      ∀ ds r q, ds.length = ps.length → F ds r q xq → HSs (jx P w K mg base N qual scope f cdv A outer s H E B xq) body (startD N ds) r { nx := fun _ r' => q .non r', rt := q }) :
    FnOk P w K mg base (L2.CX P w) (k + 1) f (PySem.W.fnOf name qual params body scope dV kV doc pm an cdv ct) ps (spD K ρ ps.length F) := by
  refine fn_of lk hcd S (fun vs H Q E hh => ?_) fun A outer s H vs Q E hr hh => ?_
  · obtain ⟨T, ds, r, q, x, hl, A, R, _⟩ := hh
    rw [R.length]; exact hl
  · obtain ⟨T, ds, r, q, xq, hl, A0, R, hF, k1, k2⟩ := hh
    have hpN : ps.length ≤ N.length := by
      have e := congrArg List.length S.pre
      rw [List.length_take] at e
      omega
    have ok : (jx P w K mg base N qual scope f cdv A outer s H E ⟨T, H, r⟩ xq).Ok :=
      ⟨rfl, S.nd, takes_of rfl rfl rfl rfl, fun ex Δ r' hx T' H' σ cls d C R' => k2 ex r' hx T' H' cls d C.toAft R'⟩
    refine ⟨_, pss_wp, ?_⟩
    refine h A outer s H E ⟨T, H, r⟩ xq ok hr (passes_of rfl) ds r q hl hF _ _ _ ⟨T, cov_start A0 R (by omega), ?_, ?_, ?_, ?_⟩
    · exact fun Δ' r' hq T' H' σ' e C => k1 .non r' hq T' H' .non C.toAft .non
    · exact fun d r' hq T' H' v e A' R' => k1 d r' hq T' H' v A' R'
    · exact fun _ _ z => z.elim
    · exact fun _ _ z => z.elim
end
/-- the state told anew (a row of List.set doubles the work of each look) -/
theorem hss_norm {J : Jx ρ} {Δ : Dl} {r : ρ.R} {sts : List Stmt} {Q : Post ρ.R} (Δ' : Dl) (e : Δ = Δ') (h : HSs J sts Δ' r Q) : HSs J sts Δ r Q := by
  subst e
  exact h
/-- a constant ahead of more arguments (rfl over long lists doubles with each) -/
theorem star_c {c : Const} {j : Nat} {p : Pos} {es : List Expr} {env : Env} : starEach (.Constant c j p :: es) env = (false, eval (.Constant c j p) env) :: starEach es env := rfl
theorem star_n {x : Str} {p : Pos} {es : List Expr} {env : Env} : starEach (.Name x p :: es) env = (false, eval (.Name x p) env) :: starEach es env := rfl
theorem star_t {l : List Expr} {k : Nat} {p : Pos} {es : List Expr} {env : Env} : starEach (.Tuple l k p :: es) env = (false, eval (.Tuple l k p) env) :: starEach es env := rfl
theorem star_l {l : List Expr} {p : Pos} {es : List Expr} {env : Env} : starEach (.List l p :: es) env = (false, eval (.List l p) env) :: starEach es env := rfl
theorem pl_l {l : List Expr} {p pos : Pos} {env : Env} : (backTo pos (starEach [.List l p] env)).any (·.1) = false := rfl
theorem pl_t {l : List Expr} {k : Nat} {p pos : Pos} {env : Env} : (backTo pos (starEach [.Tuple l k p] env)).any (·.1) = false := rfl
/-- the promise of a law: of a script it tells True -/
def FLaw : Spec Bx := fun ds r q _ => ∃ ns : List Int, ds = [.rol (ns.map D.int)] ∧ ns.length ≤ 63 ∧ r = [] ∧ ∀ r', q (.bl true) r'
theorem reps_ints {K : PySem.W.Frag} {T : Hp} : ∀ ns : List Int, Reps K T (ns.map D.int) (ns.map V.int)
  | [] => Reps.nil
  | n :: ns => by rw [List.map_cons, List.map_cons]; exact .cons .int (reps_ints ns)
/-- at the head: nothing but the script is data, the tables are empty -/
theorem head_sp {K : PySem.W.Frag} {tabs : List (Addr × Str)} {H : Hp} {a : Addr} {ns : List Int} (hl : ns.length ≤ 63) (hT : ∀ p ∈ tabs, H p.1 = some (.tbl #[])) (hS : SqL K H a (ns.map V.int)) :
    spD K (ρT tabs) 1 FLaw [.ref a] H (fun v _ => v = .bl true) fun _ _ _ => False := by
  classical
  have hTa : ∀ p ∈ tabs, Rd H a (.lst (ns.map V.int)) → p.1 ≠ a := fun p hp hr z => by
    have e := hT p hp
    rw [z] at e
    rcases hr with h | ⟨o, h⟩
    · rw [e] at h; cases h
    · rw [e] at h; cases h
  refine ⟨fun b => if b = a ∧ Rd H a (.lst (ns.map V.int)) then H b else none, [.rol (ns.map D.int)], [], fun d _ => d = .bl true, fun _ _ => False, rfl, ?_, ?_, ⟨ns, rfl, hl, rfl, fun _ => rfl⟩, fun d r' hq T' H' v A R => ?_, fun _ _ z => z.elim⟩
  · refine .start (fun b o e => ?_) ⟨fun e he => absurd he List.not_mem_nil, List.nodup_nil, fun p hp => ⟨#[], hT p hp, True.intro, fun pos cv hc => ?_⟩⟩ fun b hb => ?_
    · by_cases h : b = a ∧ Rd H a (.lst (ns.map V.int))
      · rw [if_pos h] at e; exact e
      · rw [if_neg h] at e; cases e
    · have z : codeAmong pos [] = some cv := hc
      simp [codeAmong] at z
    · have hb : b ∈ tabs.map (·.1) := by
        rcases hb with h | h
        · exact absurd h List.not_mem_nil
        · exact h
      obtain ⟨p, hp, rfl⟩ := List.mem_map.mp hb
      refine ⟨if_neg fun h => hTa p hp h.2 h.1, by rw [hT p hp]; exact fun e => nomatch e⟩
  · refine .cons (.rol ?_ (reps_ints ns)) .nil
    rcases hS with h | h
    · refine .inl ?_
      have e : (fun b => if b = a ∧ Rd H a (.lst (ns.map V.int)) then H b else none) a = H a := if_pos ⟨rfl, h⟩
      rcases h with h | ⟨o, h⟩
      · exact .inl (e.trans h)
      · exact .inr ⟨o, e.trans h⟩
    · exact .inr h
  · subst hq
    exact rep_bl R
end FD
set_option Elab.async false
set_option linter.all false
set_option maxRecDepth 100000
set_option maxHeartbeats 4000000
namespace K02
open PySem PySem.Spec PyProof.Rows L2 FD
def topS (i : Nat) : Stmt := PySem.Challenge.pw_endslost_k02_whole_texts_cut_into_groups.main.body.getD i (.Pass ⟨0, 0, 0, 0⟩)
abbrev sEnd : Stmt := topS 10
theorem scEnd : FnScope ["text", "at", "signs"] ["text", "at", "signs"] (defScope sEnd) := ⟨rfl, rfl, rfl, by decide +kernel, rfl, by decide +kernel, by decide +kernel⟩
/-- the place behind the longest row of some signs -/
def eo (z s : List Nat) (i : Nat) : Nat := i + ((z.drop i).takeWhile (· ∈ s)).length
theorem eo_step {z s : List Nat} {i c : Nat} (h : z[i]? = some c) (hc : c ∈ s) : eo z s i = eo z s (i + 1) := by
  have hi : i < z.length := (List.getElem?_eq_some_iff.mp h).1
  unfold eo
  rw [List.drop_eq_getElem_cons hi, List.takeWhile_cons]
  have e : z[i] = c := by rw [List.getElem?_eq_getElem hi] at h; exact Option.some.inj h
  rw [e, if_pos (by simpa using hc), List.length_cons]
  omega
theorem eo_stop {z s : List Nat} {i c : Nat} (h : z[i]? = some c) (hc : c ∉ s) : eo z s i = i := by
  have hi : i < z.length := (List.getElem?_eq_some_iff.mp h).1
  unfold eo
  rw [List.drop_eq_getElem_cons hi, List.takeWhile_cons]
  have e : z[i] = c := by rw [List.getElem?_eq_getElem hi] at h; exact Option.some.inj h
  rw [e, if_neg (by simpa using hc)]
  rfl
theorem eo_end {z s : List Nat} {i : Nat} (h : z.length ≤ i) : eo z s i = i := by
  unfold eo
  rw [List.drop_eq_nil_of_le h]
  rfl
def FEnd : Spec Bx := fun ds r q _ => ∃ (z s : Str) (i : Nat), ds = [.str z, .int i, .str s] ∧ i ≤ z.length ∧ z.length ≤ sizeLine ∧ q (.int (eo z.cps.toList s.cps.toList i : Nat)) r
section
variable {P : Program} {w : World} {K : PySem.W.Frag} {mg : Str → Option Value} {base : Heap} {tabs : List (Addr × Str)} {f : Addr} {fd : FuncData} {k : Nat}
theorem lenS {z : Str} (h : z.length ≤ sizeLine) : lenD (.str z) = some z.length := by
  show (if _ then _ else _) = _
  rw [if_pos h]
theorem atI_natS {z : Str} {i : Nat} (h : i < z.length) : ∃ c, atI z.cps.toList (i : Int) = some c ∧ z.cps.toList[i]? = some c := by
  have hl : i < z.cps.toList.length := by rw [Array.length_toList]; exact h
  exact ⟨z.cps.toList[i], by rw [atI_nat (j := i) (List.getElem?_eq_getElem hl)], List.getElem?_eq_getElem hl⟩
theorem ok_end (Fn : Fun K "end_of" "end_of" sEnd f fd) (ml : mg "len" = none) : FnOk P w K mg base (L2.CX P w) (k + 1) f fd ["text", "at", "signs"] (spD K (ρT tabs) 3 FEnd) := by
  refine fd_ok Fn scEnd fun cdv A outer s H E B xq ok hr hp ds r q hl hF => ?_
  obtain ⟨z, sg, i, rfl, hi, hz, hq⟩ := hF
  refine hss_cons (hs_while (fun m Δ' r' => ∃ j : Nat, r' = r ∧ Δ' = [some (.val (.str z)), some (.val (.int j)), some (.val (.str sg))] ∧ j ≤ z.length ∧ m = z.length - j ∧ eo z.cps.toList sg.cps.toList j = eo z.cps.toList sg.cps.toList i) (z.length - i) hp ⟨i, rfl, rfl, hi, rfl, rfl⟩ fun m Δ r hI => ?_)
  obtain ⟨j, rfl, rfl, hj, rfl, he⟩ := hI
  refine ht_of_w (hw_and ?_)
  refine ht_cmp op_lt rfl ?_
  refine he_name (i := 1) rfl (by first | exact .inl rfl | exact .inr (.inl rfl) | exact .inr (.inr rfl)) rfl ?_
  refine he_callB call_len (by rfl) ml PySem.boot_len ?_ rfl rfl (by decide) (by decide)
  refine ha_cons ?_ ?hs_
  case hs_ => rfl
  refine he_name (i := 0) rfl (by first | exact .inl rfl | exact .inr (.inl rfl) | exact .inr (.inr rfl)) rfl ?_
  refine ha_nil ?_
  refine ⟨_, oa_len (lenS hz), _, od_i0 (fun _ => .bl), fun hlt => hw_and1 ?_, fun hge => ⟨fun z => (nomatch z), fun _ => ?_⟩⟩
  · have hlt : j < z.length := by simpa using hlt
    obtain ⟨c, h1, h2⟩ := atI_natS hlt
    refine ht_cmp op_in_sign rfl ?_
    refine he_ix ix_seq (fun _ _ => rfl) ?_
    refine he_name (i := 0) rfl (by first | exact .inl rfl | exact .inr (.inl rfl) | exact .inr (.inr rfl)) rfl ?_
    refine he_name (i := 1) rfl (by first | exact .inl rfl | exact .inr (.inl rfl) | exact .inr (.inr rfl)) rfl ?_
    refine ⟨_, od_ixS hz h1, ?_⟩
    refine he_name (i := 2) rfl (by first | exact .inl rfl | exact .inr (.inl rfl) | exact .inr (.inr rfl)) rfl ?_
    refine ⟨_, od_inSg, fun hin => ?_, fun hin => ?_⟩
    · have hin : c ∈ sg.cps.toList := by simpa using hin
      refine hss_one (hs_aug (i := 1) ok iop_add rfl (.inl rfl) rfl ?_ (.inr rfl))
      refine he_int ?_
      refine ⟨_, od_i0 (fun _ => .int), z.length - (j + 1), by omega, j + 1, rfl, rfl, by omega, rfl, ?_⟩
      rw [← eo_step h2 hin]; exact he
    · have hin : c ∉ sg.cps.toList := by simpa using hin
      refine hss_one (hs_ret ?_)
      refine he_name (i := 1) rfl (by first | exact .inl rfl | exact .inr (.inl rfl) | exact .inr (.inr rfl)) rfl ?_
      rw [eo_stop h2 hin] at he
      rw [he]; exact hq
  · have hge : z.length ≤ j := by simpa using hge
    refine hss_one (hs_ret ?_)
    refine he_name (i := 1) rfl (by first | exact .inl rfl | exact .inr (.inl rfl) | exact .inr (.inr rfl)) rfl ?_
    rw [eo_end (by rw [Array.length_toList]; exact hge)] at he
    rw [he]; exact hq
/-! ### group_end -/
abbrev sGe : Stmt := topS 11
theorem scGe : FnScope ["text", "at"] ["text", "at"] (defScope sGe) := ⟨rfl, rfl, rfl, by decide +kernel, rfl, by decide +kernel, by decide +kernel⟩
abbrev tLet : Str := "abcdefghijklmnopqrstuvwxyz"
abbrev tFig : Str := "0123456789"
abbrev tSig : Str := "<=/-,()"
abbrev tBla : Str := " \n"
def lets : List Nat := tLet.cps.toList
def figs : List Nat := tFig.cps.toList
def sigs : List Nat := tSig.cps.toList
def blas : List Nat := tBla.cps.toList
/-- how long the group is that begins here -/
def glen : List Nat → Nat
  | [] => 1
  | c :: r => if c ∈ lets then ((c :: r).takeWhile (· ∈ lets)).length else if c ∈ figs then ((c :: r).takeWhile (· ∈ figs)).length else 1
theorem glen_cons {c : Nat} {r : List Nat} : glen (c :: r) = if c ∈ lets then ((c :: r).takeWhile (· ∈ lets)).length else if c ∈ figs then ((c :: r).takeWhile (· ∈ figs)).length else 1 := rfl
/-- a def of the text, as a caller has it -/
structure DefAt (K : PySem.W.Frag) (mg : Str → Option Value) (x : Str) (st : Stmt) (f : Addr) (fd : FuncData) (ps : List Str) : Prop where
  fn : Fun K x x st f fd
  b : Binds K fd ps []
  m : mg x = some (.ref f)
/-- a global text -/
def TxtAt (mg : Str → Option Value) (x : Str) (z : Str) : Prop := ∃ u, mg x = some u ∧ RelV (.str z) u
def FGe : Spec Bx := fun ds r q _ => ∃ (z : Str) (i : Nat), ds = [.str z, .int i] ∧ i < z.length ∧ z.length ≤ sizeLine ∧ q (.int (i + glen (z.cps.toList.drop i) : Nat)) r
theorem ok_ge {fE : Addr} {fdE : FuncData} (Fn : Fun K "group_end" "group_end" sGe f fd) (DE : DefAt K mg "end_of" sEnd fE fdE ["text", "at", "signs"]) (ml : mg "len" = none) (gL : TxtAt mg "LETTERS" tLet) (gF : TxtAt mg "FIGURES" tFig) :
    FnOk P w K mg base (L2.CX P w) (k + 2) f fd ["text", "at"] (spD K (ρT tabs) 2 FGe) := by
  have GE : FnOk P w K mg base (L2.CX P w) (k + 1) fE fdE ["text", "at", "signs"] (spD K (ρT tabs) 3 FEnd) := ok_end DE.fn ml
  obtain ⟨uL, mL, rL⟩ := gL
  obtain ⟨uF, mF, rF⟩ := gF
  refine fd_ok Fn scGe fun cdv A outer s H E B xq ok hr hp ds r q hl hF => ?_
  obtain ⟨z, i, rfl, hi, hz, hq⟩ := hF
  obtain ⟨c, h1, h2⟩ := atI_natS hi
  have hd : z.cps.toList.drop i = c :: z.cps.toList.drop (i + 1) := by
    have hl := (List.getElem?_eq_some_iff.mp h2)
    obtain ⟨hl, e⟩ := hl
    rw [List.drop_eq_getElem_cons hl, e]
  have hg : ∀ s' : Str, eo z.cps.toList s'.cps.toList i = i + ((c :: z.cps.toList.drop (i + 1)).takeWhile (· ∈ s'.cps.toList)).length := fun s' => by
    unfold eo
    rw [hd]
  rw [hd] at hq
  refine hss_cons (hs_if ?_)
  refine ht_cmp op_in_sign rfl ?_
  refine he_ix ix_seq (fun _ _ => rfl) ?_
  refine he_name (i := 0) rfl (by first | exact .inl rfl | exact .inr (.inl rfl) | exact .inr (.inr rfl)) rfl ?_
  refine he_name (i := 1) rfl (by first | exact .inl rfl | exact .inr (.inl rfl) | exact .inr (.inr rfl)) rfl ?_
  refine ⟨_, od_ixS hz h1, he_glob (by rfl) mL rL (fun _ => .str) ⟨_, od_inSg, fun hin => hss_one ?_, fun hin => hss_nil ?_⟩⟩
  · have hin : c ∈ tLet.cps.toList := by simpa using hin
    refine hs_ret ?_
    refine he_call ok GE hr (by rfl) DE.m DE.fn.kp DE.b ?_ (by decide) rfl rfl
    refine ha_cons ?_ ?hs_
    case hs_ => rfl
    refine he_name (i := 0) rfl (by first | exact .inl rfl | exact .inr (.inl rfl) | exact .inr (.inr rfl)) rfl ?_
    refine ha_cons ?_ ?hs_
    case hs_ => rfl
    refine he_name (i := 1) rfl (by first | exact .inl rfl | exact .inr (.inl rfl) | exact .inr (.inr rfl)) rfl ?_
    refine ha_cons ?_ ?hs_
    case hs_ => rfl
    refine he_glob (by rfl) mL rL (fun _ => .str) ?_
    refine ha_nil ?_
    refine ⟨rfl, z, tLet, i, rfl, by omega, hz, ?_⟩
    rw [hg]
    rw [glen_cons, if_pos (show c ∈ lets from hin)] at hq
    exact hq
  · have hin : c ∉ tLet.cps.toList := by simpa using hin
    refine hss_one ?_
    refine hs_ret ?_
    refine he_if ?_
    refine ht_cmp op_in_sign rfl ?_
    refine he_ix ix_seq (fun _ _ => rfl) ?_
    refine he_name (i := 0) rfl (by first | exact .inl rfl | exact .inr (.inl rfl) | exact .inr (.inr rfl)) rfl ?_
    refine he_name (i := 1) rfl (by first | exact .inl rfl | exact .inr (.inl rfl) | exact .inr (.inr rfl)) rfl ?_
    refine ⟨_, od_ixS hz h1, he_glob (by rfl) mF rF (fun _ => .str) ⟨_, od_inSg, fun hf => ?_, fun hf => ?_⟩⟩
    · have hf : c ∈ tFig.cps.toList := by simpa using hf
      refine he_call ok GE hr (by rfl) DE.m DE.fn.kp DE.b ?_ (by decide) rfl rfl
      refine ha_cons ?_ ?hs_
      case hs_ => rfl
      refine he_name (i := 0) rfl (by first | exact .inl rfl | exact .inr (.inl rfl) | exact .inr (.inr rfl)) rfl ?_
      refine ha_cons ?_ ?hs_
      case hs_ => rfl
      refine he_name (i := 1) rfl (by first | exact .inl rfl | exact .inr (.inl rfl) | exact .inr (.inr rfl)) rfl ?_
      refine ha_cons ?_ ?hs_
      case hs_ => rfl
      refine he_glob (by rfl) mF rF (fun _ => .str) ?_
      refine ha_nil ?_
      refine ⟨rfl, z, tFig, i, rfl, by omega, hz, ?_⟩
      rw [hg]
      rw [glen_cons, if_neg (show c ∉ lets from hin), if_pos (show c ∈ figs from hf)] at hq
      exact hq
    · have hf : c ∉ tFig.cps.toList := by simpa using hf
      refine he_op op_add ?_
      refine he_name (i := 1) rfl (by first | exact .inl rfl | exact .inr (.inl rfl) | exact .inr (.inr rfl)) rfl ?_
      refine he_int ?_
      refine ⟨_, od_i0 (fun _ => .int), ?_⟩
      rw [glen_cons, if_neg (show c ∉ lets from hin), if_neg (show c ∉ figs from hf)] at hq
      exact hq
/-! ### cut_groups -/
abbrev sCut : Stmt := topS 12
theorem scCut : FnScope ["text", "at", "sign", "found", "end"] ["text"] (defScope sCut) := ⟨rfl, rfl, rfl, by decide +kernel, rfl, by decide +kernel, by decide +kernel⟩
/-- a sign that may stand in a text -/
def isOk (c : Nat) : Bool := decide (c ∈ lets) || decide (c ∈ figs) || decide (c ∈ sigs) || decide (c ∈ blas)
/-- the groups of a text -/
inductive Cuts : List Nat → List (List Nat) → Prop where
  | nil : Cuts [] []
  | bla {c : Nat} {r : List Nat} {g : List (List Nat)} : c ∈ blas → Cuts r g → Cuts (c :: r) g
  | grp {c : Nat} {r : List Nat} {g : List (List Nat)} : c ∉ blas → Cuts ((c :: r).drop (glen (c :: r))) g → Cuts (c :: r) ((c :: r).take (glen (c :: r)) :: g)
def tupG (g : List (List Nat)) : D := .tup (strsD (g.map FD.strOf))
def exT (C : Addr) (at_ why : Int) : Exn := ⟨C, [("at", .int at_), ("why", .int why)]⟩
/-- what the text's groups are: told, or refused -/
inductive CutR (C : Addr) (q : D → Prop) (x : Exn → Prop) : D → Prop where
  | odd {d : D} : isDat d = true → (∀ z, d ≠ .str z) → x (exT C (-1) 0) → CutR C q x d
  | long {z : Str} : z.length ≤ sizeLine → 60000 < z.length → x (exT C (-1) 0) → CutR C q x (.str z)
  | bad {z : Str} {i c : Nat} : z.length ≤ 60000 → z.cps.toList[i]? = some c → isOk c = false → (∀ j c', j < i → z.cps.toList[j]? = some c' → isOk c' = true) → x (exT C i 1) → CutR C q x (.str z)
  | many {z : Str} {g : List (List Nat)} : z.length ≤ 60000 → (∀ c ∈ z.cps.toList, isOk c = true) → Cuts z.cps.toList g → 4000 < g.length → x (exT C (-1) 2) → CutR C q x (.str z)
  | told {z : Str} {g : List (List Nat)} : z.length ≤ 60000 → (∀ c ∈ z.cps.toList, isOk c = true) → Cuts z.cps.toList g → g.length ≤ 4000 → q (tupG g) → CutR C q x (.str z)
def FCut (C : Addr) : Spec Bx := fun ds r q x => ∃ d, ds = [d] ∧ CutR C (fun d => q d r) (fun e => x e r) d
theorem glen_pos : ∀ {l : List Nat}, 1 ≤ glen l
  | [] => Nat.le_refl _
  | c :: r => by
    rw [glen_cons]
    split
    · rename_i h
      rw [List.takeWhile_cons, if_pos (by simpa using h), List.length_cons]; omega
    · split
      · rename_i h
        rw [List.takeWhile_cons, if_pos (by simpa using h), List.length_cons]; omega
      · exact Nat.le_refl _
theorem tw_le {p : Nat → Bool} : ∀ {l : List Nat}, (l.takeWhile p).length ≤ l.length
  | [] => Nat.le_refl _
  | c :: r => by
    rw [List.takeWhile_cons]
    split
    · rw [List.length_cons, List.length_cons]; exact Nat.succ_le_succ tw_le
    · exact Nat.zero_le _
theorem glen_le {c : Nat} {r : List Nat} : glen (c :: r) ≤ (c :: r).length := by
  rw [glen_cons]
  split
  · exact tw_le
  · split
    · exact tw_le
    · rw [List.length_cons]; omega
theorem cut_str {z : Str} {i m : Nat} (h : i + m ≤ z.length) : cutS z (some (i : Int)) (some ((i + m : Nat) : Int)) = FD.strOf ((z.cps.toList.drop i).take m) := by
  unfold cutS FD.strOf
  rw [HT.sIx_nat, HT.sIx_nat, Nat.min_eq_left (show i ≤ z.length by omega), Nat.min_eq_left h, Nat.add_sub_cancel_left]
theorem size_str {z : Str} : z.length = z.cps.toList.length := by rw [Array.length_toList]; rfl
theorem Cuts.len : ∀ {l : List Nat} {g : List (List Nat)}, Cuts l g → g.length ≤ l.length := fun {l g} h => by
  induction h with
  | nil => exact Nat.le_refl _
  | bla _ _ ih => rw [List.length_cons]; omega
  | @grp c r g _ _ ih =>
    have h1 := glen_pos (l := c :: r)
    rw [List.length_drop, List.length_cons] at ih
    rw [List.length_cons, List.length_cons]
    omega
theorem strs_len {g : List (List Nat)} : (strsD (g.map FD.strOf)).length = g.length := by unfold strsD; rw [List.length_map, List.length_map]
/-- the error class, and what its making asks -/
theorem ok_cut {fG fE C fI cc cda : Addr} {fdG fdE : FuncData} (Fn : Fun K "cut_groups" "cut_groups" sCut f fd) (DG : DefAt K mg "group_end" sGe fG fdG ["text", "at"]) (DE : DefAt K mg "end_of" sEnd fE fdE ["text", "at", "signs"])
    (ml : mg "len" = none) (mi : mg "isinstance" = none) (ms : mg "str" = none) (me : mg "enumerate" = none) (mt : mg "tuple" = none) (gL : TxtAt mg "LETTERS" tLet) (gF : TxtAt mg "FIGURES" tFig) (gS : TxtAt mg "SIGNS" tSig)
    (gT : ∃ u, mg "MOST_TEXT" = some u ∧ RelV (.int 60000) u) (gG : ∃ u, mg "MOST_GROUPS" = some u ∧ RelV (.int 4000) u) (TE : PySem.ErX.ErrT P K C fI cc cda ["at", "why"]) (mC : mg "InvalidText" = some (.ref C)) (kC : PySem.W.keepIn K (.ref C) = true) (msu : mg "super" = none) :
    FnOk P w K mg base (L2.CX P w) (k + 3) f fd ["text"] (spD K (ρT tabs) 1 (FCut C)) := by
  have GG : FnOk P w K mg base (L2.CX P w) (k + 2) fG fdG ["text", "at"] (spD K (ρT tabs) 2 FGe) := ok_ge DG.fn DE ml gL gF
  obtain ⟨uL, mL, rL⟩ := gL
  obtain ⟨uF, mF, rF⟩ := gF
  obtain ⟨uS, mS, rS⟩ := gS
  obtain ⟨uT, mT, rT⟩ := gT
  obtain ⟨uG, mG, rG⟩ := gG
  refine fd_ok Fn scCut fun cdv A outer s H E B xq ok hr hp ds r q hl hF => ?_
  obtain ⟨d, rfl, hF⟩ := hF
  have dat : isDat d = true := by
    cases hF <;> first | assumption | rfl
  obtain ⟨n, hn, _⟩ := ty_dat dat
  have raise0 : ((∀ z, d ≠ .str z) ∨ ∃ z, d = .str z ∧ 60000 < z.length) → xq (exT C (-1) 0) r := fun h => by
    cases hF with
    | odd _ _ hx => exact hx
    | long _ _ hx => exact hx
    | bad h1 _ _ _ _ => rcases h with h | ⟨z, e, h⟩; exact absurd rfl (h _); cases e; omega
    | many h1 _ _ _ _ => rcases h with h | ⟨z, e, h⟩; exact absurd rfl (h _); cases e; omega
    | told h1 _ _ _ _ => rcases h with h | ⟨z, e, h⟩; exact absurd rfl (h _); cases e; omega
  -- if not isinstance(text, str) or len(text) > MOST_TEXT: raise
  refine hss_cons (hs_if ?_)
  refine ht_of_w (hw_or ?_)
  refine ht_not (ht_val ?_)
  refine he_callB call_isi (by rfl) mi boot_isi ?_ rfl rfl (by decide) (by decide)
  refine ha_cons ?_ ?hs_
  case hs_ => rfl
  refine he_name (i := 0) rfl (by first | exact .inl rfl | exact .inr (.inl rfl) | exact .inr (.inr rfl)) rfl ?_
  refine ha_cons ?_ ?hs_
  case hs_ => rfl
  refine he_bty (by rfl) ms boot_str ?_
  refine ha_nil ?_
  refine ⟨_, oa_isiX kit_str dat hn, _, rfl, fun h1 => hw_or1 ?_, fun h1 => ⟨fun _ => hss_one ?_, fun z => (nomatch z)⟩⟩
  rotate_left
  · refine hs_raise2 ok ⟨TE, mC, kC, msu⟩ hr ?_ (by rfl) rfl rfl
    refine ha_cons ?_ ?hs_
    case hs_ => rfl
    refine he_un un_neg ?_
    refine he_int ?_
    refine ⟨_, od1_neg, ?_⟩
    refine ha_cons ?_ ?hs_
    case hs_ => rfl
    refine he_int ?_
    refine ha_nil ?_
    refine ⟨_, _, rfl, raise0 (.inl fun z e => ?_)⟩
    subst e
    cases hn
    simp at h1
  have hz : ∃ z, d = .str z := by
    cases d <;> first | exact ⟨_, rfl⟩ | (cases hn; done) | (cases hn; simp at h1; done)
  obtain ⟨z, rfl⟩ := hz
  have hline : z.length ≤ sizeLine := by
    have h6 : 60000 ≤ sizeLine := by decide
    cases hF with
    | odd _ h _ => exact absurd rfl (h _)
    | long h _ _ => exact h
    | bad h1 _ _ _ _ => omega
    | many h1 _ _ _ _ => omega
    | told h1 _ _ _ _ => omega
  refine ht_cmp op_gt rfl ?_
  refine he_callB call_len (by rfl) ml PySem.boot_len ?_ rfl rfl (by decide) (by decide)
  refine ha_cons ?_ ?hs_
  case hs_ => rfl
  refine he_name (i := 0) rfl (by first | exact .inl rfl | exact .inr (.inl rfl) | exact .inr (.inr rfl)) rfl ?_
  refine ha_nil ?_
  refine ⟨_, oa_len (lenS hline), he_glob (by rfl) mT rT (fun _ => .int) ⟨_, od_i0 (fun _ => .bl), fun h2 => hss_one ?_, fun h2 => hss_nil ?_⟩⟩
  · have h2 : 60000 < z.length := by have := d_t h2; omega
    refine hs_raise2 ok ⟨TE, mC, kC, msu⟩ hr ?_ (by rfl) rfl rfl
    refine ha_cons ?_ ?hs_
    case hs_ => rfl
    refine he_un un_neg ?_
    refine he_int ?_
    refine ⟨_, od1_neg, ?_⟩
    refine ha_cons ?_ ?hs_
    case hs_ => rfl
    refine he_int ?_
    refine ha_nil ?_
    exact ⟨_, _, rfl, raise0 (.inr ⟨z, rfl, h2⟩)⟩
  have h2 : z.length ≤ 60000 := by have := d_f h2; omega
  -- for at, sign in enumerate(text)
  refine hss_cons (hs_for [1, 2] ok hp (hi_enumS (by rfl) me ?_ rfl) (fun _ => rfl))
  refine ha_cons ?_ ?hs_
  case hs_ => rfl
  refine he_name (i := 0) rfl (by first | exact .inl rfl | exact .inr (.inl rfl) | exact .inr (.inr rfl)) rfl ?_
  refine ha_nil ?_
  refine ⟨z, rfl, fun i Δ' r' => r' = r ∧ (∃ o1 o2, Δ' = [some (.val (.str z)), o1, o2, none, none]) ∧ ∀ j c, j < i → z.cps.toList[j]? = some c → isOk c = true, ⟨rfl, ⟨none, none, rfl⟩, fun j c h _ => absurd h (Nat.not_lt_zero j)⟩, fun i d Δ1 r1 hget hI => ?_, fun Δ1 r1 hI => ?_⟩
  · obtain ⟨rfl, ⟨o1, o2, rfl⟩, hall⟩ := hI
    have hd : ∃ c, z.cps.toList[i]? = some c ∧ d = .tup [.int (i : Nat), .str ⟨#[c]⟩] := by
      unfold enumS at hget
      rw [List.getElem?_mapIdx] at hget
      cases e : z.cps.toList[i]? with
      | none => rw [e] at hget; cases hget
      | some c => rw [e] at hget; cases hget; exact ⟨c, rfl, rfl⟩
    obtain ⟨c, hc, rfl⟩ := hd
    refine hg_tup ok (hgs_cons (hg_name (i := 1) ok rfl (.inl rfl) (by simp) (hgs_cons (hg_name (i := 2) ok rfl (.inl rfl) (by simp) (hgs_nil ?_) (.inr rfl)) rfl) (.inr rfl)) rfl) rfl rfl rfl
    have okN : isOk c = true → ∀ j c', j < i + 1 → z.cps.toList[j]? = some c' → isOk c' = true := fun h j c' hj hj2 => by
      by_cases e : j = i
      · subst e; rw [hc] at hj2; cases hj2; exact h
      · exact hall j c' (by omega) hj2
    refine hss_one (hs_if ?_)
    refine ht_of_w (hw_and ?_)
    refine ht_cmp op_notIn_sign rfl ?_
    refine he_name (i := 2) rfl (by first | exact .inl rfl | exact .inr (.inl rfl) | exact .inr (.inr rfl)) rfl ?_
    refine he_glob (by rfl) mL rL (fun _ => .str) ⟨_, od_notInSg, fun k1 => hw_and ?_, fun k1 => ⟨fun z => (nomatch z), fun _ => hss_nil ⟨rfl, ⟨_, _, rfl⟩, okN ?_⟩⟩⟩
    rotate_left
    · have k1 : c ∈ lets := nd_f k1
      unfold isOk; simp [k1]
    refine ht_cmp op_notIn_sign rfl ?_
    refine he_name (i := 2) rfl (by first | exact .inl rfl | exact .inr (.inl rfl) | exact .inr (.inr rfl)) rfl ?_
    refine he_glob (by rfl) mF rF (fun _ => .str) ⟨_, od_notInSg, fun k2 => hw_and ?_, fun k2 => ⟨fun z => (nomatch z), fun _ => hss_nil ⟨rfl, ⟨_, _, rfl⟩, okN ?_⟩⟩⟩
    rotate_left
    · have k2 : c ∈ figs := nd_f k2
      unfold isOk; simp [k2]
    refine ht_cmp op_notIn_sign rfl ?_
    refine he_name (i := 2) rfl (by first | exact .inl rfl | exact .inr (.inl rfl) | exact .inr (.inr rfl)) rfl ?_
    refine he_glob (by rfl) mS rS (fun _ => .str) ⟨_, od_notInSg, fun k3 => hw_and1 ?_, fun k3 => ⟨fun z => (nomatch z), fun _ => hss_nil ⟨rfl, ⟨_, _, rfl⟩, okN ?_⟩⟩⟩
    rotate_left
    · have k3 : c ∈ sigs := nd_f k3
      unfold isOk; simp [k3]
    refine ht_cmp op_notIn_sign rfl ?_
    refine he_name (i := 2) rfl (by first | exact .inl rfl | exact .inr (.inl rfl) | exact .inr (.inr rfl)) rfl ?_
    refine he_str ?_
    refine ⟨_, od_notInSg, fun k4 => hss_one ?_, fun k4 => hss_nil ⟨rfl, ⟨_, _, rfl⟩, okN ?_⟩⟩
    rotate_left
    · have k4 : c ∈ blas := nd_f k4
      unfold isOk; simp [k4]
    have bad : isOk c = false := by
      have k1 : c ∉ lets := nd_t k1
      have k2 : c ∉ figs := nd_t k2
      have k3 : c ∉ sigs := nd_t k3
      have k4 : c ∉ blas := nd_t k4
      unfold isOk; simp [k1, k2, k3, k4]
    refine hs_raise2 ok ⟨TE, mC, kC, msu⟩ hr ?_ (by rfl) rfl rfl
    refine ha_cons ?_ ?hs_
    case hs_ => rfl
    refine he_name (i := 1) rfl (by first | exact .inl rfl | exact .inr (.inl rfl) | exact .inr (.inr rfl)) rfl ?_
    refine ha_cons ?_ ?hs_
    case hs_ => rfl
    refine he_int ?_
    refine ha_nil ?_
    refine ⟨_, _, rfl, ?_⟩
    cases hF with
    | odd _ h _ => exact absurd rfl (h _)
    | long _ h _ => omega
    | many _ h _ _ _ => rw [h c (List.mem_of_getElem? hc)] at bad; cases bad
    | told _ h _ _ _ => rw [h c (List.mem_of_getElem? hc)] at bad; cases bad
    | @bad z' i' c' h1 h2 h3 h4 h5 =>
      have e : i' = i := by
        rcases Nat.lt_trichotomy i i' with l | l | l
        · rw [h4 i c l hc] at bad; cases bad
        · exact l.symm
        · rw [hall i' c' l h2] at h3; cases h3
      subst e
      exact h5
  · obtain ⟨rfl, ⟨o1, o2, rfl⟩, hall⟩ := hI
    have allOk : ∀ c ∈ z.cps.toList, isOk c = true := fun c hc => by
      obtain ⟨j, hj⟩ := List.getElem?_of_mem hc
      exact hall j c (by unfold enumS; rw [List.length_mapIdx]; exact (List.getElem?_eq_some_iff.mp hj).1) hj
    have hg : ∃ g, Cuts z.cps.toList g ∧ (4000 < g.length → xq (exT C (-1) 2) r1) ∧ (g.length ≤ 4000 → q (tupG g) r1) := by
      cases hF with
      | odd _ h _ => exact absurd rfl (h _)
      | long _ h _ => omega
      | bad h1 h2 h3 h4 h5 => rw [allOk _ (List.mem_of_getElem? h2)] at h3; cases h3
      | @many z' g h1 h2 h3 h4 h5 => exact ⟨g, h3, fun _ => h5, fun h => by omega⟩
      | @told z' g h1 h2 h3 h4 h5 => exact ⟨g, h3, fun h => by omega, fun _ => h5⟩
    obtain ⟨g, hcut, hmany, htold⟩ := hg
    clear hF raise0
    -- found, at = [], 0
    refine hss_cons (hs_parF (i := 3) (j := 1) ok rfl rfl (by decide) rfl rfl (hf_lst ?_) hp_int rfl rfl rfl rfl)
    refine ha_nil ?_
    refine ⟨Nat.zero_le _, ?_⟩
    -- while at < len(text)
    refine hss_cons (hs_while (fun m Δ' r' => r' = r1 ∧ ∃ (j : Nat) (pre rest : List (List Nat)) (o2 o4 : Option SV), Δ' = [some (.val (.str z)), some (.val (.int j)), o2, some (.own (strsD (pre.map FD.strOf))), o4] ∧ j ≤ z.length ∧ m = z.length - j ∧ Cuts (z.cps.toList.drop j) rest ∧ pre ++ rest = g) z.length hp ⟨rfl, 0, [], g, o2, none, rfl, Nat.zero_le _, rfl, hcut, rfl⟩ fun m Δ r hI => ?_)
    obtain ⟨rfl, j, pre, rest, o2, o4, rfl, hj, rfl, hc, rfl⟩ := hI
    refine ht_cmp op_lt rfl ?_
    refine he_name (i := 1) rfl (by first | exact .inl rfl | exact .inr (.inl rfl) | exact .inr (.inr rfl)) rfl ?_
    refine he_callB call_len (by rfl) ml PySem.boot_len ?_ rfl rfl (by decide) (by decide)
    refine ha_cons ?_ ?hs_
    case hs_ => rfl
    refine he_name (i := 0) rfl (by first | exact .inl rfl | exact .inr (.inl rfl) | exact .inr (.inr rfl)) rfl ?_
    refine ha_nil ?_
    refine ⟨_, oa_len (lenS hline), _, od_i0 (fun _ => .bl), fun h3 => ?_, fun h3 => ?_⟩
    · have h3 : j < z.length := by have := d_t h3; omega
      obtain ⟨c, hc1, hc2⟩ := atI_natS h3
      have hd : z.cps.toList.drop j = c :: z.cps.toList.drop (j + 1) := by
        obtain ⟨hl, e⟩ := List.getElem?_eq_some_iff.mp hc2
        rw [List.drop_eq_getElem_cons hl, e]
      rw [hd] at hc
      refine hss_cons ?_
      refine hs_set (i := 4) ok rfl (by first | exact .inl rfl | exact .inr rfl) ?_ rfl (by first | exact .inr rfl | exact .inl rfl)
      refine he_op op_add ?_
      refine he_name (i := 1) rfl (by first | exact .inl rfl | exact .inr (.inl rfl) | exact .inr (.inr rfl)) rfl ?_
      refine he_int ?_
      refine ⟨_, od_i0 (fun _ => .int), hss_cons (hs_if ?_)⟩
      refine ht_cmp op_notIn_sign rfl ?_
      refine he_ix ix_seq (fun _ _ => rfl) ?_
      refine he_name (i := 0) rfl (by first | exact .inl rfl | exact .inr (.inl rfl) | exact .inr (.inr rfl)) rfl ?_
      refine he_name (i := 1) rfl (by first | exact .inl rfl | exact .inr (.inl rfl) | exact .inr (.inr rfl)) rfl ?_
      refine ⟨_, od_ixS hline hc1, ?_⟩
      refine he_str ?_
      refine ⟨_, od_notInSg, fun k => ?_, fun k => hss_nil (hss_one ?_)⟩
      · have k : c ∉ blas := nd_t k
        refine hss_cons ?_
        refine hs_set (i := 4) ok rfl (by first | exact .inl rfl | exact .inr rfl) ?_ rfl (by first | exact .inr rfl | exact .inl rfl)
        refine he_call ok GG hr (by rfl) DG.m DG.fn.kp DG.b ?_ (by decide) rfl rfl
        refine ha_cons ?_ ?hs_
        case hs_ => rfl
        refine he_name (i := 0) rfl (by first | exact .inl rfl | exact .inr (.inl rfl) | exact .inr (.inr rfl)) rfl ?_
        refine ha_cons ?_ ?hs_
        case hs_ => rfl
        refine he_name (i := 1) rfl (by first | exact .inl rfl | exact .inr (.inl rfl) | exact .inr (.inr rfl)) rfl ?_
        refine ha_nil ?_
        refine ⟨rfl, z, j, rfl, h3, hline, ?_⟩
        rw [hd]
        have hgl : j + glen (c :: z.cps.toList.drop (j + 1)) ≤ z.length := by
          have h := glen_le (c := c) (r := z.cps.toList.drop (j + 1))
          rw [← hd, List.length_drop, ← size_str] at h
          rw [← hd]; omega
        have hgp := glen_pos (l := c :: z.cps.toList.drop (j + 1))
        have hpl : pre.length ≤ 60000 := by
          have h := hcut.len
          rw [List.length_append, ← size_str] at h
          omega
        refine hss_one (hs_append (i := 3) ok rfl (.inl rfl) rfl ?_ rfl rfl rfl rfl rfl rfl)
        refine he_slice sl_str ?_
        refine he_name (i := 0) rfl (by first | exact .inl rfl | exact .inr (.inl rfl) | exact .inr (.inr rfl)) rfl ?_
        refine ho_some ?_
        refine he_name (i := 1) rfl (by first | exact .inl rfl | exact .inr (.inl rfl) | exact .inr (.inr rfl)) rfl ?_
        refine ⟨_, rfl, ho_some ?_⟩
        refine he_name (i := 4) rfl (by first | exact .inl rfl | exact .inr (.inl rfl) | exact .inr (.inr rfl)) rfl ?_
        refine ⟨_, rfl, _, os_str hline, ?_, hss_one ?_⟩
        · rw [strs_len]
          exact Nat.lt_of_le_of_lt hpl (by decide)
        · refine hs_set (i := 1) ok rfl (by first | exact .inl rfl | exact .inr rfl) ?_ rfl (by first | exact .inr rfl | exact .inl rfl)
          refine he_name (i := 4) rfl (by first | exact .inl rfl | exact .inr (.inl rfl) | exact .inr (.inr rfl)) rfl ?_
          rw [cut_str hgl, hd]
          generalize hm : glen (c :: z.cps.toList.drop (j + 1)) = m at *
          cases hc with
          | bla hb _ => exact absurd hb k
          | @grp _ _ g' _ hc' =>
            rw [hm] at hc'
            refine ⟨z.length - (j + m), by omega, rfl, j + m, pre ++ [(c :: z.cps.toList.drop (j + 1)).take m], g', o2, some (.val (.int ((j + m : Nat) : Int))), ?_, hgl, rfl, ?_, ?_⟩
            · rw [List.map_append]; unfold strsD; rw [List.map_append]; rfl
            · rw [← List.drop_drop, hd]; exact hc'
            · rw [List.append_assoc, hm]; rfl
      · have k : c ∈ blas := nd_f k
        refine hs_set (i := 1) ok rfl (by first | exact .inl rfl | exact .inr rfl) ?_ rfl (by first | exact .inr rfl | exact .inl rfl)
        refine he_name (i := 4) rfl (by first | exact .inl rfl | exact .inr (.inl rfl) | exact .inr (.inr rfl)) rfl ?_
        cases hc with
        | grp hb _ => exact absurd k hb
        | bla _ hc' => exact ⟨z.length - (j + 1), by omega, rfl, j + 1, pre, rest, o2, _, rfl, by omega, rfl, hc', rfl⟩
    · have h3 : z.length ≤ j := by have := d_f h3; omega
      have e0 : rest = [] := by
        rw [List.drop_eq_nil_of_le (by rw [← size_str]; exact h3)] at hc
        cases hc; rfl
      subst e0
      rw [List.append_nil] at hmany htold
      refine hss_freeze 3 rfl (hss_cons (hs_if ?_))
      refine ht_cmp op_gt rfl ?_
      refine he_callB call_len (by rfl) ml PySem.boot_len ?_ rfl rfl (by decide) (by decide)
      refine ha_cons ?_ ?hs_
      case hs_ => rfl
      refine he_name (i := 3) rfl (by first | exact .inl rfl | exact .inr (.inl rfl) | exact .inr (.inr rfl)) rfl ?_
      refine ha_nil ?_
      refine ⟨_, oa_len rfl, he_glob (by rfl) mG rG (fun _ => .int) ⟨_, od_i0 (fun _ => .bl), fun h4 => hss_one ?_, fun h4 => hss_nil ?_⟩⟩
      · have h4 : 4000 < pre.length := by have := d_t h4; rw [strs_len] at this; omega
        refine hs_raise2 ok ⟨TE, mC, kC, msu⟩ hr ?_ (by rfl) rfl rfl
        refine ha_cons ?_ ?hs_
        case hs_ => rfl
        refine he_un un_neg ?_
        refine he_int ?_
        refine ⟨_, od1_neg, ?_⟩
        refine ha_cons ?_ ?hs_
        case hs_ => rfl
        refine he_int ?_
        refine ha_nil ?_
        exact ⟨_, _, rfl, hmany h4⟩
      · have h4 : pre.length ≤ 4000 := by have := d_f h4; rw [strs_len] at this; omega
        refine hss_one ?_
        refine hs_ret ?_
        refine he_callTy call_tuple_of (by rfl) mt boot_tuple ?_ rfl rfl (by decide) (by decide)
        refine ha_cons ?_ ?hs_
        case hs_ => rfl
        refine he_name (i := 3) rfl (by first | exact .inl rfl | exact .inr (.inl rfl) | exact .inr (.inr rfl)) rfl ?_
        refine ha_nil ?_
        exact ⟨_, oa_tupL, htold h4⟩
end
end K02
set_option Elab.async false
set_option linter.all false
set_option maxRecDepth 100000
set_option maxHeartbeats 4000000
namespace K02
open PySem PySem.Spec PyProof.Rows L2 FD
/-! ### the source of draws -/
abbrev sBox : Stmt := topS 14
abbrev sTake : Stmt := topS 15
abbrev sPick : Stmt := topS 16
theorem scBox : FnScope ["script", "rest", "state", "k", "cell", "size"] ["script"] (defScope sBox) := ⟨rfl, rfl, rfl, by decide +kernel, rfl, by decide +kernel, by decide +kernel⟩
theorem scTake : FnScope ["box", "many", "cell"] ["box", "many"] (defScope sTake) := ⟨rfl, rfl, rfl, by decide +kernel, rfl, by decide +kernel, by decide +kernel⟩
theorem scPick : FnScope ["box", "some"] ["box", "some"] (defScope sPick) := ⟨rfl, rfl, rfl, by decide +kernel, rfl, by decide +kernel, by decide +kernel⟩
/-- the box at p holds draws -/
def BxP (p : Addr) (r : Bx) : Prop := ∃ (rest : List Int) (st : Int), r = [(p, [.lst (rest.map D.int), .int st])] ∧ rest.length ≤ 64
def FBox : Spec Bx := fun ds r q _ => ∃ ns : List Int, ds = [.rol (ns.map D.int)] ∧ ns.length ≤ 63 ∧ r = [] ∧ ∀ p r', BxP p r' → q (.ref p) r'
def FTake : Spec Bx := fun ds r q _ => ∃ (p : Addr) (many : Int), ds = [.ref p, .int many] ∧ 0 < many ∧ many < 1073741824 ∧ BxP p r ∧ ∀ (v : Int) r', 0 ≤ v → v < many → BxP p r' → q (.int v) r'
def FPick : Spec Bx := fun ds r q _ => ∃ (p : Addr) (d : D), ds = [.ref p, d] ∧ BxP p r ∧
  ((∃ z : Str, d = .str z ∧ 0 < z.length ∧ z.length ≤ sizeLine ∧ ∀ c r', c ∈ z.cps.toList → BxP p r' → q (.str ⟨#[c]⟩) r') ∨ ∃ l : List D, d = .lst l ∧ 0 < l.length ∧ l.length ≤ sizeLine ∧ ∀ e r', e ∈ l → BxP p r' → q e r')
theorem cmulR {i j : Int} (h : -(2 ^ 64) < j ∧ j < 2 ^ 64) : CMul i j := .inr h
theorem cmulL {i j : Int} (h : -(2 ^ 64) < i ∧ i < 2 ^ 64) : CMul i j := .inl h
section
variable {P : Program} {w : World} {K : PySem.W.Frag} {mg : Str → Option Value} {base : Heap} {tabs : List (Addr × Str)} {f : Addr} {fd : FuncData} {k : Nat}
theorem ok_box (Fn : Fun K "_law_box" "_law_box" sBox f fd) (me : mg "enumerate" = none) (ma : mg "abs" = none) (mi : mg "int" = none) : FnOk P w K mg base (L2.CX P w) (k + 1) f fd ["script"] (spD K (ρT tabs) 1 FBox) := by
  refine fd_ok Fn scBox fun cdv A outer s H E B xq ok hr hp ds r q hl hF => ?_
  obtain ⟨ns, rfl, hns, rfl, hq⟩ := hF
  refine hss_cons (hs_parF (i := 1) (j := 2) ok rfl rfl (by decide) rfl rfl (hf_lst ?_) hp_int rfl rfl rfl rfl)
  refine ha_nil ?_
  refine ⟨Nat.zero_le _, hss_cons (hs_for [3, 4] ok hp (hi_enumL (by rfl) me ?_ rfl) (fun _ => rfl))⟩
  refine ha_cons ?_ ?hs_
  case hs_ => rfl
  refine he_slice sl_list ?_
  refine he_name (i := 0) rfl (by first | exact .inl rfl | exact .inr (.inl rfl) | exact .inr (.inr rfl)) rfl ?_
  refine ho_none (ho_some ?_)
  refine he_int ?_
  refine ⟨_, rfl, _, os_rol, ?_⟩
  refine ha_nil ?_
  have hcl : (FD.cutD (ns.map D.int) none (some 63)).length ≤ 63 := by
    unfold FD.cutD
    rw [List.length_take, List.length_drop, List.length_map]
    omega
  have hci : ∀ i d, (enumD (FD.cutD (ns.map D.int) none (some 63)))[i]? = some d → i < 63 ∧ ∃ n : Int, d = .tup [.int (i : Nat), .int n] := fun i d h => by
    unfold enumD at h
    rw [List.getElem?_mapIdx] at h
    cases e : (FD.cutD (ns.map D.int) none (some 63))[i]? with
    | none => rw [e] at h; cases h
    | some x =>
      rw [e] at h
      cases h
      have hm : x ∈ ns.map D.int := by
        have h1 := List.mem_of_getElem? e
        unfold FD.cutD at h1
        exact List.mem_of_mem_drop (List.mem_of_mem_take h1)
      obtain ⟨n, _, rfl⟩ := List.mem_map.mp hm
      exact ⟨Nat.lt_of_lt_of_le (List.getElem?_eq_some_iff.mp e).1 hcl, n, rfl⟩
  refine ⟨_, rfl, fun i Δ' r' => r' = [] ∧ ∃ (rest : List Int) (st : Int) (o3 o4 o5 : Option SV), Δ' = [some (.val (.rol (ns.map D.int))), some (.own (rest.map D.int)), some (.val (.int st)), o3, o4, o5] ∧ rest.length ≤ i, ⟨rfl, [], 60317, none, none, none, rfl, Nat.le_refl _⟩, fun i d Δ1 r1 hget hI => ?_, fun Δ1 r1 hI => ?_⟩
  · obtain ⟨rfl, rest, st, o3, o4, o5, rfl, hlen⟩ := hI
    obtain ⟨hi, n, rfl⟩ := hci i d hget
    refine hg_tup ok (hgs_cons (hg_name (i := 3) ok rfl (.inl rfl) (by simp) (hgs_cons (hg_name (i := 4) ok rfl (.inl rfl) (by simp) (hgs_nil ?_) (.inr rfl)) rfl) (.inr rfl)) rfl) rfl rfl rfl
    refine hss_cons ?_
    refine hs_set (i := 5) ok rfl (by first | exact .inl rfl | exact .inr rfl) ?_ rfl (by first | exact .inr rfl | exact .inl rfl)
    refine he_op op_add ?_
    refine he_op op_mul ?_
    refine he_callB call_abs (by rfl) ma boot_abs ?_ rfl rfl (by decide) (by decide)
    refine ha_cons ?_ ?hs_
    case hs_ => rfl
    refine he_name (i := 4) rfl (by first | exact .inl rfl | exact .inr (.inl rfl) | exact .inr (.inr rfl)) rfl ?_
    refine ha_nil ?_
    refine ⟨_, oa_abs, ?_⟩
    refine he_int ?_
    refine ⟨_, od_i (cmulR (by omega)) (fun _ => .int), ?_⟩
    refine he_callTy call_int1 (by rfl) mi boot_int ?_ rfl rfl (by decide) (by decide)
    refine ha_cons ?_ ?hs_
    case hs_ => rfl
    refine he_cmp op_lt rfl ?_
    refine he_name (i := 4) rfl (by first | exact .inl rfl | exact .inr (.inl rfl) | exact .inr (.inr rfl)) rfl ?_
    refine he_int ?_
    refine ⟨_, od_i0 (fun _ => .bl), ?_⟩
    refine ha_nil ?_
    refine ⟨_, oa_intB, _, od_i0 (fun _ => .int), hss_mid (fun Δ' r' => r' = [] ∧ ∃ rest' : List Int, rest'.length ≤ i + 1 ∧ Δ' = [some (.val (.rol (ns.map D.int))), some (.own (rest'.map D.int)), some (.val (.int st)), some (.val (.int (i : Nat))), some (.val (.int n)), some (.val (.int (n.natAbs * 2 + (if decide (n < 0) = true then 1 else 0))))]) (hs_if ?_) fun Δ' r' hM => ?_⟩
    · refine ht_cmp op_ge rfl ?_
      refine he_callB call_abs (by rfl) ma boot_abs ?_ rfl rfl (by decide) (by decide)
      refine ha_cons ?_ ?hs_
      case hs_ => rfl
      refine he_name (i := 4) rfl (by first | exact .inl rfl | exact .inr (.inl rfl) | exact .inr (.inr rfl)) rfl ?_
      refine ha_nil ?_
      refine ⟨_, oa_abs, ?_⟩
      refine he_op op_pow ?_
      refine he_int ?_
      refine he_int ?_
      refine ⟨_, od_i (by unfold CPow; decide) (fun _ => .int), _, od_i0 (fun _ => .bl), fun _ => hss_one ?_, fun _ => hss_nil ⟨rfl, rest, by omega, rfl⟩⟩
      refine hs_append (i := 1) ok rfl (.inl rfl) rfl ?_ rfl rfl rfl rfl rfl rfl
      refine he_callB call_abs (by rfl) ma boot_abs ?_ rfl rfl (by decide) (by decide)
      refine ha_cons ?_ ?hs_
      case hs_ => rfl
      refine he_name (i := 4) rfl (by first | exact .inl rfl | exact .inr (.inl rfl) | exact .inr (.inr rfl)) rfl ?_
      refine ha_nil ?_
      refine ⟨_, oa_abs, ?_, rfl, rest ++ [(n.natAbs : Int)], by rw [List.length_append]; simpa using hlen, ?_⟩
      · rw [List.length_map]
        exact Nat.lt_of_le_of_lt (show rest.length ≤ 63 by omega) (by decide)
      · rw [List.map_append]
        rfl
    · obtain ⟨rfl, rest', hl', rfl⟩ := hM
      refine hss_one ?_
      refine hs_set (i := 2) ok rfl (by first | exact .inl rfl | exact .inr rfl) ?_ rfl (by first | exact .inr rfl | exact .inl rfl)
      refine he_op op_add ?_
      refine he_op op_mod ?_
      refine he_callTy call_int1 (by rfl) mi boot_int ?_ rfl rfl (by decide) (by decide)
      refine ha_cons ?_ ?hs_
      case hs_ => rfl
      refine he_op op_add ?_
      refine he_op op_add ?_
      refine he_op op_mul ?_
      refine he_name (i := 2) rfl (by first | exact .inl rfl | exact .inr (.inl rfl) | exact .inr (.inr rfl)) rfl ?_
      refine he_int ?_
      refine ⟨_, od_i (cmulR (by omega)) (fun _ => .int), ?_⟩
      refine he_op op_mul ?_
      refine he_op op_mod ?_
      refine he_callTy call_int1 (by rfl) mi boot_int ?_ rfl rfl (by decide) (by decide)
      refine ha_cons ?_ ?hs_
      case hs_ => rfl
      refine he_name (i := 5) rfl (by first | exact .inl rfl | exact .inr (.inl rfl) | exact .inr (.inr rfl)) rfl ?_
      refine ha_nil ?_
      refine ⟨_, oa_intI, ?_⟩
      refine he_int ?_
      refine ⟨_, od_i (by omega) (fun _ => .int), ?_⟩
      refine he_op op_add ?_
      refine he_op op_mul ?_
      refine he_int ?_
      refine he_name (i := 3) rfl (by first | exact .inl rfl | exact .inr (.inl rfl) | exact .inr (.inr rfl)) rfl ?_
      refine ⟨_, od_i (cmulL (by omega)) (fun _ => .int), ?_⟩
      refine he_int ?_
      refine ⟨_, od_i0 (fun _ => .int), _, od_i (cmulL ?_) (fun _ => .int), _, od_i0 (fun _ => .int), ?_⟩
      · have h1 := Int.emod_nonneg (n.natAbs * 2 + (if decide (n < 0) = true then 1 else 0)) (show (2147483629 : Int) ≠ 0 by decide)
        have h2 := Int.emod_lt_of_pos (n.natAbs * 2 + (if decide (n < 0) = true then 1 else 0)) (show (0 : Int) < 2147483629 by decide)
        omega
      refine he_int ?_
      refine ⟨_, od_i0 (fun _ => .int), ?_⟩
      refine ha_nil ?_
      refine ⟨_, oa_intI, ?_⟩
      refine he_int ?_
      refine ⟨_, od_i (by omega) (fun _ => .int), ?_⟩
      refine he_int ?_
      exact ⟨_, od_i0 (fun _ => .int), rfl, rest', _, _, _, _, rfl, hl'⟩
  · obtain ⟨rfl, rest, st, o3, o4, o5, rfl, hlen⟩ := hI
    refine hss_freeze 1 rfl (hss_one (hs_retBox (hf_lst ?_)))
    refine ha_cons ?_ ?hs_
    case hs_ => rfl
    refine he_name (i := 1) rfl (by first | exact .inl rfl | exact .inr (.inl rfl) | exact .inr (.inr rfl)) rfl ?_
    refine ha_cons ?_ ?hs_
    case hs_ => rfl
    refine he_name (i := 2) rfl (by first | exact .inl rfl | exact .inr (.inl rfl) | exact .inr (.inr rfl)) rfl ?_
    refine ha_nil ?_
    refine ⟨by show 2 ≤ sizeLine; decide, fun p _ => hq p _ ⟨rest, st, rfl, ?_⟩⟩
    have e : (enumD (FD.cutD (ns.map D.int) none (some 63))).length ≤ 63 := by unfold enumD; rw [List.length_mapIdx]; exact hcl
    omega
/-! ### _law_take -/
theorem dat_ints : ∀ l : List Int, areDat (l.map D.int) = true
  | [] => rfl
  | i :: l => by rw [List.map_cons]; simp only [areDat, isDat, dat_ints l, Bool.and_self]
theorem lay_ints : ∀ l : List Int, PyData.canLayAll0 (toPs (l.map D.int)) = true
  | [] => rfl
  | i :: l => by rw [List.map_cons]; simp only [toPs, toP, PyData.canLayAll0, PyData.canLay0, lay_ints l, Bool.and_self]
theorem dep_ints : ∀ l : List Int, PyData.depthAll (toPs (l.map D.int)) = 0
  | [] => rfl
  | i :: l => by rw [List.map_cons]; simp only [toPs, toP, PyData.depthAll, PyData.depth, dep_ints l, Nat.max_self]
theorem datB_ints (l : List Int) : datB (.lst (l.map D.int)) = true := by
  unfold datB SeqAt.shaped
  simp only [isDat, toP, PyData.canLay0, PyData.depth, dat_ints, lay_ints, dep_ints]
  decide
theorem eqD_nil {l : List Int} : eqD (.lst (l.map D.int)) (.lst []) = l.isEmpty := by
  cases l with
  | nil => rfl
  | cons i l => rfl
theorem map_drop1 (l : List Int) : FD.cutD (l.map D.int) (some 1) none = (l.drop 1).map D.int := by
  unfold FD.cutD
  rw [HT.sIx_none]
  have e : HT.sIx (l.map D.int).length 0 (some 1) = min 1 (l.map D.int).length := HT.sIx_nat _ 0 1
  rw [e, List.length_map]
  cases l with
  | nil => rfl
  | cons i l =>
    rw [List.length_cons, show min 1 (l.length + 1) = 1 by omega, ← List.map_drop]
    simp only [List.drop_one, List.tail_cons, Nat.add_sub_cancel]
    exact List.take_of_length_le (by rw [List.length_map]; exact Nat.le_refl _)
theorem ok_take (Fn : Fun K "_law_take" "_law_take" sTake f fd) (mi : mg "int" = none) : FnOk P w K mg base (L2.CX P w) (k + 1) f fd ["box", "many"] (spD K (ρT tabs) 2 FTake) := by
  refine fd_ok Fn scTake fun cdv A outer s H E B xq ok hr hp ds r q hl hF => ?_
  obtain ⟨p, many, rfl, h0, h30, ⟨rest, st, rfl, hlen⟩, hq⟩ := hF
  have mem0 : ∀ (l : List D), (p, l) ∈ [(p, l)] := fun l => List.mem_singleton_self _
  refine hss_cons (hs_if ?_)
  refine ht_cmp (op_neD hr.units) rfl ?_
  refine he_box (fun _ _ => rfl) ?_
  refine he_name (i := 0) rfl (by first | exact .inl rfl | exact .inr (.inl rfl) | exact .inr (.inr rfl)) rfl ?_
  refine he_int ?_
  refine ⟨p, _, 0, _, rfl, rfl, mem0 _, rfl, he_hf (hf_lst ?_)⟩
  refine ha_nil ?_
  refine ⟨Nat.zero_le _, _, od_ne (datB_ints rest) rfl, fun hne => ?_, fun he => hss_nil ?_⟩
  · rw [eqD_nil] at hne
    cases rest with
    | nil => cases hne
    | cons c rest =>
      refine hss_cons ?_
      refine hs_set (i := 2) ok rfl (by first | exact .inl rfl | exact .inr rfl) ?_ rfl (by first | exact .inr rfl | exact .inl rfl)
      refine he_ix ix_seq (fun _ _ => rfl) ?_
      refine he_box (fun _ _ => rfl) ?_
      refine he_name (i := 0) rfl (by first | exact .inl rfl | exact .inr (.inl rfl) | exact .inr (.inr rfl)) rfl ?_
      refine he_int ?_
      refine ⟨p, _, 0, _, rfl, rfl, mem0 _, rfl, ?_⟩
      refine he_int ?_
      refine ⟨_, od_ixL (d := .int c) (atI_nat (j := 0) rfl), hss_cons (hs_box ?_ (fun ho hi hs => pg_sub ho hi hs) rfl rfl)⟩
      refine he_op op_cat ?_
      refine he_imp (q := fun d r' => r' = [(p, [.lst ((c :: rest).map D.int), .int st])] ∧ ∃ l : List Int, d = .lst (l.map D.int) ∧ l.length ≤ 1) (he_hf (hf_if ?_)) fun d r' hd => ?_
      · refine ht_cmp op_ge rfl ?_
        refine he_name (i := 2) rfl (by first | exact .inl rfl | exact .inr (.inl rfl) | exact .inr (.inr rfl)) rfl ?_
        refine he_name (i := 1) rfl (by first | exact .inl rfl | exact .inr (.inl rfl) | exact .inr (.inr rfl)) rfl ?_
        refine ⟨_, od_i0 (fun _ => .bl), fun _ => hf_lst ?_, fun _ => hf_lst ?_⟩
        · refine ha_cons ?_ ?hs_
          case hs_ => rfl
          refine he_op op_fdiv ?_
          refine he_name (i := 2) rfl (by first | exact .inl rfl | exact .inr (.inl rfl) | exact .inr (.inr rfl)) rfl ?_
          refine he_name (i := 1) rfl (by first | exact .inl rfl | exact .inr (.inl rfl) | exact .inr (.inr rfl)) rfl ?_
          refine ⟨_, od_i ⟨h0, h30⟩ (fun _ => .int), ?_⟩
          refine ha_nil ?_
          exact ⟨by show 1 ≤ sizeLine; decide, rfl, [c / many], rfl, Nat.le_refl _⟩
        · refine ha_nil ?_
          exact ⟨Nat.zero_le _, rfl, [], rfl, Nat.zero_le _⟩
      · obtain ⟨rfl, l, rfl, hl1⟩ := hd
        refine he_slice sl_list ?_
        refine he_box (fun _ _ => rfl) ?_
        refine he_name (i := 0) rfl (by first | exact .inl rfl | exact .inr (.inl rfl) | exact .inr (.inr rfl)) rfl ?_
        refine he_int ?_
        refine ⟨p, _, 0, _, rfl, rfl, mem0 _, rfl, ho_some ?_⟩
        refine he_int ?_
        refine ⟨_, rfl, ho_none ⟨_, os_lst, ?_⟩⟩
        rw [map_drop1]
        rw [List.length_cons] at hlen
        refine ⟨_, od_catL ?_, ?_⟩
        · rw [List.length_map, List.length_map, List.drop_one, List.tail_cons]
          exact Nat.le_trans (show l.length + rest.length ≤ 65 by omega) (by decide)
        refine he_name (i := 0) rfl (by first | exact .inl rfl | exact .inr (.inl rfl) | exact .inr (.inr rfl)) rfl ?_
        refine he_int ?_
        refine ⟨p, _, 0, 0, rfl, rfl, mem0 _, rfl, hss_one ?_⟩
        refine hs_ret ?_
        refine he_op op_mod ?_
        refine he_callTy call_int1 (by rfl) mi boot_int ?_ rfl rfl (by decide) (by decide)
        refine ha_cons ?_ ?hs_
        case hs_ => rfl
        refine he_name (i := 2) rfl (by first | exact .inl rfl | exact .inr (.inl rfl) | exact .inr (.inr rfl)) rfl ?_
        refine ha_nil ?_
        refine ⟨_, oa_intI, ?_⟩
        refine he_name (i := 1) rfl (by first | exact .inl rfl | exact .inr (.inl rfl) | exact .inr (.inr rfl)) rfl ?_
        refine ⟨_, od_i h0 (fun _ => .int), hq _ _ (Int.emod_nonneg _ (by omega)) (Int.emod_lt_of_pos _ h0) ⟨l ++ rest, st, ?_, ?_⟩⟩
        · unfold setBox
          rw [List.map_cons, if_pos rfl, List.map_nil, List.map_append, List.drop_one, List.tail_cons]
          rfl
        · rw [List.length_append]; omega
  · rw [eqD_nil] at he
    refine hss_cons (hs_box ?_ (fun ho hi hs => pg_sub ho hi hs) rfl rfl)
    refine he_op op_mod ?_
    refine he_callTy call_int1 (by rfl) mi boot_int ?_ rfl rfl (by decide) (by decide)
    refine ha_cons ?_ ?hs_
    case hs_ => rfl
    refine he_op op_mul ?_
    refine he_box (fun _ _ => rfl) ?_
    refine he_name (i := 0) rfl (by first | exact .inl rfl | exact .inr (.inl rfl) | exact .inr (.inr rfl)) rfl ?_
    refine he_int ?_
    refine ⟨p, _, 1, _, rfl, rfl, mem0 _, rfl, ?_⟩
    refine he_int ?_
    refine ⟨_, od_i (cmulR (by omega)) (fun _ => .int), ?_⟩
    refine ha_nil ?_
    refine ⟨_, oa_intI, ?_⟩
    refine he_int ?_
    refine ⟨_, od_i (by omega) (fun _ => .int), ?_⟩
    refine he_name (i := 0) rfl (by first | exact .inl rfl | exact .inr (.inl rfl) | exact .inr (.inr rfl)) rfl ?_
    refine he_int ?_
    refine ⟨p, _, 1, 1, rfl, rfl, mem0 _, rfl, ?_⟩
    have e : setBox [(p, [.lst (rest.map D.int), .int st])] p (([.lst (rest.map D.int), .int st] : List D).set 1 (.int (st * 48271 % 2147483647))) = [(p, [.lst (rest.map D.int), .int (st * 48271 % 2147483647)])] := by
      unfold setBox
      rw [List.map_cons, if_pos rfl, List.map_nil]
      rfl
    rw [e]
    refine hss_one ?_
    refine hs_ret ?_
    refine he_op op_mod ?_
    refine he_callTy call_int1 (by rfl) mi boot_int ?_ rfl rfl (by decide) (by decide)
    refine ha_cons ?_ ?hs_
    case hs_ => rfl
    refine he_op op_fdiv ?_
    refine he_op op_add ?_
    refine he_op op_mul ?_
    refine he_box (fun _ _ => rfl) ?_
    refine he_name (i := 0) rfl (by first | exact .inl rfl | exact .inr (.inl rfl) | exact .inr (.inr rfl)) rfl ?_
    refine he_int ?_
    refine ⟨p, _, 1, _, rfl, rfl, mem0 _, rfl, ?_⟩
    refine he_int ?_
    refine ⟨_, od_i (cmulR (by omega)) (fun _ => .int), ?_⟩
    refine he_int ?_
    refine ⟨_, od_i0 (fun _ => .int), ?_⟩
    refine he_int ?_
    refine ⟨_, od_i (by unfold CDiv; omega) (fun _ => .int), ?_⟩
    refine ha_nil ?_
    refine ⟨_, oa_intI, ?_⟩
    refine he_name (i := 1) rfl (by first | exact .inl rfl | exact .inr (.inl rfl) | exact .inr (.inr rfl)) rfl ?_
    exact ⟨_, od_i h0 (fun _ => .int), hq _ _ (Int.emod_nonneg _ (by omega)) (Int.emod_lt_of_pos _ h0) ⟨rest, _, rfl, hlen⟩⟩
/-! ### _law_pick -/
theorem line30 : sizeLine < 1073741824 := by decide
theorem ok_pick {fT : Addr} {fdT : FuncData} (Fn : Fun K "_law_pick" "_law_pick" sPick f fd) (DT : DefAt K mg "_law_take" sTake fT fdT ["box", "many"]) (mi : mg "int" = none) (ml : mg "len" = none) : FnOk P w K mg base (L2.CX P w) (k + 2) f fd ["box", "some"] (spD K (ρT tabs) 2 FPick) := by
  have GT : FnOk P w K mg base (L2.CX P w) (k + 1) fT fdT ["box", "many"] (spD K (ρT tabs) 2 FTake) := ok_take DT.fn mi
  have hL := line30
  refine fd_ok Fn scPick fun cdv A outer s H E B xq ok hr hp ds r q hl hF => ?_
  obtain ⟨p, d, rfl, hB, hd⟩ := hF
  refine hss_one ?_
  refine hs_ret ?_
  refine he_ix ix_seq (fun _ _ => rfl) ?_
  refine he_name (i := 1) rfl (by first | exact .inl rfl | exact .inr (.inl rfl) | exact .inr (.inr rfl)) rfl ?_
  refine he_call ok GT hr (by rfl) DT.m DT.fn.kp DT.b ?_ (by decide) rfl rfl
  refine ha_cons ?_ ?hs_
  case hs_ => rfl
  refine he_name (i := 0) rfl (by first | exact .inl rfl | exact .inr (.inl rfl) | exact .inr (.inr rfl)) rfl ?_
  refine ha_cons ?_ ?hs_
  case hs_ => rfl
  refine he_callB call_len (by rfl) ml PySem.boot_len ?_ rfl rfl (by decide) (by decide)
  refine ha_cons ?_ ?hs_
  case hs_ => rfl
  refine he_name (i := 1) rfl (by first | exact .inl rfl | exact .inr (.inl rfl) | exact .inr (.inr rfl)) rfl ?_
  refine ha_nil ?_
  rcases hd with ⟨z, rfl, hz0, hz1, hq⟩ | ⟨l, rfl, hz0, hz1, hq⟩
  · refine ⟨_, oa_len (lenS hz1), ?_⟩
    refine ha_nil ?_
    refine ⟨rfl, p, z.length, rfl, by omega, by omega, hB, fun v r' hv0 hv1 hB' => ?_⟩
    obtain ⟨n, rfl⟩ := Int.eq_ofNat_of_zero_le hv0
    obtain ⟨c, h1, h2⟩ := atI_natS (z := z) (i := n) (by omega)
    exact ⟨_, od_ixS hz1 h1, hq c r' (List.mem_of_getElem? h2) hB'⟩
  · refine ⟨_, oa_len rfl, ?_⟩
    refine ha_nil ?_
    refine ⟨rfl, p, l.length, rfl, by omega, by omega, hB, fun v r' hv0 hv1 hB' => ?_⟩
    obtain ⟨n, rfl⟩ := Int.eq_ofNat_of_zero_le hv0
    have hn : n < l.length := by omega
    exact ⟨_, od_ixL (atI_nat (j := n) (List.getElem?_eq_getElem hn)), hq _ r' (List.getElem_mem hn) hB'⟩
end
end K02
set_option Elab.async false
set_option linter.all false
set_option maxRecDepth 100000
set_option maxHeartbeats 4000000
namespace K02
open PySem PySem.Spec PyProof.Rows L2 FD
/-! ### _law_is of what is the same -/
abbrev sIs : Stmt := topS 17
theorem scIs : FnScope ["told", "due", "one", "other"] ["told", "due"] (defScope sIs) := ⟨rfl, rfl, rfl, by decide +kernel, rfl, by decide +kernel, by decide +kernel⟩
mutual
def dpt : D → Nat
  | .tup l => dpts l + 1
  | .non => 0 | .bl _ => 0 | .int _ => 0 | .str _ => 0 | .ty _ => 0 | .ref _ => 0 | .lst _ => 0 | .rol _ => 0
def dpts : List D → Nat
  | [] => 0
  | d :: l => max (dpt d) (dpts l)
end
mutual
def gd : D → Bool
  | .tup l => gds l
  | .non => true | .bl _ => true | .int _ => true | .str _ => true | .ty _ => false | .ref _ => false | .lst _ => false | .rol _ => false
def gds : List D → Bool
  | [] => true
  | d :: l => gd d && gds l
end
theorem gds_mem : ∀ {l : List D} {d : D}, gds l = true → d ∈ l → gd d = true ∧ dpt d ≤ dpts l
  | e :: l, d, h, hm => by
    simp only [gds, Bool.and_eq_true] at h
    rcases List.mem_cons.mp hm with rfl | hm
    · exact ⟨h.1, by simp only [dpts]; exact Nat.le_max_left _ _⟩
    · obtain ⟨a, b⟩ := gds_mem h.2 hm
      exact ⟨a, by simp only [dpts]; exact Nat.le_trans b (Nat.le_max_right _ _)⟩
mutual
theorem gd_dat : ∀ {d : D}, gd d = true → isDat d = true
  | .tup l, h => by simp only [gd] at h; simp only [isDat]; exact gds_dat h
  | .non, _ => rfl
  | .bl _, _ => rfl
  | .int _, _ => rfl
  | .str _, _ => rfl
theorem gds_dat : ∀ {l : List D}, gds l = true → areDat l = true
  | [], _ => rfl
  | d :: l, h => by
    simp only [gds, Bool.and_eq_true] at h
    simp only [areDat, Bool.and_eq_true]
    exact ⟨gd_dat h.1, gds_dat h.2⟩
end
def FIs (n : Nat) : Spec Bx := fun ds r q _ => ∃ d, ds = [d, d] ∧ gd d = true ∧ dpt d ≤ n ∧ q (.bl true) r
section
variable {P : Program} {w : World} {K : PySem.W.Frag} {mg : Str → Option Value} {base : Heap} {tabs : List (Addr × Str)} {f : Addr} {fd : FuncData} {k : Nat}
theorem step_is {n : Nat} (DI : DefAt K mg "_law_is" sIs f fd ["told", "due"]) (mi : mg "isinstance" = none) (ml : mg "len" = none) (mt : mg "tuple" = none) (mint : mg "int" = none) (mb : mg "bool" = none) (ms : mg "str" = none) (mz : mg "zip" = none)
    (G : ∀ l : List D, dpts l + 1 ≤ n → FnOk P w K mg base (L2.CX P w) k f fd ["told", "due"] (spD K (ρT tabs) 2 (FIs (n - 1)))) : FnOk P w K mg base (L2.CX P w) (k + 1) f fd ["told", "due"] (spD K (ρT tabs) 2 (FIs n)) := by
  refine fd_ok DI.fn scIs fun cdv A outer s H E B xq ok hr hp ds r q hl hF => ?_
  obtain ⟨d, rfl, hg, hd, hq⟩ := hF
  have dat := gd_dat hg
  obtain ⟨n', hn, _⟩ := ty_dat dat
  refine hss_cons (hs_if (ht_val ?_))
  refine he_callB call_isi (by rfl) mi boot_isi ?_ rfl rfl (by decide) (by decide)
  refine ha_cons ?_ ?hs_
  case hs_ => rfl
  refine he_name (i := 1) rfl (by first | exact .inl rfl | exact .inr (.inl rfl) | exact .inr (.inr rfl)) rfl ?_
  refine ha_cons ?_ ?hs_
  case hs_ => rfl
  refine he_bty (by rfl) mt PyProof.Rows.boot_tuple ?_
  refine ha_nil ?_
  refine ⟨_, oa_isiX kit_tuple dat hn, _, rfl, fun ht => ?_, fun ht => hss_nil ?_⟩
  · have ht : n' = "tuple" := d_t ht
    obtain ⟨l, rfl⟩ : ∃ l, d = .tup l := by
      cases d <;> first | exact ⟨_, rfl⟩ | (cases hn; done) | (cases hn; simp at ht; done)
    simp only [gd] at hg
    simp only [dpt] at hd
    have GI := G l hd
    refine hss_cons (hs_if ?_)
    refine ht_of_w (hw_or ?_)
    refine ht_not (ht_val ?_)
    refine he_callB call_isi (by rfl) mi boot_isi ?_ rfl rfl (by decide) (by decide)
    refine ha_cons ?_ ?hs_
    case hs_ => rfl
    refine he_name (i := 0) rfl (by first | exact .inl rfl | exact .inr (.inl rfl) | exact .inr (.inr rfl)) rfl ?_
    refine ha_cons ?_ ?hs_
    case hs_ => rfl
    refine he_bty (by rfl) mt PyProof.Rows.boot_tuple ?_
    refine ha_nil ?_
    refine ⟨_, oa_isiX kit_tuple dat hn, _, rfl, fun _ => hw_or1 ?_, fun h1 => absurd ht (nd_t h1)⟩
    refine ht_cmp op_ne rfl ?_
    refine he_callB call_len (by rfl) ml PySem.boot_len ?_ rfl rfl (by decide) (by decide)
    refine ha_cons ?_ ?hs_
    case hs_ => rfl
    refine he_name (i := 0) rfl (by first | exact .inl rfl | exact .inr (.inl rfl) | exact .inr (.inr rfl)) rfl ?_
    refine ha_nil ?_
    refine ⟨_, oa_len rfl, ?_⟩
    refine he_callB call_len (by rfl) ml PySem.boot_len ?_ rfl rfl (by decide) (by decide)
    refine ha_cons ?_ ?hs_
    case hs_ => rfl
    refine he_name (i := 1) rfl (by first | exact .inl rfl | exact .inr (.inl rfl) | exact .inr (.inr rfl)) rfl ?_
    refine ha_nil ?_
    refine ⟨_, oa_len rfl, _, od_neS rfl, fun h1 => ?_, fun _ => hss_nil (hss_one ?_)⟩
    · simp [sameD] at h1
    refine hs_ret ?_
    refine he_cmp (op_eqD hr.units) rfl ?_
    refine he_hf (hf_lc (own := [("one", 2), ("other", 3)]) ok (blkOk_by (N := ["told", "due", "one", "other"]) (sc := defScope sIs) (by decide +kernel)) (hvs_by rfl) (hi_zipT (by rfl) mz ?_ rfl rfl) (fun _ => rfl))
    refine ha_cons ?_ ?hs_
    case hs_ => rfl
    refine he_name (i := 0) rfl (by first | exact .inl rfl | exact .inr (.inl rfl) | exact .inr (.inr rfl)) rfl ?_
    refine ha_cons ?_ ?hs_
    case hs_ => rfl
    refine he_name (i := 1) rfl (by first | exact .inl rfl | exact .inr (.inl rfl) | exact .inr (.inr rfl)) rfl ?_
    refine ha_nil ?_
    refine ⟨l, l, rfl, fun i acc r' => acc = [] ∧ r' = r, ⟨rfl, rfl⟩, fun i x acc r1 hget hI => ?_, fun acc r1 hI => ?_⟩
    · obtain ⟨rfl, rfl⟩ := hI
      have hx : ∃ y, y ∈ l ∧ x = .tup [y, y] := by
        rw [List.getElem?_map] at hget
        cases e : (l.zip l)[i]? with
        | none => rw [e] at hget; cases hget
        | some z =>
          rw [e] at hget
          cases hget
          have h1 := List.getElem?_zip_eq_some.mp e
          have h2 : z.1 = z.2 := Option.some.inj (h1.1.symm.trans h1.2)
          exact ⟨z.1, List.mem_of_getElem? h1.1, by show D.tup [z.1, z.2] = _; rw [← h2]⟩
      obtain ⟨y, hy, rfl⟩ := hx
      obtain ⟨g1, g2⟩ := gds_mem hg hy
      intro B' s1 H1 C1 cl1 fp1
      refine hg_tup ok.blk (hgs_cons (hg_name (i := 2) ok.blk rfl (.inl rfl) (by simp) (hgs_cons (hg_name (i := 3) ok.blk rfl (.inl rfl) (by simp) (hgs_nil ?_) (.inr rfl)) rfl) (.inr rfl)) rfl) rfl rfl rfl
      refine ⟨rfl, fun s1 H1 C1 cl1 fp1 => hts_one (ht_not (ht_val ?_))⟩
      refine he_call ok.blk GI hr (by rfl) DI.m DI.fn.kp DI.b ?_ (by decide) rfl rfl
      refine ha_cons ?_ ?hs_
      case hs_ => rfl
      refine he_name (i := 2) rfl (by first | exact .inl rfl | exact .inr (.inl rfl) | exact .inr (.inr rfl)) rfl ?_
      refine ha_cons ?_ ?hs_
      case hs_ => rfl
      refine he_name (i := 3) rfl (by first | exact .inl rfl | exact .inr (.inl rfl) | exact .inr (.inr rfl)) rfl ?_
      refine ha_nil ?_
      exact ⟨rfl, y, rfl, g1, by omega, true, rfl, fun z => (nomatch z), fun _ => ⟨rfl, rfl⟩⟩
    · obtain ⟨rfl, rfl⟩ := hI
      refine he_hf (hf_lst ?_)
      refine ha_nil ?_
      exact ⟨Nat.zero_le _, _, od_eq rfl rfl, hq⟩
  · have ht : n' ≠ "tuple" := d_f ht
    refine hss_cons (hs_if ?_)
    refine ht_of_w (hw_or ?_)
    refine ht_cmp op_isN rfl ?_
    refine he_name (i := 1) rfl (by first | exact .inl rfl | exact .inr (.inl rfl) | exact .inr (.inr rfl)) rfl ?_
    refine he_non ?_
    refine ⟨_, od_isN, fun h1 => hw_or ?_, fun h1 => ⟨fun _ => hss_one ?_, fun z => (nomatch z)⟩⟩
    rotate_left
    · cases d <;> first | (simp [isNonD] at h1; done) | skip
      refine hs_ret ?_
      refine he_if ?_
      refine ht_cmp op_isN rfl ?_
      refine he_name (i := 1) rfl (by first | exact .inl rfl | exact .inr (.inl rfl) | exact .inr (.inr rfl)) rfl ?_
      refine he_non ?_
      refine ⟨_, od_isN, fun _ => ?_, fun z => (nomatch z)⟩
      refine he_cmp op_isN rfl ?_
      refine he_name (i := 0) rfl (by first | exact .inl rfl | exact .inr (.inl rfl) | exact .inr (.inr rfl)) rfl ?_
      refine he_non ?_
      exact ⟨_, od_isN, hq⟩
    refine ht_cmp op_isBA rfl ?_
    refine he_name (i := 1) rfl (by first | exact .inl rfl | exact .inr (.inl rfl) | exact .inr (.inr rfl)) rfl ?_
    refine he_bl ?_
    refine ⟨_, od_isB, fun h2 => hw_or1 ?_, fun h2 => ⟨fun _ => hss_one ?_, fun z => (nomatch z)⟩⟩
    rotate_left
    · have e : d = .bl true := by
        cases d <;> first | (simp [isBlD] at h2; done) | skip
        simp [isBlD] at h2; rw [h2]
      subst e
      refine hs_ret ?_
      refine he_if ?_
      refine ht_cmp op_isN rfl ?_
      refine he_name (i := 1) rfl (by first | exact .inl rfl | exact .inr (.inl rfl) | exact .inr (.inr rfl)) rfl ?_
      refine he_non ?_
      refine ⟨_, od_isN, fun z => (nomatch z), fun _ => ?_⟩
      refine he_if ?_
      refine ht_cmp op_isBA rfl ?_
      refine he_name (i := 1) rfl (by first | exact .inl rfl | exact .inr (.inl rfl) | exact .inr (.inr rfl)) rfl ?_
      refine he_bl ?_
      refine ⟨_, od_isB, fun _ => ?_, fun z => (nomatch z)⟩
      refine he_cmp op_isBA rfl ?_
      refine he_name (i := 0) rfl (by first | exact .inl rfl | exact .inr (.inl rfl) | exact .inr (.inr rfl)) rfl ?_
      refine he_bl ?_
      exact ⟨_, od_isB, hq⟩
    refine ht_cmp op_isBA rfl ?_
    refine he_name (i := 1) rfl (by first | exact .inl rfl | exact .inr (.inl rfl) | exact .inr (.inr rfl)) rfl ?_
    refine he_bl ?_
    refine ⟨_, od_isB, fun h3 => hss_one ?_, fun h3 => hss_nil ?_⟩
    · have e : d = .bl false := by
        cases d <;> first | (simp [isBlD] at h3; done) | skip
        simp [isBlD] at h3; rw [h3]
      subst e
      refine hs_ret ?_
      refine he_if ?_
      refine ht_cmp op_isN rfl ?_
      refine he_name (i := 1) rfl (by first | exact .inl rfl | exact .inr (.inl rfl) | exact .inr (.inr rfl)) rfl ?_
      refine he_non ?_
      refine ⟨_, od_isN, fun z => (nomatch z), fun _ => ?_⟩
      refine he_if ?_
      refine ht_cmp op_isBA rfl ?_
      refine he_name (i := 1) rfl (by first | exact .inl rfl | exact .inr (.inl rfl) | exact .inr (.inr rfl)) rfl ?_
      refine he_bl ?_
      refine ⟨_, od_isB, fun z => (nomatch z), fun _ => ?_⟩
      refine he_cmp op_isBA rfl ?_
      refine he_name (i := 0) rfl (by first | exact .inl rfl | exact .inr (.inl rfl) | exact .inr (.inr rfl)) rfl ?_
      refine he_bl ?_
      exact ⟨_, od_isB, hq⟩
    · have hd2 : (∃ i, d = .int i) ∨ ∃ z, d = .str z := by
        cases d with
        | int i => exact .inl ⟨i, rfl⟩
        | str z => exact .inr ⟨z, rfl⟩
        | non => simp [isNonD] at h1
        | bl b => cases b <;> simp [isBlD] at h2 h3
        | tup l => cases hn; exact absurd rfl ht
        | _ => simp [gd] at hg
      rcases hd2 with ⟨i, rfl⟩ | ⟨z, rfl⟩
      · refine hss_cons (hs_if (ht_val ?_))
        refine he_callB call_isi (by rfl) mi boot_isi ?_ rfl rfl (by decide) (by decide)
        refine ha_cons ?_ ?hs_
        case hs_ => rfl
        refine he_name (i := 1) rfl (by first | exact .inl rfl | exact .inr (.inl rfl) | exact .inr (.inr rfl)) rfl ?_
        refine ha_cons ?_ ?hs_
        case hs_ => rfl
        refine he_bty (by rfl) mint boot_int ?_
        refine ha_nil ?_
        refine ⟨_, oa_isiInt kit_int rfl rfl, _, rfl, fun _ => hss_one ?_, fun z => (by simp at z)⟩
        refine hs_ret ?_
        refine he_andB ?_
        refine he_callB call_isi (by rfl) mi boot_isi ?_ rfl rfl (by decide) (by decide)
        refine ha_cons ?_ ?hs_
        case hs_ => rfl
        refine he_name (i := 0) rfl (by first | exact .inl rfl | exact .inr (.inl rfl) | exact .inr (.inr rfl)) rfl ?_
        refine ha_cons ?_ ?hs_
        case hs_ => rfl
        refine he_bty (by rfl) mint boot_int ?_
        refine ha_nil ?_
        refine ⟨_, oa_isiInt kit_int rfl rfl, _, rfl, fun _ => he_andB (he_notB ?_), fun z => (by simp at z)⟩
        refine he_callB call_isi (by rfl) mi boot_isi ?_ rfl rfl (by decide) (by decide)
        refine ha_cons ?_ ?hs_
        case hs_ => rfl
        refine he_name (i := 0) rfl (by first | exact .inl rfl | exact .inr (.inl rfl) | exact .inr (.inr rfl)) rfl ?_
        refine ha_cons ?_ ?hs_
        case hs_ => rfl
        refine he_bty (by rfl) mb boot_bool ?_
        refine ha_nil ?_
        refine ⟨_, oa_isiX kit_bool rfl rfl, _, rfl, _, rfl, fun _ => he_bop1 ?_, fun z => (by simp at z)⟩
        refine he_cmp op_eq rfl ?_
        refine he_name (i := 0) rfl (by first | exact .inl rfl | exact .inr (.inl rfl) | exact .inr (.inr rfl)) rfl ?_
        refine he_name (i := 1) rfl (by first | exact .inl rfl | exact .inr (.inl rfl) | exact .inr (.inr rfl)) rfl ?_
        exact ⟨_, od_eqS rfl, by simpa [sameD] using hq⟩
      · refine hss_cons (hs_if (ht_val ?_))
        refine he_callB call_isi (by rfl) mi boot_isi ?_ rfl rfl (by decide) (by decide)
        refine ha_cons ?_ ?hs_
        case hs_ => rfl
        refine he_name (i := 1) rfl (by first | exact .inl rfl | exact .inr (.inl rfl) | exact .inr (.inr rfl)) rfl ?_
        refine ha_cons ?_ ?hs_
        case hs_ => rfl
        refine he_bty (by rfl) mint boot_int ?_
        refine ha_nil ?_
        refine ⟨_, oa_isiInt kit_int rfl rfl, _, rfl, fun z => (by simp at z), fun _ => hss_nil (hss_one ?_)⟩
        refine hs_ret ?_
        refine he_andB ?_
        refine he_callB call_isi (by rfl) mi boot_isi ?_ rfl rfl (by decide) (by decide)
        refine ha_cons ?_ ?hs_
        case hs_ => rfl
        refine he_name (i := 1) rfl (by first | exact .inl rfl | exact .inr (.inl rfl) | exact .inr (.inr rfl)) rfl ?_
        refine ha_cons ?_ ?hs_
        case hs_ => rfl
        refine he_bty (by rfl) ms PyProof.Rows.boot_str ?_
        refine ha_nil ?_
        refine ⟨_, oa_isiX kit_str rfl rfl, _, rfl, fun _ => he_andB ?_, fun z => (by simp at z)⟩
        refine he_callB call_isi (by rfl) mi boot_isi ?_ rfl rfl (by decide) (by decide)
        refine ha_cons ?_ ?hs_
        case hs_ => rfl
        refine he_name (i := 0) rfl (by first | exact .inl rfl | exact .inr (.inl rfl) | exact .inr (.inr rfl)) rfl ?_
        refine ha_cons ?_ ?hs_
        case hs_ => rfl
        refine he_bty (by rfl) ms PyProof.Rows.boot_str ?_
        refine ha_nil ?_
        refine ⟨_, oa_isiX kit_str rfl rfl, _, rfl, fun _ => he_bop1 ?_, fun z => (by simp at z)⟩
        refine he_cmp op_eq rfl ?_
        refine he_name (i := 0) rfl (by first | exact .inl rfl | exact .inr (.inl rfl) | exact .inr (.inr rfl)) rfl ?_
        refine he_name (i := 1) rfl (by first | exact .inl rfl | exact .inr (.inl rfl) | exact .inr (.inr rfl)) rfl ?_
        exact ⟨_, od_eqS rfl, by simpa [sameD] using hq⟩
theorem ok_is (DI : DefAt K mg "_law_is" sIs f fd ["told", "due"]) (mi : mg "isinstance" = none) (ml : mg "len" = none) (mt : mg "tuple" = none) (mint : mg "int" = none) (mb : mg "bool" = none) (ms : mg "str" = none) (mz : mg "zip" = none) :
    ∀ n : Nat, FnOk P w K mg base (L2.CX P w) (k + n + 1) f fd ["told", "due"] (spD K (ρT tabs) 2 (FIs n))
  | 0 => step_is DI mi ml mt mint mb ms mz fun l h => absurd h (by omega)
  | n + 1 => step_is DI mi ml mt mint mb ms mz fun l h => ok_is DI mi ml mt mint mb ms mz n
end
end K02
set_option Elab.async false
set_option linter.all false
set_option maxRecDepth 100000
set_option maxHeartbeats 4000000
namespace K02
open PySem PySem.Spec PyProof.Rows L2 FD
/-! ### drawn groups -/
abbrev sGroup : Stmt := topS 19
abbrev sKind : Stmt := topS 20
abbrev sJoin : Stmt := topS 21
theorem scGroup : FnScope ["box", "way", "turn"] ["box"] (defScope sGroup) := ⟨rfl, rfl, rfl, by decide +kernel, rfl, by decide +kernel, by decide +kernel⟩
theorem scKind : FnScope ["group"] ["group"] (defScope sKind) := ⟨rfl, rfl, rfl, by decide +kernel, rfl, by decide +kernel, by decide +kernel⟩
theorem scJoin : FnScope ["box", "groups", "told", "last", "group", "kind", "gap"] ["box", "groups"] (defScope sJoin) := ⟨rfl, rfl, rfl, by decide +kernel, rfl, by decide +kernel, by decide +kernel⟩
inductive Grp : List Nat → Prop where
  | lets {g : List Nat} : g ≠ [] → (∀ c ∈ g, c ∈ lets) → g.length ≤ 14 → Grp g
  | figs {g : List Nat} : g ≠ [] → (∀ c ∈ g, c ∈ figs) → g.length ≤ 45 → Grp g
  | sig {c : Nat} : c ∈ sigs → Grp [c]
def FGroup : Spec Bx := fun ds r q _ => ∃ p : Addr, ds = [.ref p] ∧ BxP p r ∧ ∀ g r', Grp g → BxP p r' → q (.str (FD.strOf g)) r'
theorem join_signs (cs : List Nat) : Txt.join (Str.ofString "") (cs.map fun c => FD.strOf [c]) = FD.strOf cs := by
  have h := join_of [] (cs.map fun c => [c])
  rw [List.map_map, joinL_nil] at h
  have e : ∀ l : List Nat, (l.map fun c => [c]).flatten = l := fun l => by
    induction l with
    | nil => rfl
    | cons c l ih => rw [List.map_cons, List.flatten_cons, ih]; rfl
  rw [e] at h
  exact h
theorem sum_signs (cs : List Nat) : ((cs.map fun c => FD.strOf [c]).map (·.length)).sum = cs.length := by
  induction cs with
  | nil => rfl
  | cons c cs ih => rw [List.map_cons, List.map_cons, List.sum_cons, ih, List.length_cons]; show 1 + _ = _; omega
theorem strs_signs (cs : List Nat) : strsD (cs.map fun c => FD.strOf [c]) = cs.map fun c => D.str ⟨#[c]⟩ := by
  unfold strsD
  rw [List.map_map]
  rfl
section
variable {P : Program} {w : World} {K : PySem.W.Frag} {mg : Str → Option Value} {base : Heap} {tabs : List (Addr × Str)} {f : Addr} {fd : FuncData} {k : Nat}
theorem ok_group {fT fP : Addr} {fdT fdP : FuncData} (Fn : Fun K "_law_group" "_law_group" sGroup f fd) (DT : DefAt K mg "_law_take" sTake fT fdT ["box", "many"]) (DP : DefAt K mg "_law_pick" sPick fP fdP ["box", "some"]) (mi : mg "int" = none) (ml : mg "len" = none) (mr : mg "range" = none) :
    FnOk P w K mg base (L2.CX P w) (k + 3) f fd ["box"] (spD K (ρT tabs) 1 FGroup) := by
  have GT : FnOk P w K mg base (L2.CX P w) (k + 2) fT fdT ["box", "many"] (spD K (ρT tabs) 2 FTake) := ok_take DT.fn mi
  have GP : FnOk P w K mg base (L2.CX P w) (k + 2) fP fdP ["box", "some"] (spD K (ρT tabs) 2 FPick) := ok_pick DP.fn DT mi ml
  refine fd_ok Fn scGroup fun cdv A outer s H E B xq ok hr hp ds r q hl hF => ?_
  obtain ⟨p, rfl, hB, hq⟩ := hF
  refine hss_cons ?_
  refine hs_set (i := 1) ok rfl (by first | exact .inl rfl | exact .inr rfl) ?_ rfl (by first | exact .inr rfl | exact .inl rfl)
  refine he_call ok GT hr (by rfl) DT.m DT.fn.kp DT.b ?_ (by decide) rfl rfl
  refine ha_cons ?_ ?hs_
  case hs_ => rfl
  refine he_name (i := 0) rfl (by first | exact .inl rfl | exact .inr (.inl rfl) | exact .inr (.inr rfl)) rfl ?_
  refine ha_cons ?_ ?hs_
  case hs_ => rfl
  refine he_int ?_
  refine ha_nil ?_
  refine ⟨rfl, p, 3, rfl, by decide, by decide, hB, fun way r1 _ _ hB1 => hss_cons (hs_if ?_)⟩
  refine ht_cmp op_eq rfl ?_
  refine he_name (i := 1) rfl (by first | exact .inl rfl | exact .inr (.inl rfl) | exact .inr (.inr rfl)) rfl ?_
  refine he_int ?_
  refine ⟨_, od_eqS rfl, fun _ => hss_one ?_, fun _ => hss_nil (hss_cons (hs_if ?_))⟩
  · refine hs_ret ?_
    refine he_join ?_ rfl rfl rfl
    refine he_str ?_
    refine ⟨_, rfl, he_hf (hf_lc (own := [("turn", 2)]) ok (blkOk_by (N := ["box", "way", "turn"]) (sc := defScope sGroup) (by decide +kernel)) (hvs_by rfl) (hi_range1 (by rfl) mr ?_ rfl) (fun _ => rfl))⟩
    refine ha_cons ?_ ?hs_
    case hs_ => rfl
    refine he_op op_add ?_
    refine he_int ?_
    refine he_call ok GT hr (by rfl) DT.m DT.fn.kp DT.b ?_ (by decide) rfl rfl
    refine ha_cons ?_ ?hs_
    case hs_ => rfl
    refine he_name (i := 0) rfl (by first | exact .inl rfl | exact .inr (.inl rfl) | exact .inr (.inr rfl)) rfl ?_
    refine ha_cons ?_ ?hs_
    case hs_ => rfl
    refine he_int ?_
    refine ha_nil ?_
    refine ⟨rfl, p, 14, rfl, by decide, by decide, hB1, fun v r2 hv0 hv1 hB2 => ⟨_, od_i0 (fun _ => .int), ?_⟩⟩
    refine ha_nil ?_
    refine ⟨1 + v, rfl, by omega, by omega, fun i acc r' => BxP p r' ∧ ∃ cs : List Nat, acc = (cs.map fun c => D.str ⟨#[c]⟩) ∧ cs.length = i ∧ ∀ c ∈ cs, c ∈ lets, ⟨hB2, [], rfl, rfl, by simp⟩, fun i d acc r3 hget hI => ?_, fun acc r3 hI => ?_⟩
    · obtain ⟨hB3, cs, rfl, hcl, hcs⟩ := hI
      have hi : i < (1 + v).toNat := by
        have h := (List.getElem?_eq_some_iff.mp hget).1
        rw [List.length_map, List.length_range] at h
        exact h
      intro B' s1 H1 C1 cl1 fp1
      refine hg_name (i := 2) ok.blk rfl (.inl rfl) (by simp) ?_ (.inr rfl)
      refine ⟨rfl, fun s1 H1 C1 cl1 fp1 => hts_nil ⟨fun _ s1 H1 C1 cl1 fp1 => ?_, fun z => (nomatch z)⟩⟩
      refine he_call ok.blk GP hr (by rfl) DP.m DP.fn.kp DP.b ?_ (by decide) rfl rfl
      refine ha_cons ?_ ?hs_
      case hs_ => rfl
      refine he_name (i := 0) rfl (by first | exact .inl rfl | exact .inr (.inl rfl) | exact .inr (.inr rfl)) rfl ?_
      refine ha_cons ?_ ?hs_
      case hs_ => rfl
      refine he_str ?_
      refine ha_nil ?_
      refine ⟨rfl, p, _, rfl, hB3, .inl ⟨_, rfl, by decide +kernel, by decide +kernel, fun c r4 hc hB4 => ⟨?_, hB4, cs ++ [c], ?_, ?_, ?_⟩⟩⟩
      · rw [List.length_map]; exact Nat.lt_of_lt_of_le (show cs.length < 20 by omega) (by decide)
      · rw [List.map_append]; rfl
      · rw [List.length_append, hcl]; rfl
      · intro c' hc'
        rcases List.mem_append.mp hc' with h | h
        · exact hcs c' h
        · rw [List.mem_singleton.mp h]
          exact (show ∀ c ∈ (Str.ofString "abcxyz").cps.toList, c ∈ lets by decide +kernel) c hc
    · obtain ⟨hB3, cs, rfl, hcl, hcs⟩ := hI
      rw [List.length_map, List.length_range] at hcl
      refine ⟨cs.map fun c => FD.strOf [c], .inl (by rw [strs_signs]), ?_, ?_⟩
      · rw [sum_signs]
        have h0 : (Str.ofString "").length = 0 := by decide +kernel
        rw [h0, Nat.mul_zero]
        omega
      · rw [join_signs]
        exact hq cs r3 (.lets (by intro z; subst z; simp at hcl; omega) hcs (by omega)) hB3
  · refine ht_cmp op_eq rfl ?_
    refine he_name (i := 1) rfl (by first | exact .inl rfl | exact .inr (.inl rfl) | exact .inr (.inr rfl)) rfl ?_
    refine he_int ?_
    refine ⟨_, od_eqS rfl, fun _ => hss_one ?_, fun _ => hss_nil (hss_one ?_)⟩
    · refine hs_ret ?_
      refine he_join ?_ rfl rfl rfl
      refine he_str ?_
      refine ⟨_, rfl, he_hf (hf_lc (own := [("turn", 2)]) ok (blkOk_by (N := ["box", "way", "turn"]) (sc := defScope sGroup) (by decide +kernel)) (hvs_by rfl) (hi_range1 (by rfl) mr ?_ rfl) (fun _ => rfl))⟩
      refine ha_cons ?_ ?hs_
      case hs_ => rfl
      refine he_op op_add ?_
      refine he_int ?_
      refine he_call ok GP hr (by rfl) DP.m DP.fn.kp DP.b ?_ (by decide) rfl rfl
      refine ha_cons ?_ ?hs_
      case hs_ => rfl
      refine he_name (i := 0) rfl (by first | exact .inl rfl | exact .inr (.inl rfl) | exact .inr (.inr rfl)) rfl ?_
      refine ha_cons ?_ ?hs_
      case hs_ => rfl
      refine he_hf (hf_lst ?_)
      refine ha_cons ?_ ?hs_
      case hs_ => rfl
      refine he_int ?_
      refine ha_cons ?_ ?hs_
      case hs_ => rfl
      refine he_int ?_
      refine ha_cons ?_ ?hs_
      case hs_ => rfl
      refine he_int ?_
      refine ha_nil ?_
      refine ⟨by show 3 ≤ sizeLine; decide, ?_⟩
      refine ha_nil ?_
      refine ⟨rfl, p, _, rfl, hB1, .inr ⟨_, rfl, by decide, by decide, fun e r2 he hB2 => ?_⟩⟩
      obtain ⟨v, rfl, hv0, hv1⟩ : ∃ v : Int, e = .int v ∧ 0 ≤ v ∧ v ≤ 44 := by
        simp only [List.mem_cons, List.not_mem_nil, or_false] at he
        rcases he with rfl | rfl | rfl <;> exact ⟨_, rfl, by decide, by decide⟩
      refine ⟨_, od_i0 (fun _ => .int), ?_⟩
      refine ha_nil ?_
      refine ⟨1 + v, rfl, by omega, by omega, fun i acc r' => BxP p r' ∧ ∃ cs : List Nat, acc = (cs.map fun c => D.str ⟨#[c]⟩) ∧ cs.length = i ∧ ∀ c ∈ cs, c ∈ figs, ⟨hB2, [], rfl, rfl, by simp⟩, fun i d acc r3 hget hI => ?_, fun acc r3 hI => ?_⟩
      · obtain ⟨hB3, cs, rfl, hcl, hcs⟩ := hI
        have hi : i < (1 + v).toNat := by
          have h := (List.getElem?_eq_some_iff.mp hget).1
          rw [List.length_map, List.length_range] at h
          exact h
        intro B' s1 H1 C1 cl1 fp1
        refine hg_name (i := 2) ok.blk rfl (.inl rfl) (by simp) ?_ (.inr rfl)
        refine ⟨rfl, fun s1 H1 C1 cl1 fp1 => hts_nil ⟨fun _ s1 H1 C1 cl1 fp1 => ?_, fun z => (nomatch z)⟩⟩
        refine he_call ok.blk GP hr (by rfl) DP.m DP.fn.kp DP.b ?_ (by decide) rfl rfl
        refine ha_cons ?_ ?hs_
        case hs_ => rfl
        refine he_name (i := 0) rfl (by first | exact .inl rfl | exact .inr (.inl rfl) | exact .inr (.inr rfl)) rfl ?_
        refine ha_cons ?_ ?hs_
        case hs_ => rfl
        refine he_str ?_
        refine ha_nil ?_
        refine ⟨rfl, p, _, rfl, hB3, .inl ⟨_, rfl, by decide +kernel, by decide +kernel, fun c r4 hc hB4 => ⟨?_, hB4, cs ++ [c], ?_, ?_, ?_⟩⟩⟩
        · rw [List.length_map]; exact Nat.lt_of_lt_of_le (show cs.length < 60 by omega) (by decide)
        · rw [List.map_append]; rfl
        · rw [List.length_append, hcl]; rfl
        · intro c' hc'
          rcases List.mem_append.mp hc' with h | h
          · exact hcs c' h
          · rw [List.mem_singleton.mp h]
            exact (show ∀ c ∈ (Str.ofString "0123456789").cps.toList, c ∈ figs by decide +kernel) c hc
      · obtain ⟨hB3, cs, rfl, hcl, hcs⟩ := hI
        rw [List.length_map, List.length_range] at hcl
        refine ⟨cs.map fun c => FD.strOf [c], .inl (by rw [strs_signs]), ?_, ?_⟩
        · rw [sum_signs]
          have h0 : (Str.ofString "").length = 0 := by decide +kernel
          rw [h0, Nat.mul_zero]
          omega
        · rw [join_signs]
          exact hq cs r3 (.figs (by intro z; subst z; simp at hcl; omega) hcs (by omega)) hB3
    · refine hs_ret ?_
      refine he_call ok GP hr (by rfl) DP.m DP.fn.kp DP.b ?_ (by decide) star_n pl_l
      refine ha_cons ?_ ?hs_
      case hs_ => rfl
      refine he_name (i := 0) rfl (by first | exact .inl rfl | exact .inr (.inl rfl) | exact .inr (.inr rfl)) rfl ?_
      refine ha_cons ?_ ?hs_
      case hs_ => rfl
      refine he_hf (hf_lst ?_)
      refine ha_cons ?_ ?hs_
      case hs_ => rfl
      refine he_str ?_
      refine ha_cons ?_ ?hs_
      case hs_ => rfl
      refine he_str ?_
      refine ha_cons ?_ ?hs_
      case hs_ => rfl
      refine he_str ?_
      refine ha_cons ?_ ?hs_
      case hs_ => rfl
      refine he_str ?_
      refine ha_cons ?_ ?hs_
      case hs_ => rfl
      refine he_str ?_
      refine ha_cons ?_ ?hs_
      case hs_ => rfl
      refine he_str ?_
      refine ha_cons ?_ ?hs_
      case hs_ => rfl
      refine he_str ?_
      refine ha_nil ?_
      refine ⟨by show 7 ≤ sizeLine; decide, ?_⟩
      refine ha_nil ?_
      refine ⟨rfl, p, _, rfl, hB1, .inr ⟨_, rfl, by decide, by decide, fun e r2 he hB2 => ?_⟩⟩
      obtain ⟨c, rfl, hc⟩ : ∃ c, e = .str (FD.strOf [c]) ∧ c ∈ sigs := by
        simp only [List.mem_cons, List.not_mem_nil, or_false] at he
        rcases he with rfl | rfl | rfl | rfl | rfl | rfl | rfl
        · exact ⟨60, rfl, by decide +kernel⟩
        · exact ⟨61, rfl, by decide +kernel⟩
        · exact ⟨47, rfl, by decide +kernel⟩
        · exact ⟨45, rfl, by decide +kernel⟩
        · exact ⟨44, rfl, by decide +kernel⟩
        · exact ⟨40, rfl, by decide +kernel⟩
        · exact ⟨41, rfl, by decide +kernel⟩
      exact hq [c] r2 (.sig hc) hB2
end
end K02
set_option Elab.async false
set_option linter.all false
set_option maxRecDepth 100000
set_option maxHeartbeats 4000000
namespace K02
open PySem PySem.Spec PyProof.Rows L2 FD
/-! ### the text that is put together -/
def kd (c : Nat) : Int := if c ∈ lets then 0 else if c ∈ figs then 1 else 2
/-- whether a group of kind k may be followed by this text at once -/
def parts (k : Int) (t : List Nat) : Prop := k < 2 → ∀ c r, t = c :: r → kd c ≠ k
theorem figs_lets : ∀ c ∈ figs, c ∉ lets := by decide +kernel
theorem sigs_lets : ∀ c ∈ sigs, c ∉ lets := by decide +kernel
theorem sigs_figs : ∀ c ∈ sigs, c ∉ figs := by decide +kernel
theorem blas_kd : ∀ c ∈ blas, kd c = 2 := by decide +kernel
theorem lets_blas : ∀ c ∈ lets, c ∉ blas := by decide +kernel
theorem figs_blas : ∀ c ∈ figs, c ∉ blas := by decide +kernel
theorem sigs_blas : ∀ c ∈ sigs, c ∉ blas := by decide +kernel
theorem cuts_bla {b t : List Nat} {G : List (List Nat)} (h : Cuts t G) : (∀ c ∈ b, c ∈ blas) → Cuts (b ++ t) G := by
  induction b with
  | nil => exact fun _ => h
  | cons c b ih => exact fun hb => .bla (hb c List.mem_cons_self) (ih fun c' hc' => hb c' (List.mem_cons_of_mem _ hc'))
theorem tw_all {p : Nat → Bool} : ∀ {g t : List Nat}, (∀ c ∈ g, p c = true) → (∀ c r, t = c :: r → p c = false) → (g ++ t).takeWhile p = g
  | [], t, _, ht => by
    cases t with
    | nil => rfl
    | cons c r => rw [List.nil_append, List.takeWhile_cons, ht c r rfl]; rfl
  | c :: g, t, hg, ht => by
    rw [List.cons_append, List.takeWhile_cons, hg c List.mem_cons_self, if_pos rfl, tw_all (fun c' h => hg c' (List.mem_cons_of_mem _ h)) ht]
theorem glen_grp {g t : List Nat} (hg : Grp g) (k : Int) (hk : ∀ c r, g = c :: r → kd c = k) (ht : parts k t) : glen (g ++ t) = g.length := by
  cases hg with
  | @lets g h1 h2 h3 =>
    cases g with
    | nil => exact absurd rfl h1
    | cons c r =>
      have hc := h2 c List.mem_cons_self
      have e := hk c r rfl
      unfold kd at e
      rw [if_pos hc] at e
      rw [List.cons_append, glen_cons, if_pos hc, ← List.cons_append]
      rw [tw_all (fun c' h => by simpa using h2 c' h) fun c' r' e' => ?_]
      have h := ht (by rw [← e]; decide) c' r' e'
      unfold kd at h
      by_cases z : c' ∈ K02.lets
      · rw [if_pos z] at h; exact absurd e h
      · simpa using z
  | @figs g h1 h2 h3 =>
    cases g with
    | nil => exact absurd rfl h1
    | cons c r =>
      have hc := h2 c List.mem_cons_self
      have e := hk c r rfl
      unfold kd at e
      rw [if_neg (figs_lets c hc), if_pos hc] at e
      rw [List.cons_append, glen_cons, if_neg (figs_lets c hc), if_pos hc, ← List.cons_append]
      rw [tw_all (fun c' h => by simpa using h2 c' h) fun c' r' e' => ?_]
      have h := ht (by rw [← e]; decide) c' r' e'
      unfold kd at h
      by_cases z : c' ∈ K02.figs
      · rw [if_neg (figs_lets c' z), if_pos z] at h; exact absurd e h
      · simpa using z
  | @sig c h =>
    rw [List.singleton_append, glen_cons, if_neg (sigs_lets c h), if_neg (sigs_figs c h)]
    rfl
theorem grp_ne {g : List Nat} (hg : Grp g) : ∃ c r, g = c :: r ∧ c ∉ blas := by
  cases hg with
  | @lets g h1 h2 h3 =>
    cases g with
    | nil => exact absurd rfl h1
    | cons c r => exact ⟨c, r, rfl, lets_blas c (h2 c List.mem_cons_self)⟩
  | @figs g h1 h2 h3 =>
    cases g with
    | nil => exact absurd rfl h1
    | cons c r => exact ⟨c, r, rfl, figs_blas c (h2 c List.mem_cons_self)⟩
  | @sig c h => exact ⟨c, [], rfl, sigs_blas c h⟩
theorem grp_ok {g : List Nat} (hg : Grp g) : (∀ c ∈ g, isOk c = true) ∧ g.length ≤ 45 := by
  cases hg with
  | lets h1 h2 h3 => exact ⟨fun c hc => by unfold isOk; simp [h2 c hc], by omega⟩
  | figs h1 h2 h3 => exact ⟨fun c hc => by unfold isOk; simp [h2 c hc], h3⟩
  | @sig c h => exact ⟨fun c' hc => by rw [List.mem_singleton.mp hc]; unfold isOk; simp [h], by show 1 ≤ 45; decide⟩
theorem cuts_grp {g t : List Nat} {G : List (List Nat)} (hg : Grp g) (k : Int) (hk : ∀ c r, g = c :: r → kd c = k) (ht : parts k t) (h : Cuts t G) : Cuts (g ++ t) (g :: G) := by
  have hl := glen_grp hg k hk ht
  obtain ⟨c, r, rfl, hc⟩ := grp_ne hg
  have e1 : (c :: r ++ t).take (glen (c :: r ++ t)) = c :: r := by rw [hl, List.take_append_of_le_length (Nat.le_refl _), List.take_length]
  have e2 : (c :: r ++ t).drop (glen (c :: r ++ t)) = t := by rw [hl, List.drop_append_of_le_length (Nat.le_refl _), List.drop_length, List.nil_append]
  have h1 := Cuts.grp (c := c) (r := r ++ t) (g := G) hc (by rw [← List.cons_append, e2]; exact h)
  rw [← List.cons_append, e1] at h1
  exact h1
/-- what is put together so far -/
def Pre (t : List Nat) (last : Int) (dn : List (List Nat)) : Prop := ∀ tail G, parts last tail → Cuts tail G → Cuts (t ++ tail) (dn ++ G)
theorem pre_start {b : List Nat} (hb : ∀ c ∈ b, c ∈ blas) : Pre b 2 [] := fun tail G _ h => cuts_bla h hb
theorem pre_step {t gap g : List Nat} {last k : Int} {dn : List (List Nat)} (h : Pre t last dn) (hb : ∀ c ∈ gap, c ∈ blas) (hg : Grp g) (hk : ∀ c r, g = c :: r → kd c = k) (hgap : last = k → k < 2 → gap ≠ []) : Pre (t ++ gap ++ g) k (dn ++ [g]) := fun tail G ht hc => by
  have h1 := cuts_bla (b := gap) (cuts_grp hg k hk ht hc) hb
  have h2 := h (gap ++ (g ++ tail)) (g :: G) (fun hl c r e => ?_) h1
  · rw [List.append_assoc, List.append_assoc, List.append_assoc]
    exact h2
  · cases gap with
    | cons b gap =>
      rw [List.cons_append] at e
      injection e with e1 e2
      rw [← e1, blas_kd b (hb b List.mem_cons_self)]
      omega
    | nil =>
      obtain ⟨c', r', rfl, _⟩ := grp_ne hg
      rw [List.nil_append, List.cons_append] at e
      injection e with e1 e2
      rw [← e1, hk c' r' rfl]
      intro z
      exact hgap z.symm (by omega) rfl
theorem pre_end {t b : List Nat} {last : Int} {dn : List (List Nat)} (h : Pre t last dn) (hb : ∀ c ∈ b, c ∈ blas) : Cuts (t ++ b) dn := by
  have h1 := h b [] (fun _ c r e => by rw [blas_kd c (hb c (by rw [e]; exact List.mem_cons_self))]; omega) (by have := cuts_bla (b := b) Cuts.nil hb; rwa [List.append_nil] at this)
  rwa [List.append_nil] at h1
def FKind : Spec Bx := fun ds r q _ => ∃ (c : Nat) (t : List Nat), ds = [.str (FD.strOf (c :: t))] ∧ (c :: t).length ≤ 100 ∧ q (.int (kd c)) r
def FJoin : Spec Bx := fun ds r q _ => ∃ (p : Addr) (gs : List (List Nat)), ds = [.ref p, .lst (strsD (gs.map FD.strOf))] ∧ (∀ g ∈ gs, Grp g) ∧ gs.length ≤ 11 ∧ BxP p r ∧
  ∀ t r', Cuts t gs → (∀ c ∈ t, isOk c = true) → t.length ≤ 600 → BxP p r' → q (.str (FD.strOf t)) r'
section
variable {P : Program} {w : World} {K : PySem.W.Frag} {mg : Str → Option Value} {base : Heap} {tabs : List (Addr × Str)} {f : Addr} {fd : FuncData} {k : Nat}
theorem small_line {n : Nat} (h : n ≤ 1000) : n ≤ sizeLine := Nat.le_trans h (by decide)
theorem ok_kind (Fn : Fun K "_law_kind" "_law_kind" sKind f fd) : FnOk P w K mg base (L2.CX P w) (k + 1) f fd ["group"] (spD K (ρT tabs) 1 FKind) := by
  refine fd_ok Fn scKind fun cdv A outer s H E B xq ok hr hp ds r q hl hF => ?_
  obtain ⟨c, t, rfl, hlen, hq⟩ := hF
  have hz : (FD.strOf (c :: t)).length ≤ sizeLine := by rw [strOf_length]; exact small_line (by omega)
  have hc : atI (FD.strOf (c :: t)).cps.toList 0 = some c := atI_nat (j := 0) rfl
  unfold kd at hq
  refine hss_one ?_
  refine hs_ret ?_
  refine he_if ?_
  refine ht_cmp op_in_sign rfl ?_
  refine he_ix ix_seq (fun _ _ => rfl) ?_
  refine he_name (i := 0) rfl (by first | exact .inl rfl | exact .inr (.inl rfl) | exact .inr (.inr rfl)) rfl ?_
  refine he_int ?_
  refine ⟨_, od_ixS hz hc, ?_⟩
  refine he_str ?_
  refine ⟨_, od_inSg, fun h1 => ?_, fun h1 => he_if ?_⟩
  · have h1 : c ∈ lets := d_t h1
    refine he_int ?_
    rw [if_pos h1] at hq
    exact hq
  · have h1 : c ∉ lets := d_f h1
    refine ht_cmp op_in_sign rfl ?_
    refine he_ix ix_seq (fun _ _ => rfl) ?_
    refine he_name (i := 0) rfl (by first | exact .inl rfl | exact .inr (.inl rfl) | exact .inr (.inr rfl)) rfl ?_
    refine he_int ?_
    refine ⟨_, od_ixS hz hc, ?_⟩
    refine he_str ?_
    refine ⟨_, od_inSg, fun h2 => ?_, fun h2 => ?_⟩
    · have h2 : c ∈ figs := d_t h2
      refine he_int ?_
      rw [if_neg h1, if_pos h2] at hq
      exact hq
    · have h2 : c ∉ figs := d_f h2
      refine he_int ?_
      rw [if_neg h1, if_neg h2] at hq
      exact hq
/-- a drawn gap -/
theorem gap_of {e : D} {l : List (List Nat)} (he : e ∈ l.map fun b => D.str (FD.strOf b)) (hl : (l.all fun b => b.all fun c => decide (c ∈ blas)) = true) (h3 : (l.all fun b => decide (b.length ≤ 3)) = true) : ∃ b, e = .str (FD.strOf b) ∧ b ∈ l ∧ (∀ c ∈ b, c ∈ blas) ∧ b.length ≤ 3 := by
  obtain ⟨b, hb, rfl⟩ := List.mem_map.mp he
  refine ⟨b, rfl, hb, fun c hc => ?_, ?_⟩
  · have h1 := List.all_eq_true.mp hl b hb
    exact of_decide_eq_true (List.all_eq_true.mp h1 c hc)
  · exact of_decide_eq_true (List.all_eq_true.mp h3 b hb)
theorem ok_join {fT fP fKd : Addr} {fdT fdP fdK : FuncData} (Fn : Fun K "_law_joined" "_law_joined" sJoin f fd) (DT : DefAt K mg "_law_take" sTake fT fdT ["box", "many"]) (DP : DefAt K mg "_law_pick" sPick fP fdP ["box", "some"]) (DK : DefAt K mg "_law_kind" sKind fKd fdK ["group"]) (mi : mg "int" = none) (ml : mg "len" = none) :
    FnOk P w K mg base (L2.CX P w) (k + 3) f fd ["box", "groups"] (spD K (ρT tabs) 2 FJoin) := by
  have GP : FnOk P w K mg base (L2.CX P w) (k + 2) fP fdP ["box", "some"] (spD K (ρT tabs) 2 FPick) := ok_pick DP.fn DT mi ml
  have GK : FnOk P w K mg base (L2.CX P w) (k + 2) fKd fdK ["group"] (spD K (ρT tabs) 1 FKind) := ok_kind DK.fn
  refine fd_ok Fn scJoin fun cdv A outer s H E B xq ok hr hp ds r q hl hF => ?_
  obtain ⟨p, gs, rfl, hgs, hg11, hB, hq⟩ := hF
  refine hss_cons (hs_par (i := 2) (j := 3) ok rfl rfl (by decide) rfl rfl ?_ rfl rfl)
  refine ha_cons ?_ ?hs_
  case hs_ => rfl
  refine he_call ok GP hr (by rfl) DP.m DP.fn.kp DP.b ?_ (by decide) rfl rfl
  refine ha_cons ?_ ?hs_
  case hs_ => rfl
  refine he_name (i := 0) rfl (by first | exact .inl rfl | exact .inr (.inl rfl) | exact .inr (.inr rfl)) rfl ?_
  refine ha_cons ?_ ?hs_
  case hs_ => rfl
  refine he_hf (hf_lst ?_)
  refine ha_cons ?_ ?hs_
  case hs_ => rfl
  refine he_str ?_
  refine ha_cons ?_ ?hs_
  case hs_ => rfl
  refine he_str ?_
  refine ha_cons ?_ ?hs_
  case hs_ => rfl
  refine he_str ?_
  refine ha_nil ?_
  refine ⟨by show 3 ≤ sizeLine; decide, ?_⟩
  refine ha_nil ?_
  refine ⟨rfl, p, _, rfl, hB, .inr ⟨_, rfl, by decide, by decide, fun e r1 he hB1 => ?_⟩⟩
  obtain ⟨b0, rfl, _, hb0, hl0⟩ := gap_of (l := [[], [32], [10]]) he (by decide +kernel) (by decide)
  refine ha_cons ?_ ?hs_
  case hs_ => rfl
  refine he_int ?_
  refine ha_nil ?_
  refine ⟨_, _, rfl, hss_cons (hs_for [4] ok hp (hi_list ?_) (fun _ => rfl))⟩
  refine he_name (i := 1) rfl (by first | exact .inl rfl | exact .inr (.inl rfl) | exact .inr (.inr rfl)) rfl ?_
  refine ⟨_, rfl, fun i Δ' r' => BxP p r' ∧ ∃ (t : List Nat) (last : Int) (o4 o5 o6 : Option SV), Δ' = [some (.val (.ref p)), some (.val (.lst (strsD (gs.map FD.strOf)))), some (.val (.str (FD.strOf t))), some (.val (.int last)), o4, o5, o6] ∧ Pre t last (gs.take i) ∧ (∀ c ∈ t, isOk c = true) ∧ t.length ≤ 3 + 48 * i,
    ⟨hB1, b0, 2, none, none, none, rfl, by rw [List.take_zero]; exact pre_start hb0, fun c hc => by unfold isOk; simp [hb0 c hc], by omega⟩, fun i d Δ1 r2 hget hI => ?_, fun Δ1 r2 hI => ?_⟩
  · obtain ⟨hB2, t, last, o4, o5, o6, rfl, hpre, hok, hlen⟩ := hI
    obtain ⟨g, hgi, rfl⟩ : ∃ g, gs[i]? = some g ∧ d = .str (FD.strOf g) := by
      unfold strsD at hget
      rw [List.getElem?_map, List.getElem?_map] at hget
      cases e : gs[i]? with
      | none => rw [e] at hget; cases hget
      | some g => rw [e] at hget; cases hget; exact ⟨g, rfl, rfl⟩
    have hg := hgs g (List.mem_of_getElem? hgi)
    have hi : i < gs.length := (List.getElem?_eq_some_iff.mp hgi).1
    obtain ⟨c, g', rfl, _⟩ := grp_ne hg
    obtain ⟨gok, glen45⟩ := grp_ok hg
    refine hg_name (i := 4) ok rfl (.inl rfl) (by simp) ?_ (.inr rfl)
    refine hss_cons ?_
    refine hs_set (i := 5) ok rfl (by first | exact .inl rfl | exact .inr rfl) ?_ rfl (by first | exact .inr rfl | exact .inl rfl)
    refine he_call ok GK hr (by rfl) DK.m DK.fn.kp DK.b ?_ (by decide) rfl rfl
    refine ha_cons ?_ ?hs_
    case hs_ => rfl
    refine he_name (i := 4) rfl (by first | exact .inl rfl | exact .inr (.inl rfl) | exact .inr (.inr rfl)) rfl ?_
    refine ha_nil ?_
    refine ⟨rfl, c, g', rfl, by omega, hss_cons ?_⟩
    have hk : ∀ c2 r2, c :: g' = c2 :: r2 → kd c2 = kd c := fun c2 r2 e => by injection e with e1 _; rw [e1]
    -- what stands behind the gap
    have fin : ∀ (b : List Nat) (r3 : Bx), (∀ c ∈ b, c ∈ blas) → b.length ≤ 3 → BxP p r3 → (last = kd c → kd c < 2 → b ≠ []) →
        BxP p r3 ∧ ∃ (t' : List Nat) (last' : Int) (o4 o5 o6 : Option SV), [some (SV.val (.ref p)), some (.val (.lst (strsD (gs.map FD.strOf)))), some (.val (.str (FD.strOf t ++ FD.strOf b ++ FD.strOf (c :: g')))), some (.val (.int (kd c))), some (.val (.str (FD.strOf (c :: g')))), some (.val (.int (kd c))), some (.val (.str (FD.strOf b)))] = [some (.val (.ref p)), some (.val (.lst (strsD (gs.map FD.strOf)))), some (.val (.str (FD.strOf t'))), some (.val (.int last')), o4, o5, o6] ∧ Pre t' last' (gs.take (i + 1)) ∧ (∀ c ∈ t', isOk c = true) ∧ t'.length ≤ 3 + 48 * (i + 1) := fun b r3 hb hb3 hB3 hgap => by
      refine ⟨hB3, t ++ b ++ (c :: g'), kd c, _, _, _, by rw [strOf_append, strOf_append], ?_, ?_, ?_⟩
      · rw [List.take_add_one, hgi]
        exact pre_step hpre hb hg hk hgap
      · intro c' hc'
        rcases List.mem_append.mp hc' with h | h
        · rcases List.mem_append.mp h with h | h
          · exact hok c' h
          · unfold isOk; simp [hb c' h]
        · exact gok c' h
      · rw [List.length_append, List.length_append]; omega
    have tail : ∀ (b : List Nat) (r3 : Bx), (∀ c ∈ b, c ∈ blas) → b.length ≤ 3 → BxP p r3 → (last = kd c → kd c < 2 → b ≠ []) → True := fun _ _ _ _ _ _ => trivial
    refine hs_set (i := 6) ok rfl (by first | exact .inl rfl | exact .inr rfl) ?_ rfl (by first | exact .inr rfl | exact .inl rfl)
    refine he_call ok GP hr (by rfl) DP.m DP.fn.kp DP.b ?_ (by decide) rfl rfl
    refine ha_cons ?_ ?hs_
    case hs_ => rfl
    refine he_name (i := 0) rfl (by first | exact .inl rfl | exact .inr (.inl rfl) | exact .inr (.inr rfl)) rfl ?_
    refine ha_cons ?_ ?hs_
    case hs_ => rfl
    refine he_imp (q := fun d r' => r' = r2 ∧ ∃ l : List (List Nat), d = .lst (l.map fun b => D.str (FD.strOf b)) ∧ 0 < l.length ∧ l.length ≤ 4 ∧ (l.all fun b => b.all fun c => decide (c ∈ blas)) = true ∧ (l.all fun b => decide (b.length ≤ 3)) = true ∧ (last = kd c → kd c < 2 → [] ∉ l)) (he_if ?_) fun d r' hd => ?_
    · refine ht_of_w (hw_and ?_)
      refine ht_cmp op_eq rfl ?_
      refine he_name (i := 5) rfl (by first | exact .inl rfl | exact .inr (.inl rfl) | exact .inr (.inr rfl)) rfl ?_
      refine he_name (i := 3) rfl (by first | exact .inl rfl | exact .inr (.inl rfl) | exact .inr (.inr rfl)) rfl ?_
      refine ⟨_, od_eqS rfl, fun h1 => hw_and1 ?_, fun h1 => ⟨fun z => (nomatch z), fun _ => ?_⟩⟩
      · refine ht_cmp op_lt rfl ?_
        refine he_name (i := 5) rfl (by first | exact .inl rfl | exact .inr (.inl rfl) | exact .inr (.inr rfl)) rfl ?_
        refine he_int ?_
        refine ⟨_, od_i0 (fun _ => .bl), fun h2 => ?_, fun h2 => ?_⟩
        · refine he_hf (hf_lst ?_)
          refine ha_cons ?_ ?hs_
          case hs_ => rfl
          refine he_str ?_
          refine ha_cons ?_ ?hs_
          case hs_ => rfl
          refine he_str ?_
          refine ha_cons ?_ ?hs_
          case hs_ => rfl
          refine he_str ?_
          refine ha_cons ?_ ?hs_
          case hs_ => rfl
          refine he_str ?_
          refine ha_nil ?_
          exact ⟨by show 4 ≤ sizeLine; decide, rfl, [[32], [10], [32, 32], [32, 10, 32]], rfl, by decide, by decide, by decide +kernel, by decide, fun _ _ => by decide⟩
        · have h2 := d_f h2
          refine he_hf (hf_lst ?_)
          refine ha_cons ?_ ?hs_
          case hs_ => rfl
          refine he_str ?_
          refine ha_cons ?_ ?hs_
          case hs_ => rfl
          refine he_str ?_
          refine ha_cons ?_ ?hs_
          case hs_ => rfl
          refine he_str ?_
          refine ha_cons ?_ ?hs_
          case hs_ => rfl
          refine he_str ?_
          refine ha_nil ?_
          exact ⟨by show 4 ≤ sizeLine; decide, rfl, [[], [], [32], [10]], rfl, by decide, by decide, by decide +kernel, by decide, fun _ z => absurd z h2⟩
      · have h1 : kd c ≠ last := fun z => by rw [z] at h1; simp [sameD] at h1
        refine he_hf (hf_lst ?_)
        refine ha_cons ?_ ?hs_
        case hs_ => rfl
        refine he_str ?_
        refine ha_cons ?_ ?hs_
        case hs_ => rfl
        refine he_str ?_
        refine ha_cons ?_ ?hs_
        case hs_ => rfl
        refine he_str ?_
        refine ha_cons ?_ ?hs_
        case hs_ => rfl
        refine he_str ?_
        refine ha_nil ?_
        exact ⟨by show 4 ≤ sizeLine; decide, rfl, [[], [], [32], [10]], rfl, by decide, by decide, by decide +kernel, by decide, fun z _ => absurd z.symm h1⟩
    · obtain ⟨rfl, l, rfl, hl0, hl4, hlb, hl3, hne⟩ := hd
      refine ha_nil ?_
      refine ⟨rfl, p, _, rfl, hB2, .inr ⟨_, rfl, by rw [List.length_map]; exact hl0, by rw [List.length_map]; exact small_line (by omega), fun e r3 he hB3 => ?_⟩⟩
      obtain ⟨b, rfl, hbm, hb, hb3⟩ := gap_of he hlb hl3
      refine hss_one (hs_par (i := 2) (j := 3) ok rfl rfl (by decide) rfl rfl ?_ rfl rfl)
      refine ha_cons ?_ ?hs_
      case hs_ => rfl
      refine he_op op_add_str ?_
      refine he_op op_add_str ?_
      refine he_name (i := 2) rfl (by first | exact .inl rfl | exact .inr (.inl rfl) | exact .inr (.inr rfl)) rfl ?_
      refine he_name (i := 6) rfl (by first | exact .inl rfl | exact .inr (.inl rfl) | exact .inr (.inr rfl)) rfl ?_
      refine ⟨_, od_addS (by rw [strOf_length, strOf_length]; exact small_line (by omega)), ?_⟩
      refine he_name (i := 4) rfl (by first | exact .inl rfl | exact .inr (.inl rfl) | exact .inr (.inr rfl)) rfl ?_
      refine ⟨_, od_addS (by rw [strOf_append, strOf_length, strOf_length, List.length_append]; exact small_line (by omega)), ?_⟩
      refine ha_cons ?_ ?hs_
      case hs_ => rfl
      refine he_name (i := 5) rfl (by first | exact .inl rfl | exact .inr (.inl rfl) | exact .inr (.inr rfl)) rfl ?_
      refine ha_nil ?_
      refine ⟨_, _, rfl, fin b r3 hb hb3 hB3 fun z1 z2 z3 => hne z1 z2 (by rw [← z3]; exact hbm)⟩
  · obtain ⟨hB2, t, last, o4, o5, o6, rfl, hpre, hok, hlen⟩ := hI
    have hlg : (strsD (gs.map FD.strOf)).length = gs.length := strs_len
    rw [hlg] at hpre hlen
    rw [List.take_length] at hpre
    refine hss_one ?_
    refine hs_ret ?_
    refine he_op op_add_str ?_
    refine he_name (i := 2) rfl (by first | exact .inl rfl | exact .inr (.inl rfl) | exact .inr (.inr rfl)) rfl ?_
    refine he_call ok GP hr (by rfl) DP.m DP.fn.kp DP.b ?_ (by decide) rfl rfl
    refine ha_cons ?_ ?hs_
    case hs_ => rfl
    refine he_name (i := 0) rfl (by first | exact .inl rfl | exact .inr (.inl rfl) | exact .inr (.inr rfl)) rfl ?_
    refine ha_cons ?_ ?hs_
    case hs_ => rfl
    refine he_hf (hf_lst ?_)
    refine ha_cons ?_ ?hs_
    case hs_ => rfl
    refine he_str ?_
    refine ha_cons ?_ ?hs_
    case hs_ => rfl
    refine he_str ?_
    refine ha_cons ?_ ?hs_
    case hs_ => rfl
    refine he_str ?_
    refine ha_nil ?_
    refine ⟨by show 3 ≤ sizeLine; decide, ?_⟩
    refine ha_nil ?_
    refine ⟨rfl, p, _, rfl, hB2, .inr ⟨_, rfl, by decide, by decide, fun e r3 he hB3 => ?_⟩⟩
    obtain ⟨b, rfl, _, hb, hb3⟩ := gap_of (l := [[], [32], [10]]) he (by decide +kernel) (by decide)
    refine ⟨_, od_addS (by rw [strOf_length, strOf_length]; exact small_line (by omega)), ?_⟩
    rw [strOf_append]
    refine hq (t ++ b) r3 (pre_end hpre hb) (fun c hc => ?_) (by rw [List.length_append]; omega) hB3
    rcases List.mem_append.mp hc with h | h
    · exact hok c h
    · unfold isOk; simp [hb c h]
end
end K02
set_option Elab.async false
set_option linter.all false
set_option maxRecDepth 100000
set_option maxHeartbeats 4000000
namespace K02
open PySem PySem.Spec PyProof.Rows L2 FD LamX
/-! ### law -/
abbrev sErr : Stmt := topS 18
abbrev sLaw : Stmt := topS 22
theorem scErr : FnScope ["call", "e"] ["call"] (defScope sErr) := ⟨rfl, rfl, rfl, by decide +kernel, rfl, by decide +kernel, by decide +kernel⟩
abbrev nLaw : List Str := ["script", "box", "turn", "groups", "text", "at", "odd", "many", "rows", "long", "value", "count"]
theorem scLaw : FnScope nLaw ["script"] (defScope sLaw) := ⟨rfl, rfl, rfl, by decide +kernel, rfl, by decide +kernel, by decide +kernel⟩
abbrev qLam : Str := "law.<locals>.<lambda>"
def dRead : D := .tup (strsD ["no text", "no such sign", "too many groups", "too long", "not this here", "nested too deep", "a bottom of 0"])
/-! ### texts with one sign otherwise -/
theorem cutS_to {t : List Nat} {i : Nat} (h : i ≤ t.length) : cutS (FD.strOf t) none (some (i : Int)) = FD.strOf (t.take i) := by
  unfold cutS FD.strOf
  rw [HT.sIx_none]
  have e : (⟨t.toArray⟩ : Str).length = t.length := by show t.toArray.size = _; rw [List.size_toArray]
  rw [e, HT.sIx_nat, Nat.min_eq_left h]
  rfl
theorem cutS_from {t : List Nat} {i : Nat} (h : i ≤ t.length) : cutS (FD.strOf t) (some (i : Int)) none = FD.strOf (t.drop i) := by
  unfold cutS FD.strOf
  rw [HT.sIx_none]
  have e : (⟨t.toArray⟩ : Str).length = t.length := by show t.toArray.size = _; rw [List.size_toArray]
  rw [e, HT.sIx_nat, Nat.min_eq_left h]
  congr 1
  rw [List.take_of_length_le (by rw [List.length_drop]; exact Nat.le_refl _)]
theorem bad_at {t u : List Nat} {i o : Nat} (hi : i ≤ t.length) : (t.take i ++ [o] ++ u)[i]? = some o := by
  rw [List.append_assoc, List.getElem?_append_right (by rw [List.length_take]; omega), List.length_take, Nat.min_eq_left hi, Nat.sub_self]
  rfl
theorem ok_ahead {t u : List Nat} {i j o c : Nat} (hok : ∀ c ∈ t, isOk c = true) (hi : i ≤ t.length) (hj : j < i) (h : (t.take i ++ [o] ++ u)[j]? = some c) : isOk c = true := by
  rw [List.append_assoc, List.getElem?_append_left (by rw [List.length_take]; omega)] at h
  exact hok c (List.mem_of_mem_take (List.mem_of_getElem? h))
theorem cuts_sigs : ∀ n : Nat, Cuts (List.replicate n 40) (List.replicate n [40])
  | 0 => .nil
  | n + 1 => by
    rw [List.replicate_succ, List.replicate_succ]
    have h : (40 : Nat) ∈ sigs := by decide +kernel
    have e := cuts_grp (g := [40]) (t := List.replicate n 40) (.sig h) 2 (fun c r e => by injection e with e1 _; rw [← e1]; decide +kernel) (fun z => by omega) (cuts_sigs n)
    exact e
theorem cuts_long {n : Nat} (h : 1 ≤ n) : Cuts (List.replicate n 97) [List.replicate n 97] := by
  obtain ⟨m, rfl⟩ : ∃ m, n = m + 1 := ⟨n - 1, by omega⟩
  have hl : (97 : Nat) ∈ lets := by decide +kernel
  have e : glen (List.replicate (m + 1) 97) = m + 1 := by
    rw [List.replicate_succ, glen_cons, if_pos hl, ← List.replicate_succ]
    have := tw_all (p := (· ∈ lets)) (g := List.replicate (m + 1) 97) (t := []) (fun c hc => by rw [(List.mem_replicate.mp hc).2]; exact decide_eq_true hl) (fun c r z => by cases z)
    rw [List.append_nil] at this
    rw [this, List.length_replicate]
  have h1 := Cuts.grp (c := 97) (r := List.replicate m 97) (g := []) (by decide +kernel) (by
    rw [← List.replicate_succ, e, List.drop_of_length_le (by rw [List.length_replicate]; exact Nat.le_refl _)]
    exact .nil)
  rw [← List.replicate_succ, e, List.take_of_length_le (by rw [List.length_replicate]; exact Nat.le_refl _)] at h1
  exact h1
section
variable {P : Program} {w : World} {K : PySem.W.Frag} {mg : Str → Option Value} {base : Heap} {f : Addr} {fd : FuncData}
/-- what the top has written, as the law needs it -/
structure Top (P : Program) (K : PySem.W.Frag) (mg : Str → Option Value) (C fI cc cda fB fT fP fI2 fG fKd fJ fC fGe fE fEr : Addr) (dB dT dP dI dG dK dJ dC dGe dE dEr : FuncData) : Prop where
  box : DefAt K mg "_law_box" sBox fB dB ["script"]
  take : DefAt K mg "_law_take" sTake fT dT ["box", "many"]
  pick : DefAt K mg "_law_pick" sPick fP dP ["box", "some"]
  is_ : DefAt K mg "_law_is" sIs fI2 dI ["told", "due"]
  grp : DefAt K mg "_law_group" sGroup fG dG ["box"]
  kind : DefAt K mg "_law_kind" sKind fKd dK ["group"]
  join : DefAt K mg "_law_joined" sJoin fJ dJ ["box", "groups"]
  cut : DefAt K mg "cut_groups" sCut fC dC ["text"]
  ge : DefAt K mg "group_end" sGe fGe dGe ["text", "at"]
  end_ : DefAt K mg "end_of" sEnd fE dE ["text", "at", "signs"]
  err : DefAt K mg "_law_error" sErr fEr dEr ["call"]
  cutK : ∀ (s : Shared) (u : Value), K.In s.heap → BindsTo s dC ⟨[], [("text", u)]⟩ [("text", u)]
  len : mg "len" = none
  isi : mg "isinstance" = none
  str : mg "str" = none
  enu : mg "enumerate" = none
  tup : mg "tuple" = none
  abs : mg "abs" = none
  int : mg "int" = none
  bool : mg "bool" = none
  zip : mg "zip" = none
  rng : mg "range" = none
  gL : TxtAt mg "LETTERS" tLet
  gF : TxtAt mg "FIGURES" tFig
  gS : TxtAt mg "SIGNS" tSig
  gT : ∃ u, mg "MOST_TEXT" = some u ∧ RelV (.int 60000) u
  gG : ∃ u, mg "MOST_GROUPS" = some u ∧ RelV (.int 4000) u
  gR : ∃ v u, mg "READINGS" = some u ∧ RelV v u ∧ ∀ T, Rep K T dRead v
  TE : PySem.ErX.ErrT P K C fI cc cda ["at", "why"]
  mC : mg "InvalidText" = some (.ref C)
  kC : PySem.W.keepIn K (.ref C) = true
  sup : mg "super" = none
  xf : XfC K C
  no1 : PySem.W.findIn K (.ref C) "at" = some none
  no2 : PySem.W.findIn K (.ref C) "why" = some none
  exm : PySem.W.exmOne K (.ref C) (.ref C) = some true
theorem gds_strs : ∀ l : List Str, gds (strsD l) = true
  | [] => rfl
  | z :: l => by
    have h := gds_strs l
    unfold strsD at h ⊢
    rw [List.map_cons]
    simp only [gds, gd, h, Bool.and_self]
theorem dpts_strs : ∀ l : List Str, dpts (strsD l) = 0
  | [] => rfl
  | z :: l => by
    have h := dpts_strs l
    unfold strsD at h ⊢
    rw [List.map_cons]
    simp only [dpts, dpt, h, Nat.max_self]
theorem units_ok {k : Nat} {A : Around} (hr : Room k A) : A.units + 64 < cLine := hr.units
theorem ok_law {C fI cc cda fB fT fP fI2 fG fKd fJ fC fGe fE fEr c Pt : Addr} {dB dT dP dI dG dK dJ dC dGe dE dEr : FuncData} {dV kV doc pm ct oc : Value} {an od : Option Addr} {osl : Array (Option Value)}
    (X : Top P K mg C fI cc cda fB fT fP fI2 fG fKd fJ fC fGe fE fEr dB dT dP dI dG dK dJ dC dGe dE dEr)
    (lk : K.lookup f = some ⟨oc, od, .func (PySem.W.fnOf "law" "law" (defArgs sLaw) (defBody sLaw) (defScope sLaw) dV kV doc pm an (.ref c) ct), osl⟩) (hcd : PySem.W.codeIn K (.ref c) "law" = true) (TB : TabB base mg c Pt) :
    FnOk P w K mg base (L2.CX P w) 6 f (PySem.W.fnOf "law" "law" (defArgs sLaw) (defBody sLaw) (defScope sLaw) dV kV doc pm an (.ref c) ct) ["script"] (spD K (ρT [(Pt, qLam)]) 1 FLaw) := by
  have GB : FnOk P w K mg base (L2.CX P w) 5 fB dB ["script"] (spD K (ρT [(Pt, qLam)]) 1 FBox) := ok_box X.box.fn X.enu X.abs X.int
  have GT : FnOk P w K mg base (L2.CX P w) 5 fT dT ["box", "many"] (spD K (ρT [(Pt, qLam)]) 2 FTake) := ok_take X.take.fn X.int
  have GP : FnOk P w K mg base (L2.CX P w) 5 fP dP ["box", "some"] (spD K (ρT [(Pt, qLam)]) 2 FPick) := ok_pick X.pick.fn X.take X.int X.len
  have GI : FnOk P w K mg base (L2.CX P w) 5 fI2 dI ["told", "due"] (spD K (ρT [(Pt, qLam)]) 2 (FIs 1)) := ok_is (k := 3) X.is_ X.isi X.len X.tup X.int X.bool X.str X.zip 1
  have GG : FnOk P w K mg base (L2.CX P w) 5 fG dG ["box"] (spD K (ρT [(Pt, qLam)]) 1 FGroup) := ok_group X.grp.fn X.take X.pick X.int X.len X.rng
  have GJ : FnOk P w K mg base (L2.CX P w) 5 fJ dJ ["box", "groups"] (spD K (ρT [(Pt, qLam)]) 2 FJoin) := ok_join X.join.fn X.take X.pick X.kind X.int X.len
  have GC : FnOk P w K mg base (L2.CX P w) 3 fC dC ["text"] (spD K (ρT [(Pt, qLam)]) 1 (FCut C)) := ok_cut (k := 0) X.cut.fn X.ge X.end_ X.len X.isi X.str X.enu X.tup X.gL X.gF X.gS X.gT X.gG X.TE X.mC X.kC X.sup
  obtain ⟨vR, uR, mR, rR, repR⟩ := X.gR
  obtain ⟨ocE, odE, kVE, docE, pmE, anE, cdE, ctE, oslE, eE, lkE, hcE⟩ := X.err.fn.ex
  have bE := X.err.b
  subst eE
  refine fd_okC lk hcd scLaw fun A outer s H E B xq ok hr hp ds r q hl hF => ?_
  obtain ⟨ns, rfl, hns, rfl, hq⟩ := hF
  -- box = _law_box(script)
  refine hss_cons ?_
  refine hs_set (i := 1) ok rfl (by first | exact .inl rfl | exact .inr rfl) ?_ rfl (by first | exact .inr rfl | exact .inl rfl)
  refine he_call ok GB hr (by rfl) X.box.m X.box.fn.kp X.box.b ?_ (by decide) rfl rfl
  refine ha_cons ?_ ?hs_
  case hs_ => rfl
  refine he_name (i := 0) rfl (by first | exact .inl rfl | exact .inr (.inl rfl) | exact .inr (.inr rfl)) rfl ?_
  refine ha_nil ?_
  refine ⟨rfl, ns, rfl, hns, rfl, fun p r1 hB1 => ?_⟩
  -- for turn in range(8)
  refine hss_cons (hs_for [2] ok hp (hi_range1 (by rfl) X.rng ?_ rfl) (fun _ => rfl))
  refine ha_cons ?_ ?hs_
  case hs_ => rfl
  refine he_int ?_
  refine ha_nil ?_
  refine ⟨8, rfl, by decide, by decide, fun _ Δ' r' => BxP p r' ∧ ∃ o2 o3 o4 o5 o6 : Option SV, Δ' = [some (.val (.rol (ns.map D.int))), some (.val (.ref p)), o2, o3, o4, o5, o6, none, none, none, none, none], ⟨hB1, none, none, none, none, none, rfl⟩, fun i d Δ1 r2 hget hI => ?_, fun Δ1 r2 hI => ?_⟩
  · obtain ⟨hB2, o2, o3, o4, o5, o6, rfl⟩ := hI
    refine hg_name (i := 2) ok rfl (.inl rfl) (by simp) ?_ (.inr rfl)
    refine hss_norm [some (.val (.rol (ns.map D.int))), some (.val (.ref p)), some (.val d), o3, o4, o5, o6, none, none, none, none, none] rfl ?_
    -- groups = [.. for count in range(..)]
    refine hss_cons (hs_setLc (i := 3) (own := [("count", 11)]) ok (blkOk_by (N := nLaw) (sc := defScope sLaw) (by decide +kernel)) (hvs_by rfl) rfl rfl rfl (hi_range1 (by rfl) X.rng ?_ rfl) (fun _ => rfl))
    refine ha_cons ?_ ?hs_
    case hs_ => rfl
    refine he_call ok GT hr (by rfl) X.take.m X.take.fn.kp X.take.b ?_ (by decide) rfl rfl
    refine ha_cons ?_ ?hs_
    case hs_ => rfl
    refine he_name (i := 1) rfl (by first | exact .inl rfl | exact .inr (.inl rfl) | exact .inr (.inr rfl)) rfl ?_
    refine ha_cons ?_ ?hs_
    case hs_ => rfl
    refine he_int ?_
    refine ha_nil ?_
    refine ⟨rfl, p, 12, rfl, by decide, by decide, hB2, fun v r3 hv0 hv1 hB3 => ?_⟩
    refine ha_nil ?_
    refine ⟨v, rfl, by omega, by omega, fun i acc r' => BxP p r' ∧ ∃ gs : List (List Nat), acc = strsD (gs.map FD.strOf) ∧ gs.length = i ∧ ∀ g ∈ gs, Grp g, ⟨hB3, [], rfl, rfl, by simp⟩, fun i d acc r3 hget hI => ?_, fun acc r3 hI => ?_⟩
    · obtain ⟨hB3, gs, rfl, hgl, hgs⟩ := hI
      have hi : i < v.toNat := by
        have h := (List.getElem?_eq_some_iff.mp hget).1
        rw [List.length_map, List.length_range] at h
        exact h
      intro B' s1 H1 C1 cl1 fp1
      refine hg_name (i := 11) ok.blk rfl (.inl rfl) (by simp) ?_ (.inr rfl)
      refine ⟨rfl, fun s1 H1 C1 cl1 fp1 => hts_nil ⟨fun _ s1 H1 C1 cl1 fp1 => ?_, fun z => (nomatch z)⟩⟩
      refine he_call ok.blk GG hr (by rfl) X.grp.m X.grp.fn.kp X.grp.b ?_ (by decide) rfl rfl
      refine ha_cons ?_ ?hs_
      case hs_ => rfl
      refine he_name (i := 1) rfl (by first | exact .inl rfl | exact .inr (.inl rfl) | exact .inr (.inr rfl)) rfl ?_
      refine ha_nil ?_
      refine ⟨rfl, p, rfl, hB3, fun g r4 hg hB4 => ⟨?_, hB4, gs ++ [g], ?_, ?_, ?_⟩⟩
      · rw [strs_len]; exact Nat.lt_of_lt_of_le (show gs.length < 20 by omega) (by decide)
      · unfold strsD; rw [List.map_append, List.map_append]; rfl
      · rw [List.length_append, hgl]; rfl
      · intro g' hg'
        rcases List.mem_append.mp hg' with h | h
        · exact hgs g' h
        · rw [List.mem_singleton.mp h]; exact hg
    obtain ⟨hB3, gs, rfl, hgl, hgs⟩ := hI
    rw [List.length_map, List.length_range] at hgl
    have hg11 : gs.length ≤ 11 := by omega
    refine hss_freeze 3 rfl (hss_norm [some (.val (.rol (ns.map D.int))), some (.val (.ref p)), some (.val d), some (.val (.lst (strsD (gs.map FD.strOf)))), o4, o5, o6, none, none, none, none, none] rfl (hss_cons ?_))
    -- text = _law_joined(box, groups)
    refine hs_set (i := 4) ok rfl (by first | exact .inl rfl | exact .inr rfl) ?_ rfl (by first | exact .inr rfl | exact .inl rfl)
    refine he_call ok GJ hr (by rfl) X.join.m X.join.fn.kp X.join.b ?_ (by decide) rfl rfl
    refine ha_cons ?_ ?hs_
    case hs_ => rfl
    refine he_name (i := 1) rfl (by first | exact .inl rfl | exact .inr (.inl rfl) | exact .inr (.inr rfl)) rfl ?_
    refine ha_cons ?_ ?hs_
    case hs_ => rfl
    refine he_name (i := 3) rfl (by first | exact .inl rfl | exact .inr (.inl rfl) | exact .inr (.inr rfl)) rfl ?_
    refine ha_nil ?_
    refine ⟨rfl, p, gs, rfl, hgs, hg11, hB3, fun t r4 hcut hok hlen hB4 => hss_norm [some (.val (.rol (ns.map D.int))), some (.val (.ref p)), some (.val d), some (.val (.lst (strsD (gs.map FD.strOf)))), some (.val (.str (FD.strOf t))), o5, o6, none, none, none, none, none] rfl (hss_cons (hs_if ?_))⟩
    have hz6 : (FD.strOf t).length ≤ 60000 := by rw [strOf_length]; omega
    have tok : ∀ c ∈ (FD.strOf t).cps.toList, isOk c = true := hok
    have gdG : gd (tupG gs) = true := by unfold tupG; simp only [gd]; exact gds_strs _
    have dpG : dpt (tupG gs) ≤ 1 := by unfold tupG; simp only [dpt, dpts_strs]; decide
    refine ht_of_w (hw_or ?_)
    refine ht_not (ht_val ?_)
    refine he_call ok GI hr (by rfl) X.is_.m X.is_.fn.kp X.is_.b ?_ (by decide) rfl rfl
    refine ha_cons ?_ ?hs_
    case hs_ => rfl
    refine he_call ok GC (hr.mono (by decide)) (by rfl) X.cut.m X.cut.fn.kp X.cut.b ?_ (by decide) rfl rfl
    refine ha_cons ?_ ?hs_
    case hs_ => rfl
    refine he_name (i := 4) rfl (by first | exact .inl rfl | exact .inr (.inl rfl) | exact .inr (.inr rfl)) rfl ?_
    refine ha_nil ?_
    refine ⟨rfl, _, rfl, .told hz6 tok hcut (by omega) ?_⟩
    refine ha_cons ?_ ?hs_
    case hs_ => rfl
    refine he_callTy call_tuple_of (by rfl) X.tup PyProof.Rows.boot_tuple ?_ rfl rfl (by decide) (by decide)
    refine ha_cons ?_ ?hs_
    case hs_ => rfl
    refine he_name (i := 3) rfl (by first | exact .inl rfl | exact .inr (.inl rfl) | exact .inr (.inr rfl)) rfl ?_
    refine ha_nil ?_
    refine ⟨_, oa_tupL, ?_⟩
    refine ha_nil ?_
    refine ⟨rfl, tupG gs, rfl, gdG, dpG, true, rfl, fun _ => hw_or1 (ht_not (ht_val ?_)), fun z => (nomatch z)⟩
    refine he_call ok GI hr (by rfl) X.is_.m X.is_.fn.kp X.is_.b ?_ (by decide) rfl rfl
    refine ha_cons ?_ ?hs_
    case hs_ => rfl
    refine he_call1K ok GC (hr.mono (by decide)) (by rfl) X.cut.m X.cut.fn.kp X.cutK ?_ (by decide) rfl rfl rfl
    refine he_name (i := 4) rfl (by first | exact .inl rfl | exact .inr (.inl rfl) | exact .inr (.inr rfl)) rfl ?_
    refine ⟨_, rfl, .told hz6 tok hcut (by omega) ?_⟩
    refine ha_cons ?_ ?hs_
    case hs_ => rfl
    refine he_callTy call_tuple_of (by rfl) X.tup PyProof.Rows.boot_tuple ?_ rfl rfl (by decide) (by decide)
    refine ha_cons ?_ ?hs_
    case hs_ => rfl
    refine he_name (i := 3) rfl (by first | exact .inl rfl | exact .inr (.inl rfl) | exact .inr (.inr rfl)) rfl ?_
    refine ha_nil ?_
    refine ⟨_, oa_tupL, ?_⟩
    refine ha_nil ?_
    refine ⟨rfl, tupG gs, rfl, gdG, dpG, true, rfl, fun z => (nomatch z), fun _ => hss_nil (hss_cons ?_)⟩
    -- at = _law_take(box, len(text) + 1)
    refine hs_set (i := 5) ok rfl (by first | exact .inl rfl | exact .inr rfl) ?_ rfl (by first | exact .inr rfl | exact .inl rfl)
    refine he_call ok GT hr (by rfl) X.take.m X.take.fn.kp X.take.b ?_ (by decide) rfl rfl
    refine ha_cons ?_ ?hs_
    case hs_ => rfl
    refine he_name (i := 1) rfl (by first | exact .inl rfl | exact .inr (.inl rfl) | exact .inr (.inr rfl)) rfl ?_
    refine ha_cons ?_ ?hs_
    case hs_ => rfl
    refine he_op op_add ?_
    refine he_callB call_len (by rfl) X.len PySem.boot_len ?_ rfl rfl (by decide) (by decide)
    refine ha_cons ?_ ?hs_
    case hs_ => rfl
    refine he_name (i := 4) rfl (by first | exact .inl rfl | exact .inr (.inl rfl) | exact .inr (.inr rfl)) rfl ?_
    refine ha_nil ?_
    refine ⟨_, oa_len (lenS (z := FD.strOf t) (by rw [strOf_length]; exact small_line (by omega))), ?_⟩
    refine he_int ?_
    refine ⟨_, od_i0 (fun _ => .int), ?_⟩
    refine ha_nil ?_
    refine ⟨rfl, p, _, rfl, by omega, by rw [strOf_length]; omega, hB4, fun v r5 hv0 hv1 hB5 => hss_norm [some (.val (.rol (ns.map D.int))), some (.val (.ref p)), some (.val d), some (.val (.lst (strsD (gs.map FD.strOf)))), some (.val (.str (FD.strOf t))), some (.val (.int v)), o6, none, none, none, none, none] rfl (hss_cons ?_)⟩
    obtain ⟨at_, rfl⟩ := Int.eq_ofNat_of_zero_le hv0
    have hat : at_ ≤ t.length := by rw [strOf_length] at hv1; omega
    -- odd = _law_pick(box, [..])
    refine hs_set (i := 6) ok rfl (by first | exact .inl rfl | exact .inr rfl) ?_ rfl (by first | exact .inr rfl | exact .inl rfl)
    refine he_call ok GP hr (by rfl) X.pick.m X.pick.fn.kp X.pick.b ?_ (by decide) star_n pl_l
    refine ha_cons ?_ ?hs_
    case hs_ => rfl
    refine he_name (i := 1) rfl (by first | exact .inl rfl | exact .inr (.inl rfl) | exact .inr (.inr rfl)) rfl ?_
    refine ha_cons ?_ ?hs_
    case hs_ => rfl
    refine he_hf (hf_lst ?_)
    refine ha_cons ?_ ?hs_
    case hs_ => rfl
    refine he_str ?_
    refine ha_cons ?_ ?hs_
    case hs_ => rfl
    refine he_str ?_
    refine ha_cons ?_ ?hs_
    case hs_ => rfl
    refine he_str ?_
    refine ha_cons ?_ ?hs_
    case hs_ => rfl
    refine he_str ?_
    refine ha_cons ?_ ?hs_
    case hs_ => rfl
    refine he_str ?_
    refine ha_cons ?_ ?hs_
    case hs_ => rfl
    refine he_str ?_
    refine ha_cons ?_ ?hs_
    case hs_ => rfl
    refine he_str ?_
    refine ha_cons ?_ ?hs_
    case hs_ => rfl
    refine he_str ?_
    refine ha_cons ?_ ?hs_
    case hs_ => rfl
    refine he_str ?_
    refine ha_cons ?_ ?hs_
    case hs_ => rfl
    refine he_str ?_
    refine ha_cons ?_ ?hs_
    case hs_ => rfl
    refine he_str ?_
    refine ha_cons ?_ ?hs_
    case hs_ => rfl
    refine he_str ?_
    refine ha_nil ?_
    refine ⟨by show 12 ≤ sizeLine; decide, ?_⟩
    refine ha_nil ?_
    refine ⟨rfl, p, _, rfl, hB5, .inr ⟨_, rfl, by decide, by decide, fun e r6 he hB6 => ?_⟩⟩
    obtain ⟨o, rfl, hodd⟩ : ∃ o, e = .str (FD.strOf [o]) ∧ isOk o = false := by
      simp only [List.mem_cons, List.not_mem_nil, or_false] at he
      rcases he with rfl | rfl | rfl | rfl | rfl | rfl | rfl | rfl | rfl | rfl | rfl | rfl
      · exact ⟨65, rfl, by decide +kernel⟩
      · exact ⟨90, rfl, by decide +kernel⟩
      · exact ⟨46, rfl, by decide +kernel⟩
      · exact ⟨58, rfl, by decide +kernel⟩
      · exact ⟨62, rfl, by decide +kernel⟩
      · exact ⟨43, rfl, by decide +kernel⟩
      · exact ⟨33, rfl, by decide +kernel⟩
      · exact ⟨64, rfl, by decide +kernel⟩
      · exact ⟨95, rfl, by decide +kernel⟩
      · exact ⟨9, rfl, by decide +kernel⟩
      · exact ⟨42, rfl, by decide +kernel⟩
      · exact ⟨39, rfl, by decide +kernel⟩
    -- if not _law_is(_law_error(lambda: ..), ..)
    refine hss_norm [some (.val (.rol (ns.map D.int))), some (.val (.ref p)), some (.val d), some (.val (.lst (strsD (gs.map FD.strOf)))), some (.val (.str (FD.strOf t))), some (.val (.int (at_ : Nat))), some (.val (.str (FD.strOf [o]))), none, none, none, none, none] rfl (hss_one (hs_if (ht_not (ht_val ?_))))
    refine he_call ok GI hr (by rfl) X.is_.m X.is_.fn.kp X.is_.b ?_ (by decide) rfl rfl
    refine ha_cons ?_ ?hs_
    case hs_ => rfl
    refine he_err2 (k := 3) ok (by rfl) X.err.m X.err.fn.kp lkE hcE bE scErr rfl (.inl rfl) (err2_gives X.xf X.no1 X.no2 X.exm (by decide) rfl rfl rfl X.mC (by decide) (by decide) (by decide) (fun _ => rfl) (fun _ => rfl) (fun _ => rfl)) TB rfl (List.mem_singleton.mpr rfl) (fun q hq _ => by rw [List.mem_singleton.mp hq]; rfl) hr (lamS_by (sc := defScope sLaw) (by decide +kernel)) rfl (fun _ _ _ _ _ => rfl) (by decide) (by decide) (by decide) fun A2 outer2 s2 H2 E2 f2 c2 B2 x2 okL hrL hx => ?_
    have hline : (FD.strOf t).length ≤ sizeLine := by rw [strOf_length]; exact small_line (by omega)
    refine he_call okL GC hrL (by rfl) X.cut.m X.cut.fn.kp X.cut.b ?_ (by decide) rfl rfl
    refine ha_cons ?_ ?hs_
    case hs_ => rfl
    refine he_op op_add_str ?_
    refine he_op op_add_str ?_
    refine he_op op_add_str ?_
    refine he_slice sl_str ?_
    refine he_name (i := 4) rfl (by first | exact .inl rfl | exact .inr (.inl rfl) | exact .inr (.inr rfl)) rfl ?_
    refine ho_none (ho_some ?_)
    refine he_name (i := 5) rfl (by first | exact .inl rfl | exact .inr (.inl rfl) | exact .inr (.inr rfl)) rfl ?_
    refine ⟨_, rfl, _, os_str hline, ?_⟩
    rw [cutS_to hat]
    refine he_name (i := 6) rfl (by first | exact .inl rfl | exact .inr (.inl rfl) | exact .inr (.inr rfl)) rfl ?_
    refine ⟨_, od_addS (by rw [strOf_length, strOf_length, List.length_take]; exact small_line (by show _ + 1 ≤ 1000; omega)), ?_⟩
    refine he_slice sl_str ?_
    refine he_name (i := 4) rfl (by first | exact .inl rfl | exact .inr (.inl rfl) | exact .inr (.inr rfl)) rfl ?_
    refine ho_some ?_
    refine he_name (i := 5) rfl (by first | exact .inl rfl | exact .inr (.inl rfl) | exact .inr (.inr rfl)) rfl ?_
    refine ⟨_, rfl, ho_none ⟨_, os_str hline, ?_⟩⟩
    rw [cutS_from hat, strOf_append]
    refine ⟨_, od_addS (by rw [strOf_length, strOf_length, List.length_append, List.length_take, List.length_drop]; exact small_line (by show _ + 1 + _ ≤ 1000; omega)), ?_⟩
    rw [strOf_append]
    refine he_name (i := 6) rfl (by first | exact .inl rfl | exact .inr (.inl rfl) | exact .inr (.inr rfl)) rfl ?_
    refine ⟨_, od_addS (by rw [strOf_length, strOf_length, List.length_append, List.length_append, List.length_take, List.length_drop]; exact small_line (by show _ + 1 + _ + 1 ≤ 1000; omega)), ?_⟩
    rw [strOf_append, List.append_assoc (t.take at_ ++ [o])]
    refine ha_nil ?_
    refine ⟨rfl, _, rfl, .bad (i := at_) (c := o) ?_ (bad_at hat) hodd (fun j c hj h => ok_ahead hok hat hj h) (hx _ _ _ ⟨rfl, _, _, rfl, rfl, ?_⟩)⟩
    · rw [strOf_length, List.length_append, List.length_append, List.length_append, List.length_take, List.length_drop]
      show _ + 1 + (_ + 1) ≤ 60000
      omega
    refine ha_cons ?_ ?hs_
    case hs_ => rfl
    refine he_tup ?_
    refine ha_cons ?_ ?hs_
    case hs_ => rfl
    refine he_str ?_
    refine ha_cons ?_ ?hs_
    case hs_ => rfl
    refine he_name (i := 5) rfl (by first | exact .inl rfl | exact .inr (.inl rfl) | exact .inr (.inr rfl)) rfl ?_
    refine ha_cons ?_ ?hs_
    case hs_ => rfl
    refine he_int ?_
    refine ha_nil ?_
    refine ⟨by show 3 ≤ sizeLine; decide, ?_⟩
    refine ha_nil ?_
    refine ⟨rfl, _, rfl, rfl, Nat.le_refl 1, true, rfl, fun z => (nomatch z), fun _ => hss_nil ⟨hB6, _, _, _, _, _, rfl⟩⟩
  · obtain ⟨hB2, o2, o3, o4, o5, o6, rfl⟩ := hI
    -- many = _law_pick(box, [..])
    refine hss_cons ?_
    refine hs_set (i := 7) ok rfl (by first | exact .inl rfl | exact .inr rfl) ?_ rfl (by first | exact .inr rfl | exact .inl rfl)
    refine he_call ok GP hr (by rfl) X.pick.m X.pick.fn.kp X.pick.b ?_ (by decide) rfl rfl
    refine ha_cons ?_ ?hs_
    case hs_ => rfl
    refine he_name (i := 1) rfl (by first | exact .inl rfl | exact .inr (.inl rfl) | exact .inr (.inr rfl)) rfl ?_
    refine ha_cons ?_ ?hs_
    case hs_ => rfl
    refine he_hf (hf_lst ?_)
    refine ha_cons ?_ ?hs_
    case hs_ => rfl
    refine he_int ?_
    refine ha_cons ?_ ?hs_
    case hs_ => rfl
    refine he_int ?_
    refine ha_cons ?_ ?hs_
    case hs_ => rfl
    refine he_int ?_
    refine ha_cons ?_ ?hs_
    case hs_ => rfl
    refine he_int ?_
    refine ha_nil ?_
    refine ⟨by show 4 ≤ sizeLine; decide, ?_⟩
    refine ha_nil ?_
    refine ⟨rfl, p, _, rfl, hB2, .inr ⟨_, rfl, by decide, by decide, fun e r3 he hB3 => ?_⟩⟩
    obtain ⟨n, rfl, hn1, hn2⟩ : ∃ n : Nat, e = .int (n : Int) ∧ 1 ≤ n ∧ n ≤ 5000 := by
      simp only [List.mem_cons, List.not_mem_nil, or_false] at he
      rcases he with rfl | rfl | rfl | rfl
      · exact ⟨3999, rfl, by decide, by decide⟩
      · exact ⟨4000, rfl, by decide, by decide⟩
      · exact ⟨4001, rfl, by decide, by decide⟩
      · exact ⟨5000, rfl, by decide, by decide⟩
    -- rows = "".join([.. for ..])
    refine hss_norm [some (.val (.rol (ns.map D.int))), some (.val (.ref p)), o2, o3, o4, o5, o6, some (.val (.int (n : Int))), none, none, none, none] rfl (hss_cons ?_)
    refine hs_set (i := 8) ok rfl (by first | exact .inl rfl | exact .inr rfl) ?_ rfl (by first | exact .inr rfl | exact .inl rfl)
    refine he_join ?_ rfl rfl rfl
    refine he_str ?_
    refine ⟨_, rfl, he_hf (hf_lc (own := [("count", 11)]) ok (blkOk_by (N := nLaw) (sc := defScope sLaw) (by decide +kernel)) (hvs_by rfl) (hi_range1 (by rfl) X.rng ?_ rfl) (fun _ => rfl))⟩
    refine ha_cons ?_ ?hs_
    case hs_ => rfl
    refine he_name (i := 7) rfl (by first | exact .inl rfl | exact .inr (.inl rfl) | exact .inr (.inr rfl)) rfl ?_
    refine ha_nil ?_
    refine ⟨n, rfl, by omega, by omega, fun i acc r' => BxP p r' ∧ acc = (List.replicate i 40).map (fun c => D.str ⟨#[c]⟩), ⟨hB3, rfl⟩, fun i d acc r4 hget hI => ?_, fun acc r4 hI => ?_⟩
    · obtain ⟨hB4, rfl⟩ := hI
      have hi : i < n := by
        have h := (List.getElem?_eq_some_iff.mp hget).1
        rw [List.length_map, List.length_range] at h
        omega
      intro B' s1 H1 C1 cl1 fp1
      refine hg_name (i := 11) ok.blk rfl (.inl rfl) (by simp) ?_ (.inr rfl)
      refine ⟨rfl, fun s1 H1 C1 cl1 fp1 => hts_nil ⟨fun _ s1 H1 C1 cl1 fp1 => ?_, fun z => (nomatch z)⟩⟩
      refine he_str ?_
      refine ⟨?_, hB4, ?_⟩
      · rw [List.length_map, List.length_replicate]; exact Nat.lt_of_lt_of_le (show i < 6000 by omega) (by decide)
      · rw [List.replicate_succ', List.map_append]; rfl
    obtain ⟨hB4, rfl⟩ := hI
    have hlen : ((List.range (Int.toNat (n : Int))).map fun k : Nat => D.int (0 + (k : Int))).length = n := by rw [List.length_map, List.length_range, Int.toNat_natCast]
    rw [hlen]
    refine ⟨(List.replicate n 40).map fun c => FD.strOf [c], .inl (by rw [strs_signs]), ?_, ?_⟩
    · rw [sum_signs, List.length_replicate]
      have h0 : (Str.ofString "").length = 0 := by decide +kernel
      rw [h0, Nat.mul_zero]
      omega
    rw [join_signs]
    have okS : ∀ m : Nat, ∀ c ∈ List.replicate m 40, isOk c = true := fun m c hc => by
      rw [(List.mem_replicate.mp hc).2]; decide +kernel
    have hlr : (FD.strOf (List.replicate n 40)).length = n := by rw [strOf_length, List.length_replicate]
    -- the first of three
    refine hss_norm [some (.val (.rol (ns.map D.int))), some (.val (.ref p)), o2, o3, o4, o5, o6, some (.val (.int (n : Int))), some (.val (.str (FD.strOf (List.replicate n 40)))), none, none, none] rfl (hss_mid (fun Δ' r' => Δ' = [some (.val (.rol (ns.map D.int))), some (.val (.ref p)), o2, o3, o4, o5, o6, some (.val (.int (n : Int))), some (.val (.str (FD.strOf (List.replicate n 40)))), none, none, none] ∧ BxP p r') (hs_if (ht_not (ht_val ?_))) fun Δ' r' hM => ?_)
    · refine he_call ok GI hr (by rfl) X.is_.m X.is_.fn.kp X.is_.b ?_ (by decide) rfl rfl
      refine ha_cons ?_ ?hs_
      case hs_ => rfl
      refine he_err2 (k := 3) ok (by rfl) X.err.m X.err.fn.kp lkE hcE bE scErr rfl (.inl rfl) (err2_gives X.xf X.no1 X.no2 X.exm (by decide) rfl rfl rfl X.mC (by decide) (by decide) (by decide) (fun _ => rfl) (fun _ => rfl) (fun _ => rfl)) TB rfl (List.mem_singleton.mpr rfl) (fun q hq _ => by rw [List.mem_singleton.mp hq]; rfl) hr (lamS_by (sc := defScope sLaw) (by decide +kernel)) rfl (fun _ _ _ _ _ => rfl) (by decide) (by decide) (by decide) fun A2 outer2 s2 H2 E2 f2 c2 B2 x2 okL hrL hx => ?_
      refine he_call okL GC hrL (by rfl) X.cut.m X.cut.fn.kp X.cut.b ?_ (by decide) rfl rfl
      refine ha_cons ?_ ?hs_
      case hs_ => rfl
      refine he_name (i := 8) rfl (by first | exact .inl rfl | exact .inr (.inl rfl) | exact .inr (.inr rfl)) rfl ?_
      refine ha_nil ?_
      have hn4 : n ≤ 4000 ∨ 4000 < n := by omega
      refine ⟨rfl, _, rfl, ?_⟩
      rcases hn4 with hn4 | hn4
      · refine .told (by rw [hlr]; omega) (okS n) (cuts_sigs n) (by rw [List.length_replicate]; exact hn4) ?_
        refine ha_cons ?_ ?hs_
        case hs_ => rfl
        refine he_if ?_
        refine ht_cmp op_le rfl ?_
        refine he_name (i := 7) rfl (by first | exact .inl rfl | exact .inr (.inl rfl) | exact .inr (.inr rfl)) rfl ?_
        refine he_int ?_
        refine ⟨_, od_i0 (fun _ => .bl), fun _ => he_tup ?_, fun z => absurd (show (n : Int) ≤ 4000 by omega) (d_f z)⟩
        refine ha_cons ?_ ?hs_
        case hs_ => rfl
        refine he_str ?_
        refine ha_nil ?_
        refine ⟨by show 1 ≤ sizeLine; decide, ?_⟩
        refine ha_nil ?_
        exact ⟨rfl, _, rfl, rfl, Nat.le_refl 1, true, rfl, fun z => (nomatch z), fun _ => hss_nil ⟨rfl, hB4⟩⟩
      · refine .many (by rw [hlr]; omega) (okS n) (cuts_sigs n) (by rw [List.length_replicate]; exact hn4) (hx _ _ _ ⟨rfl, _, _, rfl, rfl, ?_⟩)
        refine ha_cons ?_ ?hs_
        case hs_ => rfl
        refine he_if ?_
        refine ht_cmp op_le rfl ?_
        refine he_name (i := 7) rfl (by first | exact .inl rfl | exact .inr (.inl rfl) | exact .inr (.inr rfl)) rfl ?_
        refine he_int ?_
        refine ⟨_, od_i0 (fun _ => .bl), fun z => absurd (d_t z) (show ¬ (n : Int) ≤ 4000 by omega), fun _ => he_tup ?_⟩
        refine ha_cons ?_ ?hs_
        case hs_ => rfl
        refine he_str ?_
        refine ha_cons ?_ ?hs_
        case hs_ => rfl
        refine he_un un_neg ?_
        refine he_int ?_
        refine ⟨_, od1_neg, ?_⟩
        refine ha_cons ?_ ?hs_
        case hs_ => rfl
        refine he_int ?_
        refine ha_nil ?_
        refine ⟨by show 3 ≤ sizeLine; decide, ?_⟩
        refine ha_nil ?_
        exact ⟨rfl, _, rfl, rfl, Nat.le_refl 1, true, rfl, fun z => (nomatch z), fun _ => hss_nil ⟨rfl, hB4⟩⟩
    obtain ⟨rfl, hB5⟩ := hM
    -- the second
    refine hss_cons (hs_if (ht_not (ht_val ?_)))
    refine he_call ok GI hr (by rfl) X.is_.m X.is_.fn.kp X.is_.b ?_ (by decide) rfl rfl
    refine ha_cons ?_ ?hs_
    case hs_ => rfl
    refine he_err2 (k := 3) ok (by rfl) X.err.m X.err.fn.kp lkE hcE bE scErr rfl (.inl rfl) (err2_gives X.xf X.no1 X.no2 X.exm (by decide) rfl rfl rfl X.mC (by decide) (by decide) (by decide) (fun _ => rfl) (fun _ => rfl) (fun _ => rfl)) TB rfl (List.mem_singleton.mpr rfl) (fun q hq _ => by rw [List.mem_singleton.mp hq]; rfl) hr (lamS_by (sc := defScope sLaw) (by decide +kernel)) rfl (fun _ _ _ _ _ => rfl) (by decide) (by decide) (by decide) fun A2 outer2 s2 H2 E2 f2 c2 B2 x2 okL hrL hx => ?_
    refine he_call okL GC hrL (by rfl) X.cut.m X.cut.fn.kp X.cut.b ?_ (by decide) rfl rfl
    refine ha_cons ?_ ?hs_
    case hs_ => rfl
    refine he_op op_add_str ?_
    refine he_name (i := 8) rfl (by first | exact .inl rfl | exact .inr (.inl rfl) | exact .inr (.inr rfl)) rfl ?_
    refine he_str ?_
    refine ⟨_, od_addS (j := FD.strOf [33]) (by rw [hlr]; exact Nat.le_trans (show n + 1 ≤ 6000 by omega) (by decide)), ?_⟩
    rw [strOf_append]
    refine ha_nil ?_
    refine ⟨rfl, _, rfl, .bad (i := n) (c := 33) ?_ ?_ (by decide +kernel) ?_ (hx _ _ _ ⟨rfl, _, _, rfl, rfl, ?_⟩)⟩
    · rw [strOf_length, List.length_append, List.length_replicate]; show n + 1 ≤ 60000; omega
    · show (List.replicate n 40 ++ [33])[n]? = some 33
      rw [List.getElem?_append_right (by rw [List.length_replicate]; exact Nat.le_refl _), List.length_replicate, Nat.sub_self]
      rfl
    · intro j c hj h
      have h : (List.replicate n 40 ++ [33])[j]? = some c := h
      rw [List.getElem?_append_left (by rw [List.length_replicate]; exact hj)] at h
      exact okS n c (List.mem_of_getElem? h)
    refine ha_cons ?_ ?hs_
    case hs_ => rfl
    refine he_tup ?_
    refine ha_cons ?_ ?hs_
    case hs_ => rfl
    refine he_str ?_
    refine ha_cons ?_ ?hs_
    case hs_ => rfl
    refine he_name (i := 7) rfl (by first | exact .inl rfl | exact .inr (.inl rfl) | exact .inr (.inr rfl)) rfl ?_
    refine ha_cons ?_ ?hs_
    case hs_ => rfl
    refine he_int ?_
    refine ha_nil ?_
    refine ⟨by show 3 ≤ sizeLine; decide, ?_⟩
    refine ha_nil ?_
    refine ⟨rfl, _, rfl, rfl, Nat.le_refl 1, true, rfl, fun z => (nomatch z), fun _ => hss_nil (hss_cons ?_)⟩
    -- long = 59999 + _law_take(box, 3)
    refine hs_set (i := 9) ok rfl (by first | exact .inl rfl | exact .inr rfl) ?_ rfl (by first | exact .inr rfl | exact .inl rfl)
    refine he_op op_add ?_
    refine he_int ?_
    refine he_call ok GT hr (by rfl) X.take.m X.take.fn.kp X.take.b ?_ (by decide) rfl rfl
    refine ha_cons ?_ ?hs_
    case hs_ => rfl
    refine he_name (i := 1) rfl (by first | exact .inl rfl | exact .inr (.inl rfl) | exact .inr (.inr rfl)) rfl ?_
    refine ha_cons ?_ ?hs_
    case hs_ => rfl
    refine he_int ?_
    refine ha_nil ?_
    refine ⟨rfl, p, 3, rfl, by decide, by decide, hB5, fun v r6 hv0 hv1 hB6 => ⟨_, od_i0 (fun _ => .int), ?_⟩⟩
    obtain ⟨m, rfl⟩ := Int.eq_ofNat_of_zero_le hv0
    have em : (59999 : Int) + (m : Int) = ((59999 + m : Nat) : Int) := by omega
    generalize hl9 : 59999 + m = l at em
    rw [em]
    have hl1 : 59999 ≤ l ∧ l ≤ 60001 := by omega
    refine hss_norm [some (.val (.rol (ns.map D.int))), some (.val (.ref p)), o2, o3, o4, o5, o6, some (.val (.int (n : Int))), some (.val (.str (FD.strOf (List.replicate n 40)))), some (.val (.int (l : Int))), none, none] rfl (hss_mid (fun Δ' r' => Δ' = [some (.val (.rol (ns.map D.int))), some (.val (.ref p)), o2, o3, o4, o5, o6, some (.val (.int (n : Int))), some (.val (.str (FD.strOf (List.replicate n 40)))), some (.val (.int (l : Int))), none, none] ∧ BxP p r') (hs_if (ht_not (ht_val ?_))) fun Δ' r' hM => ?_)
    · refine he_call ok GI hr (by rfl) X.is_.m X.is_.fn.kp X.is_.b ?_ (by decide) rfl rfl
      refine ha_cons ?_ ?hs_
      case hs_ => rfl
      refine he_err2 (k := 3) ok (by rfl) X.err.m X.err.fn.kp lkE hcE bE scErr rfl (.inl rfl) (err2_gives X.xf X.no1 X.no2 X.exm (by decide) rfl rfl rfl X.mC (by decide) (by decide) (by decide) (fun _ => rfl) (fun _ => rfl) (fun _ => rfl)) TB rfl (List.mem_singleton.mpr rfl) (fun q hq _ => by rw [List.mem_singleton.mp hq]; rfl) hr (lamS_by (sc := defScope sLaw) (by decide +kernel)) rfl (fun _ _ _ _ _ => rfl) (by decide) (by decide) (by decide) fun A2 outer2 s2 H2 E2 f2 c2 B2 x2 okL hrL hx => ?_
      refine he_call okL GC hrL (by rfl) X.cut.m X.cut.fn.kp X.cut.b ?_ (by decide) rfl rfl
      refine ha_cons ?_ ?hs_
      case hs_ => rfl
      refine he_op op_mulC ?_
      refine he_str ?_
      refine he_name (i := 9) rfl (by first | exact .inl rfl | exact .inr (.inl rfl) | exact .inr (.inr rfl)) rfl ?_
      have hls : l ≤ sizeLine := Nat.le_trans hl1.2 (by decide)
      refine ⟨_, od_mulC (c := 97) (n := l) (by omega) hls, ?_⟩
      refine ha_nil ?_
      have hll : (FD.strOf (List.replicate l 97)).length = l := by rw [strOf_length, List.length_replicate]
      refine ⟨rfl, _, rfl, ?_⟩
      show CutR C _ _ (.str (FD.strOf (List.replicate l 97)))
      have hl6 : l ≤ 60000 ∨ 60000 < l := by omega
      rcases hl6 with hl6 | hl6
      · refine .told (by rw [hll]; exact hl6) (fun c hc => ?_) (cuts_long (by omega)) (by show 1 ≤ 4000; decide) ?_
        · have hc : c ∈ List.replicate l 97 := hc
          rw [(List.mem_replicate.mp hc).2]; decide +kernel
        refine ha_cons ?_ ?hs_
        case hs_ => rfl
        refine he_if ?_
        refine ht_cmp op_le rfl ?_
        refine he_name (i := 9) rfl (by first | exact .inl rfl | exact .inr (.inl rfl) | exact .inr (.inr rfl)) rfl ?_
        refine he_int ?_
        refine ⟨_, od_i0 (fun _ => .bl), fun _ => he_tup ?_, fun z => absurd (show (l : Int) ≤ 60000 by omega) (d_f z)⟩
        refine ha_cons ?_ ?hs_
        case hs_ => rfl
        refine he_str ?_
        refine ha_nil ?_
        refine ⟨by show 1 ≤ sizeLine; decide, ?_⟩
        refine ha_nil ?_
        exact ⟨rfl, _, rfl, rfl, Nat.le_refl 1, true, rfl, fun z => (nomatch z), fun _ => hss_nil ⟨rfl, hB6⟩⟩
      · refine .long (by rw [hll]; exact hls) (by rw [hll]; exact hl6) (hx _ _ _ ⟨rfl, _, _, rfl, rfl, ?_⟩)
        refine ha_cons ?_ ?hs_
        case hs_ => rfl
        refine he_if ?_
        refine ht_cmp op_le rfl ?_
        refine he_name (i := 9) rfl (by first | exact .inl rfl | exact .inr (.inl rfl) | exact .inr (.inr rfl)) rfl ?_
        refine he_int ?_
        refine ⟨_, od_i0 (fun _ => .bl), fun z => absurd (d_t z) (show ¬ (l : Int) ≤ 60000 by omega), fun _ => he_tup ?_⟩
        refine ha_cons ?_ ?hs_
        case hs_ => rfl
        refine he_str ?_
        refine ha_cons ?_ ?hs_
        case hs_ => rfl
        refine he_un un_neg ?_
        refine he_int ?_
        refine ⟨_, od1_neg, ?_⟩
        refine ha_cons ?_ ?hs_
        case hs_ => rfl
        refine he_int ?_
        refine ha_nil ?_
        refine ⟨by show 3 ≤ sizeLine; decide, ?_⟩
        refine ha_nil ?_
        exact ⟨rfl, _, rfl, rfl, Nat.le_refl 1, true, rfl, fun z => (nomatch z), fun _ => hss_nil ⟨rfl, hB6⟩⟩
    obtain ⟨rfl, hB7⟩ := hM
    -- for value in [..]
    refine hss_cons (hs_for [10] ok hp (hi_list (he_hf (hf_lst ?_))) (fun _ => rfl))
    refine ha_cons ?_ ?hs_
    case hs_ => rfl
    refine he_non ?_
    refine ha_cons ?_ ?hs_
    case hs_ => rfl
    refine he_int ?_
    refine ha_cons ?_ ?hs_
    case hs_ => rfl
    refine he_bl ?_
    refine ha_cons ?_ ?hs_
    case hs_ => rfl
    refine he_tup ?_
    refine ha_cons ?_ ?hs_
    case hs_ => rfl
    refine he_str ?_
    refine ha_nil ?_
    refine ⟨by show 1 ≤ sizeLine; decide, ?_⟩
    refine ha_cons ?_ ?hs_
    case hs_ => rfl
    refine he_hf (hf_lst ?_)
    refine ha_cons ?_ ?hs_
    case hs_ => rfl
    refine he_str ?_
    refine ha_nil ?_
    refine ⟨by show 1 ≤ sizeLine; decide, ?_⟩
    refine ha_cons ?_ ?hs_
    case hs_ => rfl
    refine he_tup ?_
    refine ha_nil ?_
    refine ⟨Nat.zero_le _, ?_⟩
    refine ha_nil ?_
    refine ⟨by show 6 ≤ sizeLine; decide, _, rfl, fun i Δ' r' => BxP p r' ∧ ∃ o : Option SV, Δ' = [some (.val (.rol (ns.map D.int))), some (.val (.ref p)), o2, o3, o4, o5, o6, some (.val (.int (n : Int))), some (.val (.str (FD.strOf (List.replicate n 40)))), some (.val (.int (l : Int))), o, none], ⟨hB7, none, rfl⟩, fun i d Δ1 r8 hget hI => ?_, fun Δ1 r8 hI => ?_⟩
    · obtain ⟨hB8, o, rfl⟩ := hI
      have hd : isDat d = true ∧ ∀ z, d ≠ .str z := by
        have hm := List.mem_of_getElem? hget
        simp only [List.mem_cons, List.not_mem_nil, or_false] at hm
        rcases hm with rfl | rfl | rfl | rfl | rfl | rfl <;> exact ⟨rfl, fun z e => nomatch e⟩
      refine hg_name (i := 10) ok rfl (.inr rfl) (by simp) ?_ (.inl rfl)
      refine hss_norm [some (.val (.rol (ns.map D.int))), some (.val (.ref p)), o2, o3, o4, o5, o6, some (.val (.int (n : Int))), some (.val (.str (FD.strOf (List.replicate n 40)))), some (.val (.int (l : Int))), some (.val d), none] rfl (hss_one (hs_if (ht_not (ht_val ?_))))
      refine he_call ok GI hr (by rfl) X.is_.m X.is_.fn.kp X.is_.b ?_ (by decide) rfl rfl
      refine ha_cons ?_ ?hs_
      case hs_ => rfl
      refine he_err2 (k := 3) ok (by rfl) X.err.m X.err.fn.kp lkE hcE bE scErr rfl (.inl rfl) (err2_gives X.xf X.no1 X.no2 X.exm (by decide) rfl rfl rfl X.mC (by decide) (by decide) (by decide) (fun _ => rfl) (fun _ => rfl) (fun _ => rfl)) TB rfl (List.mem_singleton.mpr rfl) (fun q hq _ => by rw [List.mem_singleton.mp hq]; rfl) hr (lamS_by (sc := defScope sLaw) (by decide +kernel)) rfl (fun _ _ _ _ _ => rfl) (by decide) (by decide) (by decide) fun A2 outer2 s2 H2 E2 f2 c2 B2 x2 okL hrL hx => ?_
      refine he_call okL GC hrL (by rfl) X.cut.m X.cut.fn.kp X.cut.b ?_ (by decide) rfl rfl
      refine ha_cons ?_ ?hs_
      case hs_ => rfl
      refine he_name (i := 10) rfl (by first | exact .inl rfl | exact .inr (.inl rfl) | exact .inr (.inr rfl)) rfl ?_
      refine ha_nil ?_
      refine ⟨rfl, _, rfl, .odd hd.1 hd.2 (hx _ _ _ ⟨rfl, _, _, rfl, rfl, ?_⟩)⟩
      refine ha_cons ?_ ?hs_
      case hs_ => rfl
      refine he_tup ?_
      refine ha_cons ?_ ?hs_
      case hs_ => rfl
      refine he_str ?_
      refine ha_cons ?_ ?hs_
      case hs_ => rfl
      refine he_un un_neg ?_
      refine he_int ?_
      refine ⟨_, od1_neg, ?_⟩
      refine ha_cons ?_ ?hs_
      case hs_ => rfl
      refine he_int ?_
      refine ha_nil ?_
      refine ⟨by show 3 ≤ sizeLine; decide, ?_⟩
      refine ha_nil ?_
      exact ⟨rfl, _, rfl, rfl, Nat.le_refl 1, true, rfl, fun z => (nomatch z), fun _ => hss_nil ⟨hB8, _, rfl⟩⟩
    obtain ⟨hB8, o, rfl⟩ := hI
    -- return _law_is(READINGS, (..))
    refine hss_one ?_
    refine hs_ret ?_
    refine he_call ok GI hr (by rfl) X.is_.m X.is_.fn.kp X.is_.b ?_ (by decide) rfl rfl
    refine ha_cons ?_ ?hs_
    case hs_ => rfl
    refine he_glob (by rfl) mR rR repR ?_
    refine ha_cons ?_ ?hs_
    case hs_ => rfl
    refine he_tup ?_
    refine ha_cons ?_ ?hs_
    case hs_ => rfl
    refine he_str ?_
    refine ha_cons ?_ ?hs_
    case hs_ => rfl
    refine he_str ?_
    refine ha_cons ?_ ?hs_
    case hs_ => rfl
    refine he_str ?_
    refine ha_cons ?_ ?hs_
    case hs_ => rfl
    refine he_str ?_
    refine ha_cons ?_ ?hs_
    case hs_ => rfl
    refine he_str ?_
    refine ha_cons ?_ ?hs_
    case hs_ => rfl
    refine he_str ?_
    refine ha_cons ?_ ?hs_
    case hs_ => rfl
    refine he_str ?_
    refine ha_nil ?_
    refine ⟨by show 7 ≤ sizeLine; decide, ?_⟩
    refine ha_nil ?_
    exact ⟨rfl, dRead, rfl, gds_strs _, by show dpts _ + 1 ≤ 1; rw [dpts_strs]; exact Nat.le_refl _, hq _⟩
end
end K02
set_option Elab.async false
set_option linter.all false
set_option maxRecDepth 100000
set_option maxHeartbeats 8000000
namespace K02
open PySem PySem.Spec PyProof.Rows L2 FD LamX
/-! ### what the top has written -/
def iPs : List (Str × Pos) := [("self", ⟨6, 17, 6, 21⟩), ("at", ⟨6, 23, 6, 25⟩), ("why", ⟨6, 27, 6, 30⟩)]
def iSu : PySem.ErX.SuperAt := ⟨"wrong: a text", 0, ⟨7, 8, 7, 13⟩, ⟨7, 8, 7, 15⟩, ⟨7, 8, 7, 24⟩, ⟨7, 25, 7, 40⟩, ⟨7, 8, 7, 41⟩, ⟨7, 8, 7, 41⟩⟩
def iZs : List PySem.ErX.StoreAt := [⟨"at", ⟨8, 8, 8, 12⟩, ⟨8, 8, 8, 15⟩, ⟨8, 18, 8, 20⟩, ⟨8, 8, 8, 20⟩⟩, ⟨"why", ⟨9, 8, 9, 12⟩, ⟨9, 8, 9, 16⟩, ⟨9, 19, 9, 22⟩, ⟨9, 8, 9, 22⟩⟩]
set_option pp.maxSteps 600 in
theorem all_mk {w : World} {K : PySem.W.Frag} {h : Heap} {mg : Str → Option Value} {fa : Addr} (X : K.In h) (G : h.Ns mainGlobals mg) (hfa : mg "law" = some (.ref fa)) (own : OwnTab K fa h)
    {f0 f1 f2 f3 f4 f5 f6 f7 f8 f9 f10 fl c Pt aR C Db fI cc cda N ND : Addr} {oc0 kV0 dc0 pm0 cd0 ct0 oc1 kV1 dc1 pm1 cd1 ct1 oc2 kV2 dc2 pm2 cd2 ct2 oc3 kV3 dc3 pm3 cd3 ct3 oc4 kV4 dc4 pm4 cd4 ct4 oc5 kV5 dc5 pm5 cd5 ct5 oc6 kV6 dc6 pm6 cd6 ct6 oc7 kV7 dc7 pm7 cd7 ct7 oc8 kV8 dc8 pm8 cd8 ct8 oc9 kV9 dc9 pm9 cd9 ct9 oc10 kV10 dc10 pm10 cd10 ct10 ocL kVL dcL pmL ctL ec ocI dcI pmI ctI ccl clc : Value}
    {od0 an0 od1 an1 od2 an2 od3 an3 od4 an4 od5 an5 od6 an6 od7 an7 od8 an8 od9 an9 od10 an10 odL anL ddc ddR dd ddD odI anI cdd cldc : Option Addr} {sl0 sl1 sl2 sl3 sl4 sl5 sl6 sl7 sl8 sl9 sl10 slL slc slR slI ccs cslc : Array (Option Value)} {vc vI : Array Value}
    {tgL tgF tgS tgT tgG tfI r0 r1 r2 r3 r4 r5 r6 : Tok} {nR : Nat} {nm qn nmD qD s18 : Str} {bs sub bsD subD : List Value} {sn snD : List Str} {ab abD hdD b9 : Bool} {col colD : Option Bool} {m0 m1 m2 m3 m5 d0 d1 d2 d3 d5 : Option Value} {i7 i10 : Int} {t18 t7 t10 : Tok}
    (a0 : PySem.W.nsIn K mainGlobals "_law_box" = some (some (.ref f0)))
    (l0 : K.lookup f0 = some ⟨oc0, od0, .func (PySem.W.fnOf "_law_box" "_law_box" (defArgs sBox) (defBody sBox) (defScope sBox) .none kV0 dc0 pm0 an0 cd0 ct0), sl0⟩)
    (c0 : PySem.W.codeIn K cd0 "_law_box" = true)
    (k0 : PySem.W.keepIn K (.ref f0) = true)
    (a1 : PySem.W.nsIn K mainGlobals "_law_take" = some (some (.ref f1)))
    (l1 : K.lookup f1 = some ⟨oc1, od1, .func (PySem.W.fnOf "_law_take" "_law_take" (defArgs sTake) (defBody sTake) (defScope sTake) .none kV1 dc1 pm1 an1 cd1 ct1), sl1⟩)
    (c1 : PySem.W.codeIn K cd1 "_law_take" = true)
    (k1 : PySem.W.keepIn K (.ref f1) = true)
    (a2 : PySem.W.nsIn K mainGlobals "_law_pick" = some (some (.ref f2)))
    (l2 : K.lookup f2 = some ⟨oc2, od2, .func (PySem.W.fnOf "_law_pick" "_law_pick" (defArgs sPick) (defBody sPick) (defScope sPick) .none kV2 dc2 pm2 an2 cd2 ct2), sl2⟩)
    (c2 : PySem.W.codeIn K cd2 "_law_pick" = true)
    (k2 : PySem.W.keepIn K (.ref f2) = true)
    (a3 : PySem.W.nsIn K mainGlobals "_law_is" = some (some (.ref f3)))
    (l3 : K.lookup f3 = some ⟨oc3, od3, .func (PySem.W.fnOf "_law_is" "_law_is" (defArgs sIs) (defBody sIs) (defScope sIs) .none kV3 dc3 pm3 an3 cd3 ct3), sl3⟩)
    (c3 : PySem.W.codeIn K cd3 "_law_is" = true)
    (k3 : PySem.W.keepIn K (.ref f3) = true)
    (a4 : PySem.W.nsIn K mainGlobals "_law_group" = some (some (.ref f4)))
    (l4 : K.lookup f4 = some ⟨oc4, od4, .func (PySem.W.fnOf "_law_group" "_law_group" (defArgs sGroup) (defBody sGroup) (defScope sGroup) .none kV4 dc4 pm4 an4 cd4 ct4), sl4⟩)
    (c4 : PySem.W.codeIn K cd4 "_law_group" = true)
    (k4 : PySem.W.keepIn K (.ref f4) = true)
    (a5 : PySem.W.nsIn K mainGlobals "_law_kind" = some (some (.ref f5)))
    (l5 : K.lookup f5 = some ⟨oc5, od5, .func (PySem.W.fnOf "_law_kind" "_law_kind" (defArgs sKind) (defBody sKind) (defScope sKind) .none kV5 dc5 pm5 an5 cd5 ct5), sl5⟩)
    (c5 : PySem.W.codeIn K cd5 "_law_kind" = true)
    (k5 : PySem.W.keepIn K (.ref f5) = true)
    (a6 : PySem.W.nsIn K mainGlobals "_law_joined" = some (some (.ref f6)))
    (l6 : K.lookup f6 = some ⟨oc6, od6, .func (PySem.W.fnOf "_law_joined" "_law_joined" (defArgs sJoin) (defBody sJoin) (defScope sJoin) .none kV6 dc6 pm6 an6 cd6 ct6), sl6⟩)
    (c6 : PySem.W.codeIn K cd6 "_law_joined" = true)
    (k6 : PySem.W.keepIn K (.ref f6) = true)
    (a7 : PySem.W.nsIn K mainGlobals "cut_groups" = some (some (.ref f7)))
    (l7 : K.lookup f7 = some ⟨oc7, od7, .func (PySem.W.fnOf "cut_groups" "cut_groups" (defArgs sCut) (defBody sCut) (defScope sCut) .none kV7 dc7 pm7 an7 cd7 ct7), sl7⟩)
    (c7 : PySem.W.codeIn K cd7 "cut_groups" = true)
    (k7 : PySem.W.keepIn K (.ref f7) = true)
    (a8 : PySem.W.nsIn K mainGlobals "group_end" = some (some (.ref f8)))
    (l8 : K.lookup f8 = some ⟨oc8, od8, .func (PySem.W.fnOf "group_end" "group_end" (defArgs sGe) (defBody sGe) (defScope sGe) .none kV8 dc8 pm8 an8 cd8 ct8), sl8⟩)
    (c8 : PySem.W.codeIn K cd8 "group_end" = true)
    (k8 : PySem.W.keepIn K (.ref f8) = true)
    (a9 : PySem.W.nsIn K mainGlobals "end_of" = some (some (.ref f9)))
    (l9 : K.lookup f9 = some ⟨oc9, od9, .func (PySem.W.fnOf "end_of" "end_of" (defArgs sEnd) (defBody sEnd) (defScope sEnd) .none kV9 dc9 pm9 an9 cd9 ct9), sl9⟩)
    (c9 : PySem.W.codeIn K cd9 "end_of" = true)
    (k9 : PySem.W.keepIn K (.ref f9) = true)
    (a10 : PySem.W.nsIn K mainGlobals "_law_error" = some (some (.ref f10)))
    (l10 : K.lookup f10 = some ⟨oc10, od10, .func (PySem.W.fnOf "_law_error" "_law_error" (defArgs sErr) (defBody sErr) (defScope sErr) .none kV10 dc10 pm10 an10 cd10 ct10), sl10⟩)
    (c10 : PySem.W.codeIn K cd10 "_law_error" = true)
    (k10 : PySem.W.keepIn K (.ref f10) = true)
    (aL : PySem.W.nsIn K mainGlobals "law" = some (some (.ref fl)))
    (lL : K.lookup fl = some ⟨ocL, odL, .func (PySem.W.fnOf "law" "law" (defArgs sLaw) (defBody sLaw) (defScope sLaw) .none kVL dcL pmL anL (.ref c) ctL), slL⟩)
    (cL : PySem.W.codeIn K (.ref c) "law" = true)
    (lc : K.lookup c = some ⟨ec, ddc, .fields vc, slc⟩)
    (hP : vc[11]? = some (.ref Pt))
    (he : ec = .type "code")
    (v11 : vc.getD 11 .none = .ref Pt)
    (v18 : vc.getD 18 .none = .str s18 t18)
    (v7 : vc.getD 7 .none = .int i7 t7)
    (v9 : vc.getD 9 .none = .bool b9)
    (v10 : vc.getD 10 .none = .int i10 t10)
    (ne : c ≠ Pt)
    (nP : K.lookup Pt = none)
    (z_len : PySem.W.nsIn K mainGlobals "len" = some none)
    (z_isi : PySem.W.nsIn K mainGlobals "isinstance" = some none)
    (z_str : PySem.W.nsIn K mainGlobals "str" = some none)
    (z_enu : PySem.W.nsIn K mainGlobals "enumerate" = some none)
    (z_tup : PySem.W.nsIn K mainGlobals "tuple" = some none)
    (z_abs : PySem.W.nsIn K mainGlobals "abs" = some none)
    (z_int : PySem.W.nsIn K mainGlobals "int" = some none)
    (z_bool : PySem.W.nsIn K mainGlobals "bool" = some none)
    (z_zip : PySem.W.nsIn K mainGlobals "zip" = some none)
    (z_rng : PySem.W.nsIn K mainGlobals "range" = some none)
    (z_sup : PySem.W.nsIn K mainGlobals "super" = some none)
    (gL : PySem.W.nsIn K mainGlobals "LETTERS" = some (some (.str tLet tgL)))
    (gF : PySem.W.nsIn K mainGlobals "FIGURES" = some (some (.str tFig tgF)))
    (gS : PySem.W.nsIn K mainGlobals "SIGNS" = some (some (.str tSig tgS)))
    (gT : PySem.W.nsIn K mainGlobals "MOST_TEXT" = some (some (.int 60000 tgT)))
    (gG : PySem.W.nsIn K mainGlobals "MOST_GROUPS" = some (some (.int 4000 tgG)))
    (gR : PySem.W.nsIn K mainGlobals "READINGS" = some (some (.ref aR)))
    (lR : K.lookup aR = some ⟨.type "tuple", ddR, .seq #[.str "no text" r0, .str "no such sign" r1, .str "too many groups" r2, .str "too long" r3, .str "not this here" r4, .str "nested too deep" r5, .str "a bottom of 0" r6] nR, slR⟩)
    (aC : PySem.W.nsIn K mainGlobals "InvalidText" = some (some (.ref C)))
    (xC : K.lookup C = some (excClassObj nm qn C N bs [.ref Db, .type "Exception", .type "BaseException", .type "object"] true sn sub ab col dd m0 m1 m2 m3 m5 "Exception.__new__"))
    (xT : PySem.W.excTail PySem.ErX.exT [.ref Db, .type "Exception", .type "BaseException", .type "object"] = true)
    (xD : K.lookup Db = some (excClassObj nmD qD Db ND bsD [.type "Exception", .type "BaseException", .type "object"] hdD snD subD abD colD ddD d0 d1 d2 d3 d5 "Exception.__new__"))
    (iD : PySem.W.findIn K (.ref Db) "__init__" = some (some (.builtin "Exception.__init__")))
    (sa : PySem.W.findIn K (.ref C) "__setattr__" = some (some (.builtin "object.__setattr__")))
    (iC : PySem.W.findIn K (.ref C) "__init__" = some (some (.ref fI)))
    (tI : PySem.W.typeIn K (.ref fI) = some (.type "function"))
    (opq : PySem.W.nsIn K cStatics "thirdparty.any" = some none)
    (no1 : PySem.W.findIn K (.ref C) "at" = some none)
    (no2 : PySem.W.findIn K (.ref C) "why" = some none)
    (subE : PySem.W.subIn K (.ref C) (.type "Exception") = some true)
    (subB : PySem.W.subIn K (.ref C) (.type "BaseException") = some true)
    (tyC : PySem.W.typeIn K (.ref C) = some (.type "type"))
    (self_ : PySem.W.mroIn K C (.ref C) = some true)
    (lI : K.lookup fI = some ⟨ocI, odI, .func (PySem.W.fnX "__init__" "InvalidText.__init__" (PySem.ErX.iPar iPs) (PySem.ErX.iBody iSu iZs) (PySem.ErX.iScope ["at", "why"]) [("__class__", cc)] .none .none dcI pmI anI (.ref cda) ctI), slI⟩)
    (cI : PySem.W.codeIn K (.ref cda) "InvalidText.__init__" = true)
    (lcd : K.lookup cda = some ⟨ccl, cdd, .fields vI, ccs⟩)
    (fI2 : vI[2]? = some (.str "/claim/cut.py" tfI))
    (lcc : K.lookup cc = some ⟨clc, cldc, .cell (some (.ref C)), cslc⟩)
    (kC : PySem.W.keepIn K (.ref C) = true)
    (ga : PySem.W.findIn K (.ref C) "__getattribute__" = some (some (.builtin "BaseException.__getattribute__")))
    (gg : PySem.W.findIn K (.ref C) "__getattr__" = some none)
    (hdC : PySem.W.hasDictIn K C = true)
    (isC : PySem.W.isClsIn K C = true)
    (subC : PySem.W.subIn K (.ref C) (.ref C) = some true)
    : LawAtS PySem.Challenge.rw_endslost_k02_whole_texts_cut_into_groups w K (L2.CX PySem.Challenge.rw_endslost_k02_whole_texts_cut_into_groups.prog w) 6 63 "script" mg fa h := by
  have e := hfa.symm.trans (PySem.W.mg_of X G aL)
  cases e
  have F0 := fun_mk (st := sBox) l0 c0 k0
  have b0 := F0.binds (ps := ["script"]) fun _ _ _ _ _ _ us hl => match us, hl with | [_], _ => rfl
  have F1 := fun_mk (st := sTake) l1 c1 k1
  have b1 := F1.binds (ps := ["box", "many"]) fun _ _ _ _ _ _ us hl => match us, hl with | [_, _], _ => rfl
  have F2 := fun_mk (st := sPick) l2 c2 k2
  have b2 := F2.binds (ps := ["box", "some"]) fun _ _ _ _ _ _ us hl => match us, hl with | [_, _], _ => rfl
  have F3 := fun_mk (st := sIs) l3 c3 k3
  have b3 := F3.binds (ps := ["told", "due"]) fun _ _ _ _ _ _ us hl => match us, hl with | [_, _], _ => rfl
  have F4 := fun_mk (st := sGroup) l4 c4 k4
  have b4 := F4.binds (ps := ["box"]) fun _ _ _ _ _ _ us hl => match us, hl with | [_], _ => rfl
  have F5 := fun_mk (st := sKind) l5 c5 k5
  have b5 := F5.binds (ps := ["group"]) fun _ _ _ _ _ _ us hl => match us, hl with | [_], _ => rfl
  have F6 := fun_mk (st := sJoin) l6 c6 k6
  have b6 := F6.binds (ps := ["box", "groups"]) fun _ _ _ _ _ _ us hl => match us, hl with | [_, _], _ => rfl
  have F7 := fun_mk (st := sCut) l7 c7 k7
  have b7 := F7.binds (ps := ["text"]) fun _ _ _ _ _ _ us hl => match us, hl with | [_], _ => rfl
  have F8 := fun_mk (st := sGe) l8 c8 k8
  have b8 := F8.binds (ps := ["text", "at"]) fun _ _ _ _ _ _ us hl => match us, hl with | [_, _], _ => rfl
  have F9 := fun_mk (st := sEnd) l9 c9 k9
  have b9 := F9.binds (ps := ["text", "at", "signs"]) fun _ _ _ _ _ _ us hl => match us, hl with | [_, _, _], _ => rfl
  have F10 := fun_mk (st := sErr) l10 c10 k10
  have b10 := F10.binds (ps := ["call"]) fun _ _ _ _ _ _ us hl => match us, hl with | [_], _ => rfl
  have al : PySem.W.alongIn K "__init__" [.ref Db, .type "Exception", .type "BaseException", .type "object"] = some (some (.builtin "Exception.__init__")) := by
    have h := iD
    unfold PySem.W.findIn at h
    dsimp only at h
    rw [xD] at h
    exact h
  have exm : PySem.W.exmOne K (.ref C) (.ref C) = some true := by
    have q1 : (PySem.W.subIn K (.ref C) (.type "BaseException") == some true) = true := by rw [subB] <;> rfl
    have q2 : (PySem.W.clsIn K C).isSome = true := isC
    have q3 : ((PySem.W.clsIn K C).isSome && PySem.W.typeIn K (.ref C) == some (.type "type")) = true := by rw [q2, tyC] <;> rfl
    unfold PySem.W.exmOne
    rw [if_pos q1]
    unfold PySem.W.kitCls
    dsimp only
    rw [if_pos q3]
    exact subC
  have hcl : PySem.W.clsIn K C = some { name := nm, bases := bs, mro := .ref C :: [.ref Db, .type "Exception", .type "BaseException", .type "object"], ns := N, qualname := qn, hasDict := true, slotNames := sn, subclasses := sub, abstract := ab, collection := col, hasDel := false } := by unfold PySem.W.clsIn; rw [xC] <;> rfl
  have TE : PySem.ErX.ErrT PySem.Challenge.rw_endslost_k02_whole_texts_cut_into_groups.prog K C fI cc cda ["at", "why"] :=
    { cls := ⟨_, _, hcl, rfl, xT, rfl, al⟩
      obj := ⟨_, _, _, _, _, _, _, _, _, _, _, _, _, _, _, _, xC, xT⟩
      sa := sa, iC := iC, tI := tI, opq := opq
      noF := fun f hf => by
        simp only [List.mem_cons, List.not_mem_nil, or_false] at hf
        rcases hf with rfl | rfl
        · exact no1
        · exact no2
      subE := subE, subB := subB, tyC := tyC, self := self_
      code := ⟨_, _, _, _, _, _, lcd, fI2, by decide +kernel⟩
      cell := ⟨_, _, _, lcc⟩
      fn := ⟨_, _, _, iPs, iSu, iZs, _, _, _, _, _, lI, cI, rfl, rfl, rfl, fun vs hv => match vs, hv with | [_, _, _], _ => rfl⟩
      noS := by decide +kernel }
  have top : Top PySem.Challenge.rw_endslost_k02_whole_texts_cut_into_groups.prog K mg C fI cc cda f0 f1 f2 f3 f4 f5 f6 f7 f8 f9 f10 _ _ _ _ _ _ _ _ _ _ _ :=
    { box := ⟨F0, b0, PySem.W.mg_of X G a0⟩, take := ⟨F1, b1, PySem.W.mg_of X G a1⟩, pick := ⟨F2, b2, PySem.W.mg_of X G a2⟩, is_ := ⟨F3, b3, PySem.W.mg_of X G a3⟩, grp := ⟨F4, b4, PySem.W.mg_of X G a4⟩, kind := ⟨F5, b5, PySem.W.mg_of X G a5⟩, join := ⟨F6, b6, PySem.W.mg_of X G a6⟩, cut := ⟨F7, b7, PySem.W.mg_of X G a7⟩, ge := ⟨F8, b8, PySem.W.mg_of X G a8⟩, end_ := ⟨F9, b9, PySem.W.mg_of X G a9⟩, err := ⟨F10, b10, PySem.W.mg_of X G a10⟩
      cutK := fun s u _ => .of_eq rfl
      len := PySem.W.mg_none_of X G z_len, isi := PySem.W.mg_none_of X G z_isi, str := PySem.W.mg_none_of X G z_str, enu := PySem.W.mg_none_of X G z_enu, tup := PySem.W.mg_none_of X G z_tup, abs := PySem.W.mg_none_of X G z_abs, int := PySem.W.mg_none_of X G z_int, bool := PySem.W.mg_none_of X G z_bool, zip := PySem.W.mg_none_of X G z_zip, rng := PySem.W.mg_none_of X G z_rng, sup := PySem.W.mg_none_of X G z_sup
      gL := ⟨_, PySem.W.mg_of X G gL, _, rfl⟩, gF := ⟨_, PySem.W.mg_of X G gF, _, rfl⟩, gS := ⟨_, PySem.W.mg_of X G gS, _, rfl⟩, gT := ⟨_, PySem.W.mg_of X G gT, _, rfl⟩, gG := ⟨_, PySem.W.mg_of X G gG, _, rfl⟩
      gR := ⟨.ref aR, _, PySem.W.mg_of X G gR, rfl, fun T => .tup (xs := [.str "no text", .str "no such sign", .str "too many groups", .str "too long", .str "not this here", .str "nested too deep", .str "a bottom of 0"]) (.inr ⟨_, _, _, lR, rfl, rfl, by show 7 ≤ sizeLine; decide, .cons ⟨r0, rfl⟩ (.cons ⟨r1, rfl⟩ (.cons ⟨r2, rfl⟩ (.cons ⟨r3, rfl⟩ (.cons ⟨r4, rfl⟩ (.cons ⟨r5, rfl⟩ (.cons ⟨r6, rfl⟩ (.nil)))))))⟩) (.cons .str (.cons .str (.cons .str (.cons .str (.cons .str (.cons .str (.cons .str (.nil))))))))⟩
      TE := TE, mC := PySem.W.mg_of X G aC, kC := kC, xf := ⟨ga, gg, subB, hdC⟩, no1 := no1, no2 := no2, exm := exm }
  refine ⟨PySem.W.fnOf "law" "law" (defArgs sLaw) (defBody sLaw) (defScope sLaw) .none kVL dcL pmL anL (.ref c) ctL, [(c, Pt)], spD K (ρT [(Pt, qLam)]) 1 FLaw, fun p hp => ?_, fun p hp => ?_, fun p hp => ?_, fun s u => .of_eq rfl, fun H a ns hl _ hT hS => ?_, fun base _ _ TB => ?_⟩
  · rw [List.mem_singleton.mp hp]
    exact own c Pt _ _ _ _ _ _ lL rfl rfl lc hP
  · rw [List.mem_singleton.mp hp]
    exact nP
  · rw [List.mem_singleton.mp hp]
    exact ⟨_, vc, _, _, _, _, _, _, _, X _ _ lc, he, rfl, hP, v11, v18, v7, v9, v10, ne⟩
  · refine head_sp hl (fun p hp => ?_) hS
    rw [List.mem_singleton.mp hp]
    exact hT (c, Pt) (List.mem_singleton_self _)
  · exact ok_law top lL cL (TB (c, Pt) (List.mem_singleton_self _))
end K02
set_option Elab.async false
set_option linter.all false
set_option maxRecDepth 100000
open PySem PySem.W PyProof.Rows
set_option pp.maxSteps 400
set_option maxHeartbeats 0 in
theorem PySem.Challenge.cw_endslost_k02_whole_texts_cut_into_groups_holds : PySem.Challenge.rw_endslost_k02_whole_texts_cut_into_groups.Holds := by
  w_on; o_law; k_head; (case hw => w_witness2)
  k_fill
  refine LamX.walk_ofOwn (l := PySem.Challenge.rw_endslost_k02_whole_texts_cut_into_groups) (n := 63) (k := 6) (x := "script") (CX := fun w => L2.CX PySem.Challenge.rw_endslost_k02_whole_texts_cut_into_groups.prog w) rfl (by decide) rfl ⟨rfl, by decide, by decide⟩ (by decide +kernel) (fun w h Y => PySem.W.km_in_of Y) ?F (fun w H s e s' z => ?Z)
  case Z =>
    obtain ⟨_, _, _, _, _, _, _, _, _, _, _, _, z⟩ := z
    exact z
  case F =>
    intro w mg fa h Y KX G hmg own
    refine' K02.all_mk KX G hmg own ?a0 ?l0 ?c0 ?k0 ?a1 ?l1 ?c1 ?k1 ?a2 ?l2 ?c2 ?k2 ?a3 ?l3 ?c3 ?k3 ?a4 ?l4 ?c4 ?k4 ?a5 ?l5 ?c5 ?k5 ?a6 ?l6 ?c6 ?k6 ?a7 ?l7 ?c7 ?k7 ?a8 ?l8 ?c8 ?k8 ?a9 ?l9 ?c9 ?k9 ?a10 ?l10 ?c10 ?k10 ?aL ?lL ?cL ?lc ?hP ?he ?v11 ?v18 ?v7 ?v9 ?v10 ?ne ?nP ?z_len ?z_isi ?z_str ?z_enu ?z_tup ?z_abs ?z_int ?z_bool ?z_zip ?z_rng ?z_sup ?gL ?gF ?gS ?gT ?gG ?gR ?lR ?aC ?xC ?xT ?xD ?iD ?sa ?iC ?tI ?opq ?no1 ?no2 ?subE ?subB ?tyC ?self_ ?lI ?cI ?lcd ?fI2 ?lcc ?kC ?ga ?gg ?hdC ?isC ?subC
    (case a0 => k_is)
    (case l0 => k_is)
    (case c0 => k_is)
    (case k0 => k_is)
    (case a1 => k_is)
    (case l1 => k_is)
    (case c1 => k_is)
    (case k1 => k_is)
    (case a2 => k_is)
    (case l2 => k_is)
    (case c2 => k_is)
    (case k2 => k_is)
    (case a3 => k_is)
    (case l3 => k_is)
    (case c3 => k_is)
    (case k3 => k_is)
    (case a4 => k_is)
    (case l4 => k_is)
    (case c4 => k_is)
    (case k4 => k_is)
    (case a5 => k_is)
    (case l5 => k_is)
    (case c5 => k_is)
    (case k5 => k_is)
    (case a6 => k_is)
    (case l6 => k_is)
    (case c6 => k_is)
    (case k6 => k_is)
    (case a7 => k_is)
    (case l7 => k_is)
    (case c7 => k_is)
    (case k7 => k_is)
    (case a8 => k_is)
    (case l8 => k_is)
    (case c8 => k_is)
    (case k8 => k_is)
    (case a9 => k_is)
    (case l9 => k_is)
    (case c9 => k_is)
    (case k9 => k_is)
    (case a10 => k_is)
    (case l10 => k_is)
    (case c10 => k_is)
    (case k10 => k_is)
    (case aL => k_is)
    (case lL => k_is)
    (case cL => k_is)
    (case lc => k_is)
    (case hP => rfl)
    (case he => rfl)
    (case v11 => rfl)
    (case v18 => rfl)
    (case v7 => rfl)
    (case v9 => rfl)
    (case v10 => rfl)
    (case ne => decide)
    (case nP => first | rfl | kernel_rfl | decide +kernel)
    (case z_len => k_is)
    (case z_isi => k_is)
    (case z_str => k_is)
    (case z_enu => k_is)
    (case z_tup => k_is)
    (case z_abs => k_is)
    (case z_int => k_is)
    (case z_bool => k_is)
    (case z_zip => k_is)
    (case z_rng => k_is)
    (case z_sup => k_is)
    (case gL => k_is)
    (case gF => k_is)
    (case gS => k_is)
    (case gT => k_is)
    (case gG => k_is)
    (case gR => k_is)
    (case lR => k_is)
    (case aC => k_is)
    (case xC => k_is)
    (case xT => rfl)
    (case xD => k_is)
    (case iD => k_is)
    (case sa => k_is)
    (case iC => k_is)
    (case tI => k_is)
    (case opq => k_is)
    (case no1 => k_is)
    (case no2 => k_is)
    (case subE => k_is)
    (case subB => k_is)
    (case tyC => k_is)
    (case self_ => k_is)
    (case lI => k_is)
    (case cI => k_is)
    (case lcd => k_is)
    (case fI2 => rfl)
    (case lcc => k_is)
    (case kC => k_is)
    (case ga => k_is)
    (case gg => k_is)
    (case hdC => k_is)
    (case isC => k_is)
    (case subC => first | rfl | k_is)
