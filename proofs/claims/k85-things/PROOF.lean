import PyProof.Rows.All
import Wide.All
import OpenK.AllK
import Wide.FinOn
import KE.KExcSuper
import HandS.ForMost
import HandS.Exc
import HandS.ExcSuper
import HandS.ExcInit
import HandS.ExcField
import HandS.TryMany
import HandS.WordsExc
import HandS.Lambda
import HandS.Zip
import HandS.Style
import HandS.Steps
import PyProof.EnumMake
import KE.GoesMore
import HandS.Head0
import HandS.Head1
import HandS.Head2
import HandS.HeadEnd
import HandS.HeadHook1
import HandS.HeadHook2
import HandS.HeadHook3
import HandS.HeadHook4
import HandS.HeadWalk
import HandS.Defaults
import HandS.IsInst
import HandS.RaiseMore
import PySem.Challenge.RW_eyesahead_k85_whole_texts_of_things
set_option Elab.async false
set_option linter.all false
set_option maxRecDepth 100000
set_option maxHeartbeats 4000000
/-! Own errors two steps below Exception, whose __init__ says super().__init__(text) and keeps its arguments. -/
namespace Ey
open PySem PySem.W PySem.Calls PyProof.Rows

abbrev exT : List Value := [.type "Exception", .type "BaseException", .type "object"]

section osa
open Builtin Builtin.ObjectAttr
variable {prog : Program} {w : World} {A : Around} {R : Result → Shared → Prop} {hp : Heap} {g : Array GenState} {d : Drawn} {t : Nat} {os : OsState}
variable {K : Frag} {name : Str} {tk : Tok} {v : Value} {x C D : Addr} {cd : ClassData}

theorem mro_has (hcd : clsIn K C = some cd) (hm : cd.mro = .ref C :: .ref D :: exT) {b : Value} (hb : (Value.ref C :: .ref D :: exT).contains b = true) : mroIn K C b = some true := by
  unfold mroIn
  rw [hcd]
  show (if cd.mro.isEmpty = true then none else some (cd.mro.contains b)) = some true
  rw [hm, hb]
  rfl
theorem tail_obj : (Value.ref C :: .ref D :: exT).contains (.type "object") = true := by
  simp only [List.contains_cons]
  simp
theorem pass_set (self : Value) : refuseLoop self "__setattr__" (.ref C :: .ref D :: exT) = pure () := by
  rw [refuseLoop_ref, refuseLoop_ref]
  exact F.store_Exception.passes self

theorem osa_pre {ox : Obj} {od : Option Obj} (X : K.In hp) (I : InstAt hp x ox C od) (hcd : clsIn K C = some cd) (hm : cd.mro = .ref C :: .ref D :: exT) (ha : findIn K (.ref C) name = some none)
    (hq : wpAny (model prog w) A.in1 (storeInOwnDict (.ref x) (.ref C) (.str name tk) name v false)
      (fun fin s' => match fin with
        | .done f => R (.ok f) s'
        | .again c' => c'.quiet = true ∧ codeAny (model prog w) A c' R s') (fun e s' => R (.error e) s') ⟨hp, g, d, t, os⟩) :
    codeAny (model prog w) A (.call (.builtin "object.__setattr__") ⟨[.ref x, .str name tk, v], []⟩) R ⟨hp, g, d, t, os⟩ := by
  have so := F.store_object
  have isO : Looks (model prog w) hp (isInstance (.ref x) (.type "object")) true := I.type.andThen (looks_mroIn X (mro_has hcd hm tail_obj))
  have mr : Looks (model prog w) hp (mroOf (.ref C)) cd.mro := (looks_clsIn X hcd).andThen .now
  have tkr : Looks (model prog w) hp (storeTaker? none) none := .now
  refine codeAny_call_builtin so.slot.plain so.entry ?_
  refine @check_slot (model prog w) _ _ ⟨hp, g, d, t, os⟩ "object.__setattr__" "object" "__setattr__" (.ref x) [.str name tk, v] [] _ so.kind so.split isO (so.args (.ref x) (.str name tk) v) ?_
  rw [osa_eq, refuse_eq]
  refine wpAny_bind (wpAny_bind (I.type.at ?_))
  refine wpAny_bind (mr.at ?_)
  rw [hm, pass_set]
  refine wpAny_pure ?_
  refine wpAny_bind (I.type.at ?_)
  refine wpAny_bind ((looks_findIn X ha).at ?_)
  exact wpAny_bind (tkr.at hq)

/-- the first attribute -/
theorem osa_new {fv : Array Value} (X : K.In hp) (hx : hp.get? x = some { cls := .ref C, data := .fields fv }) (hcd : clsIn K C = some cd) (hm : cd.mro = .ref C :: .ref D :: exT) (hh : cd.hasDict = true) (ha : findIn K (.ref C) name = some none)
    (hq : ∀ h' tk' dx, (∀ b o, b ≠ x → hp.get? b = some o → h'.get? b = some o) → hp.objs.size ≤ dx → dx ≠ x → h'.get? x = some { cls := .ref C, dict := some dx, data := .fields fv } →
      h'.Ns1 dx (fun y => if y = name then some v else none) → R (.ok (.ret .none)) ⟨h', g, d, tk', os⟩) :
    codeAny (model prog w) A (.call (.builtin "object.__setattr__") ⟨[.ref x, .str name tk, v], []⟩) R ⟨hp, g, d, t, os⟩ := by
  have hxs : hp.objs.size ≠ x := Nat.ne_of_gt (Heap.lt_size hx)
  have hcls : Looks (model prog w) hp (classData C) cd := looks_clsIn X hcd
  refine osa_pre X (ox := { cls := .ref C, data := .fields fv }) (od := none) ⟨hx, rfl, rfl, trivial⟩ hcd hm ha ?_
  obtain ⟨nm, bs, mro, ns, qn, hd, sn, sb, ab, col, del⟩ := cd
  dsimp only at hh
  subst hh
  unfold storeInOwnDict ownDictForStores
  repeat (first
    | with_reducible refine HandSPX.store_in_new ?_ ?_
    | with_reducible refine wpAny_loadPart_at hx ?_
    | with_reducible refine hcls.at ?_
    | wp_step)
  · refine ⟨_, #[], _, (Heap.get?_update_ne _ _ _ _ hxs).trans (Heap.get?_push_at rfl rfl), rfl, fun e he => ?_, fun _ => rfl⟩
    simp at he
  · intro h' tk' hn' hs
    have hx₁ := Heap.get?_push_of_some (h := hp) { cls := .type "dict", data := .dict #[] } hx
    refine hq h' tk' hp.objs.size (fun b o hb ho => ?_) (Nat.le_refl _) hxs ?_ hn'
    · have e1 := Heap.get?_push_of_some (h := hp) { cls := .type "dict", data := .dict #[] } ho
      exact (hs.2 b (Nat.ne_of_lt (Heap.lt_size ho))).trans ((Heap.get?_update_ne _ _ _ _ hb).trans e1)
    · exact (hs.2 x hxs.symm).trans (Heap.get?_update_self _ hx₁ rfl)
/-- a further one -/
theorem osa_old {dx : Addr} {fv : Array Value} {m0 : Str → Option Value} {nl : List Str} (X : K.In hp) (hx : hp.get? x = some { cls := .ref C, dict := some dx, data := .fields fv }) (hns : hp.Ns1 dx m0) (hw : Within m0 nl) (hz : nl.length ≤ 1000)
    (hcd : clsIn K C = some cd) (hm : cd.mro = .ref C :: .ref D :: exT) (hh : cd.hasDict = true) (ha : findIn K (.ref C) name = some none)
    (hq : ∀ h' tk', (∀ b o, b ≠ dx → hp.get? b = some o → h'.get? b = some o) → h'.Ns1 dx (fun y => if y = name then some v else m0 y) → R (.ok (.ret .none)) ⟨h', g, d, tk', os⟩) :
    codeAny (model prog w) A (.call (.builtin "object.__setattr__") ⟨[.ref x, .str name tk, v], []⟩) R ⟨hp, g, d, t, os⟩ := by
  obtain ⟨oD, esD, epD, hoD, hdD, _⟩ := hns.count hw
  have hcls : Looks (model prog w) hp (classData C) cd := looks_clsIn X hcd
  refine osa_pre X (ox := { cls := .ref C, dict := some dx, data := .fields fv }) (od := some oD) ⟨hx, rfl, rfl, hoD⟩ hcd hm ha ?_
  obtain ⟨nm, bs, mro, ns, qn, hd, sn, sb, ab, col, del⟩ := cd
  dsimp only at hh
  subst hh
  unfold storeInOwnDict ownDictForStores
  repeat (first
    | with_reducible refine ESX.store_in_old hns hw hz ?_
    | with_reducible refine wpAny_loadPart_at hx ?_
    | with_reducible refine hcls.at ?_
    | wp_step)
  intro h' tk' hn' hs
  exact hq h' tk' (fun b o hb ho => (hs.2 b hb).trans ho) hn'
end osa

/-- what the written part says of such a class: C the class, fI its __init__, cda that one's code, cc the cell of __class__ -/
structure ECls (prog : Program) (K : Frag) (mg : Str → Option Value) (C fI cc cda : Addr) (qual : Str) (params : Arguments) (body : List Stmt) (scope : Scope) (fs : List Str) : Prop where
  cls : ∃ nm q N bs sn sub ab col dd k0 k1 k2 k3 k5 D, K.lookup C = some (excClassObj nm q C N bs (.ref D :: exT) true sn sub ab col dd k0 k1 k2 k3 k5 "Exception.__new__") ∧ alongIn K "__init__" (.ref D :: exT) = some (some (.builtin "Exception.__init__"))
  sa : findIn K (.ref C) "__setattr__" = some (some (.builtin "object.__setattr__"))
  exE : subIn K (.ref C) (.type "Exception") = some true
  exC : subIn K (.ref C) (.type "BaseException") = some true
  tyC : typeIn K (.ref C) = some (.type "type")
  kC : keepIn K (.ref C) = true
  iC : findIn K (.ref C) "__init__" = some (some (.ref fI))
  tI : typeIn K (.ref fI) = some (.type "function")
  fn : ∃ (oc : Value) (od : Option Addr) (kV doc pm : Value) (an : Option Addr) (ct : Value) (osl : Array (Option Value)), K.lookup fI = some ⟨oc, od, .func (ksFn "__init__" qual params body scope .none kV doc pm an (.ref cda) ct cc), osl⟩
  cd : codeIn K (.ref cda) qual = true
  code : ∃ (ccl : Value) (cdd : Option Addr) (vs : Array Value) (ccs : Array (Option Value)) (file : Str) (tf : Tok), K.lookup cda = some ⟨ccl, cdd, .fields vs, ccs⟩ ∧ vs[2]? = some (.str file tf) ∧ ((prog.main.file : Str) == file) = true
  cell : ∃ (cl : Value) (cld : Option Addr) (csl : Array (Option Value)), K.lookup cc = some ⟨cl, cld, .cell (some (.ref C)), csl⟩
  sup : mg "super" = none
  tp : nsIn K cStatics "thirdparty.any" = some none
  top : (prog.main.scope.names.lookup ("super" : Str)).isSome = false
  noF : ∀ f ∈ fs, findIn K (.ref C) f = some none
  few : fs.length ≤ 16777216

abbrev exO (C : Addr) (d : Option Addr) (t : Addr) : Obj := { cls := .ref C, dict := d, data := .fields #[.ref t, .none, .none, .none, .bool false, .none] }
/-- the scope of such an __init__ -/
structure IScope (scope : Scope) : Prop where
  kind : scope.kind = .function
  co : scope.isCoroutine = false
  gen : scope.isGenerator = false
  cells : ∀ x ∈ scope.names, x.2 ≠ .cell
  sup : scope.names.lookup ("super" : Str) = some .globalImplicit
  cl : scope.names.lookup ("__class__" : Str) = some .free
  self : scope.names.lookup ("self" : Str) = some .local

section init
variable {prog : Program} {w : World} {A : Around} {R : Result → Shared → Prop} {E : Value → Shared → Prop} {K : Frag} {mg : Str → Option Value} {base : Heap} {C fI cc cda x : Addr} {qual : Str} {params : Arguments} {scope : Scope} {fs : List Str}

theorem ECls.in_ {body : List Stmt} (T : ECls prog K mg C fI cc cda qual params body scope fs) : ∃ cd D, clsIn K C = some cd ∧ cd.mro = .ref C :: .ref D :: exT ∧ cd.hasDict = true ∧ alongIn K "__init__" (.ref D :: exT) = some (some (.builtin "Exception.__init__")) := by
  obtain ⟨nm, q, N, bs, sn, sub, ab, col, dd, k0, k1, k2, k3, k5, D, hC, hal⟩ := T.cls
  refine ⟨{ name := nm, bases := bs, mro := .ref C :: .ref D :: exT, ns := N, qualname := q, hasDict := true, slotNames := sn, subclasses := sub, abstract := ab, collection := col, hasDel := false }, D, ?_, rfl, rfl, hal⟩
  unfold clsIn
  rw [hC] <;> rfl

/-- super().__init__(text) -/
theorem super_step {body : List Stmt} {s : Shared} {L : Addr} {m : Str → Option Value} {txt : Str} {p0 p1 p2 p3 p4 p5 : Pos} {ar : Arg} {t0 : Addr} {pl : Sem Bool} {Q : Flow → Shared → Prop} (T : ECls prog K mg C fI cc cda qual params body scope fs) (S : IScope scope)
    (he : eval (.Call (.Attribute (.Call (.Name "super" p0) [] [] p1) "__init__" p2) [.Constant (.str txt) 0 p3] [] p4) (ksEnv qual scope L fI (.ref cda) cc) = (do
      let ov ← attributeBase (.Call (.Name "super" p0) [] [] p1) "__init__" (ksEnv qual scope L fI (.ref cda) cc) (eval (.Call (.Name "super" p0) [] [] p1) (ksEnv qual scope L fI (.ref cda) cc))
      standAt p2.atName
      let (f, first) ← holding [ov] (getMethod ov "__init__" pl)
      callWith p4 f first (backTo p4 (starEach [.Constant (.str txt) 0 p3] (ksEnv qual scope L fI (.ref cda) cc))) []))
    (har : (params.posonlyargs ++ params.args).head? = some ar) (ha : ar.arg = ("self" : Str))
    (M : L2.Mod K mg base) (kb : ∀ b o, base.get? b = some o → s.heap.get? b = some o) (hn : s.heap.Ns L m) (hm : m "self" = some (.ref x)) (hx : s.heap.get? x = some (exO C none t0)) (hxK : K.lookup x = none)
    (hq : ∀ h' tk t1, (∀ b o, b ≠ x → s.heap.get? b = some o → h'.get? b = some o) → h'.get? x = some (exO C none t1) → Q .next { s with heap := h', toks := tk }) :
    _root_.PySem.wpAt (model prog w) A (.func body (ksEnv qual scope L fI (.ref cda) cc)) (exec (.Expr (.Call (.Attribute (.Call (.Name "super" p0) [] [] p1) "__init__" p2) [.Constant (.str txt) 0 p3] [] p4) p5) (ksEnv qual scope L fI (.ref cda) cc)) Q E s := by
  have X : K.In s.heap := M.kin.keeps kb
  obtain ⟨cd, D, hcd, hmro, hdct, hal⟩ := T.in_
  obtain ⟨nm, q, N, bs, sn, sub, ab, col, dd, k0, k1, k2, k3, k5, D', hC, _⟩ := T.cls
  obtain ⟨oc, od, kV, doc, pm, an, ct, osl, hF⟩ := T.fn
  obtain ⟨ccl, cdd, vs, ccs, file, tf, hcode, hvs, hfile⟩ := T.code
  obtain ⟨cl, cld, csl, hcell⟩ := T.cell
  obtain ⟨mb, hb, hbb⟩ := M.blt
  obtain ⟨h, g, d, t, os⟩ := s
  have hCh : h.get? C = some (excClassObj nm q C N bs (.ref D' :: exT) true sn sub ab col dd k0 k1 k2 k3 k5 "Exception.__new__") := X _ _ hC
  have hxC : x ≠ C := fun z => by
    rw [z, hC] at hxK
    cases hxK
  have I : InstAt h x (exO C none t0) C none := ⟨hx, rfl, rfl, trivial⟩
  have isE : Looks (model prog w) h (isInstance (.ref x) (.type "Exception")) true := I.type.andThen (looks_subIn X T.exE)
  have isC : Looks (model prog w) h (isSubtype (.ref C) (.ref C)) true := looks_mroIn X (mro_has hcd hmro (by simp))
  refine ks_wpAt_Expr_any (ks_wpAt_MethodCall ?_ he) (by show (scope.kind == ScopeKind.module && _) = false; rw [S.kind]; rfl)
  refine ks_wpAt_super_base (env := ksEnv qual scope L fI (.ref cda) cc) S.sup S.cl (by decide) rfl (X _ _ hF) rfl har rfl (X _ _ hcode) rfl hvs hfile T.top ?_
  refine ks_loadName_global S.kind S.sup ?_
  refine loadGlobal_builtin (env := ksEnv qual scope L fI (.ref cda) cc) (M.glob.keeps kb) T.sup (hb.keeps kb) ((hbb _ (by decide)).trans (by first | boot_by_name | rfl | kernel_rfl)) ⟨rfl, ?_⟩
  refine wpAny_loadName_free S.kind S.cl rfl ⟨_, X _ _ hcell, rfl⟩ ?_
  refine wpAny_loadName_local S.kind (by rw [ha]; exact S.self) hn (by rw [ha]; exact hm) ?_
  refine ks_wpAny_isType_cls hCh rfl ⟨rfl, ?_⟩
  refine ks_wpAny_call_super hCh rfl hx rfl (fun c z => by cases z) isC (fun h1 e1 k1 => ?_)
  have X1 : K.In h1 := X.keeps k1
  have isE1 : Looks (model prog w) h1 (isInstance (.ref x) (.type "Exception")) true := isE.keeps k1
  refine ESX.getMethod_super (K := K) (l₀ := .ref C :: .ref D :: exT) (l := .ref D :: exT) e1 (looks_opaque X1 T.tp) ?_ (by simp) X1 hal hxC (by decide) isE1 ?_
  · have z : Looks (model prog w) h1 (mroOf (.ref C)) cd.mro := (looks_clsIn X1 hcd).andThen .now
    rw [hmro] at z
    exact z
  refine ESX.callWith_bound (x := x) (Calls.spliced_cons (@Calls.Constant_str _ _ _ _ _ txt 0 p3 _ (Calls.spliced_nil ⟨Heap.get?_push_size _ rfl, ?_⟩)))
  have k2 : ∀ b o, h.get? b = some o → (h1.push (ESX.bw x)).get? b = some o := fun b o e => Heap.get?_push_of_some _ (k1 b o e)
  refine ESX.call_bw (k2 _ _ hCh) (k2 _ _ hx) (Heap.get?_push_size _ rfl) (by rw [sizeLine_eq]; exact (by decide : 1 ≤ 16777216)) (fun h3 t1 k3' e3 => ?_)
  exact hq h3 _ t1 (fun b o hb e => k3' b o hb (k2 b o e)) e3

theorem ldN {M : Model} {s : Shared} {L : Addr} {m : Str → Option Value} {y : Str} {pos : Pos} {v : Value} {Q : Value → Shared → Prop} (S : IScope scope) (hn : s.heap.Ns L m) (hv : m y = some v) (hl : scope.names.lookup y = some .local) (hd : (y == ("__debug__" : Str)) = false) (h : Q v s) :
    wpAny M A (eval (.Name y pos) (ksEnv qual scope L fI (.ref cda) cc)) Q E s :=
  wpAny_Name (wpAny_loadName_local (env := ksEnv qual scope L fI (.ref cda) cc) S.kind hl hn hv h) hd

/-- self.f = f, the first one -/
theorem set_first {body : List Stmt} {s : Shared} {L : Addr} {m : Str → Option Value} {f : Str} {v : Value} {q1 q2 q3 q4 : Pos} {t0 : Addr} {Q : Flow → Shared → Prop} (T : ECls prog K mg C fI cc cda qual params body scope fs) (S : IScope scope) (hf : f ∈ fs)
    (X : K.In s.heap) (hn : s.heap.Ns L m) (hm : m "self" = some (.ref x)) (hv : m f = some v) (hl : scope.names.lookup f = some .local) (hd : (f == ("__debug__" : Str)) = false) (hx : s.heap.get? x = some (exO C none t0))
    (hs : swapsWith (.Name f q3) (some (.Attribute (.Name "self" q1) f q2)) q4.line (ksEnv qual scope L fI (.ref cda) cc) = pure false)
    (hq : ∀ h' tk dx, (∀ b o, b ≠ x → s.heap.get? b = some o → h'.get? b = some o) → s.heap.objs.size ≤ dx → dx ≠ x → h'.get? x = some (exO C (some dx) t0) → h'.Ns1 dx (fun y => if y = f then some v else none) → Q .next { s with heap := h', toks := tk }) :
    wpAny (model prog w) A (exec (.Assign [.Attribute (.Name "self" q1) f q2] (.Name f q3) q4) (ksEnv qual scope L fI (.ref cda) cc)) Q E s := by
  obtain ⟨cd, D, hcd, hmro, hdct, _⟩ := T.in_
  refine plainObj_wpAny_Assign_Attribute ?_ hs
  refine ldN S hn hv hl hd ?_
  refine ldN S hn hm S.self (by decide) ?_
  refine set_plain X (ox := exO C none t0) (od := none) ⟨hx, rfl, rfl, trivial⟩ T.sa ?_
  exact osa_new X hx hcd hmro hdct (T.noF f hf) fun h' tk dx k1 k2 k3 k4 k5 => hq h' tk dx k1 k2 k3 k4 k5
/-- self.f = f, a further one -/
theorem set_next {body : List Stmt} {s : Shared} {L dx : Addr} {m m0 : Str → Option Value} {nl : List Str} {f : Str} {v : Value} {q1 q2 q3 q4 : Pos} {t0 : Addr} {Q : Flow → Shared → Prop} (T : ECls prog K mg C fI cc cda qual params body scope fs) (S : IScope scope) (hf : f ∈ fs)
    (X : K.In s.heap) (hn : s.heap.Ns L m) (hm : m "self" = some (.ref x)) (hv : m f = some v) (hl : scope.names.lookup f = some .local) (hd : (f == ("__debug__" : Str)) = false) (hx : s.heap.get? x = some (exO C (some dx) t0))
    (hns : s.heap.Ns1 dx m0) (hw : Within m0 nl) (hz : nl.length ≤ 1000)
    (hs : swapsWith (.Name f q3) (some (.Attribute (.Name "self" q1) f q2)) q4.line (ksEnv qual scope L fI (.ref cda) cc) = pure false)
    (hq : ∀ h' tk, (∀ b o, b ≠ dx → s.heap.get? b = some o → h'.get? b = some o) → h'.Ns1 dx (fun y => if y = f then some v else m0 y) → Q .next { s with heap := h', toks := tk }) :
    wpAny (model prog w) A (exec (.Assign [.Attribute (.Name "self" q1) f q2] (.Name f q3) q4) (ksEnv qual scope L fI (.ref cda) cc)) Q E s := by
  obtain ⟨cd, D, hcd, hmro, hdct, _⟩ := T.in_
  obtain ⟨oD, _, _, hoD, _, _⟩ := hns.count hw
  refine plainObj_wpAny_Assign_Attribute ?_ hs
  refine ldN S hn hv hl hd ?_
  refine ldN S hn hm S.self (by decide) ?_
  refine set_plain X (ox := exO C (some dx) t0) (od := some oD) ⟨hx, rfl, rfl, hoD⟩ T.sa ?_
  exact osa_old X hx hns hw hz hcd hmro hdct (T.noF f hf) fun h' tk k1 k2 => hq h' tk k1 k2

/-- what __init__ leaves of a fresh exception at x: its dict at dx tells mA -/
structure InitEnd (h h' : Heap) (x C dx : Addr) (mA : Str → Option Value) : Prop where
  keep : ∀ b o, b ≠ x → h.get? b = some o → h'.get? b = some o
  obj : ∃ t1, h'.get? x = some (exO C (some dx) t1)
  dbig : h.objs.size ≤ dx
  dne : dx ≠ x
  ns : h'.Ns1 dx mA
/-- the text of such an __init__, one argument; two -/
abbrev iA (fs : List (Str × Pos)) (p1 : Pos) : Arguments := { posonlyargs := [], args := { arg := "self", annotation := none, pos := p1 } :: fs.map fun f => { arg := f.1, annotation := none, pos := f.2 }, vararg := none, kwonlyargs := [], kw_defaults := [], kwarg := none, defaults := [] }
abbrev iSup (txt : Str) (p0 p1 p2 p3 p4 p5 : Pos) : Stmt := .Expr (.Call (.Attribute (.Call (.Name "super" p0) [] [] p1) "__init__" p2) [.Constant (.str txt) 0 p3] [] p4) p5
abbrev iSet (f : Str) (q1 q2 q3 q4 : Pos) : Stmt := .Assign [.Attribute (.Name "self" q1) f q2] (.Name f q3) q4
/-- what the walk asks of the positions -/
def iCall (txt : Str) (p0 p1 p2 p3 p4 : Pos) (pl : Sem Bool) (env : Env) : Prop :=
  eval (.Call (.Attribute (.Call (.Name "super" p0) [] [] p1) "__init__" p2) [.Constant (.str txt) 0 p3] [] p4) env = (do
      let ov ← attributeBase (.Call (.Name "super" p0) [] [] p1) "__init__" env (eval (.Call (.Name "super" p0) [] [] p1) env)
      standAt p2.atName
      let (f, first) ← holding [ov] (getMethod ov "__init__" pl)
      callWith p4 f first (backTo p4 (starEach [.Constant (.str txt) 0 p3] env)) [])

theorem init1 {f txt : Str} {p0 p1 p2 p3 p4 p5 q0 qf q1 q2 q3 q4 : Pos} {pl : Sem Bool} {v : Value} {s : Shared} {t0 : Addr}
    (T : ECls prog K mg C fI cc cda qual (iA [(f, qf)] q0) [iSup txt p0 p1 p2 p3 p4 p5, iSet f q1 q2 q3 q4] scope fs) (S : IScope scope) (hf : f ∈ fs) (hl : scope.names.lookup f = some .local) (hd : (f == ("__debug__" : Str)) = false) (hne : f ≠ ("self" : Str))
    (he : ∀ L, iCall txt p0 p1 p2 p3 p4 pl (ksEnv qual scope L fI (.ref cda) cc))
    (hs : ∀ L, swapsWith (.Name f q3) (some (.Attribute (.Name "self" q1) f q2)) q4.line (ksEnv qual scope L fI (.ref cda) cc) = pure false)
    (hb : ∀ s kV doc pm an ct, BindsTo s (ksFn "__init__" qual (iA [(f, qf)] q0) [iSup txt p0 p1 p2 p3 p4 p5, iSet f q1 q2 q3 q4] scope .none kV doc pm an (.ref cda) ct cc) ⟨[.ref x, v], []⟩ [("self", .ref x), (f, v)])
    (M : L2.Mod K mg base) (kb : ∀ b o, base.get? b = some o → s.heap.get? b = some o) (hx : s.heap.get? x = some (exO C none t0)) (hxK : K.lookup x = none) (hroom : A.depth < recursionLimit)
    (hq : ∀ h' tk dx, InitEnd s.heap h' x C dx (fun y => if y = f then some v else none) → R (.ok (.ret .none)) { s with heap := h', toks := tk }) :
    codeAny (model prog w) A (.call (.ref fI) ⟨[.ref x, v], []⟩) R s := by
  obtain ⟨oc, od, kV, doc, pm, an, ct, osl, hF⟩ := T.fn
  have X : K.In s.heap := M.kin.keeps kb
  refine ks_codeAny_call_defAt (fd := ksFn "__init__" qual (iA [(f, qf)] q0) [iSup txt p0 p1 p2 p3 p4 p5, iSet f q1 q2 q3 q4] scope .none kV doc pm an (.ref cda) ct cc) (binds := [("self", .ref x), (f, v)])
    hroom (X _ _ hF) rfl (M.nolimit.keeps kb) (codeRec_of X T.cd) rfl (hb s kV doc pm an ct) S.cells (fun y hy => ?_) (fun h₁ hns k₁ => ?_) S.co S.gen S.kind
  · rcases List.mem_cons.mp hy with e | hy
    · rw [e]
      exact S.self
    · rw [List.mem_singleton.mp hy]
      exact hl
  have m1 : ([("self", Value.ref x), (f, v)] : List (Str × Value)).reverse.lookup ("self" : Str) = some (.ref x) := by
    have z : (("self" : Str) == f) = false := by simpa using hne.symm
    simp [List.lookup, z]
  have m2 : ([("self", Value.ref x), (f, v)] : List (Str × Value)).reverse.lookup f = some v := by
    simp [List.lookup]
  refine ks_wpAt_execs_cons (super_step T S (he _) rfl rfl M (fun b o e => k₁ b o (kb b o e)) hns m1 (k₁ _ _ hx) hxK fun h2 tk2 t2 k2 hx2 => ?_)
  have xL : s.heap.objs.size ≠ x := Nat.ne_of_gt (Heap.lt_size hx)
  obtain ⟨oL, es, ep, hoL, rL⟩ := hns
  have hns2 : h2.Ns s.heap.objs.size (fun y => ([("self", Value.ref x), (f, v)] : List (Str × Value)).reverse.lookup y) := ⟨oL, es, ep, k2 _ _ xL hoL, rL⟩
  have kx : ∀ {b o}, K.lookup b = some o → b ≠ x := fun {b o} e z => by
    rw [z, hxK] at e
    cases e
  have X2 : K.In h2 := fun b o e => k2 b o (kx e) (k₁ b o (X b o e))
  refine wpAt_of_wpAny (wpAny_execs_cons (set_first T S hf X2 hns2 m1 m2 hl hd hx2 (hs _) fun h3 tk3 dx k3 d1 d2 hx3 n3 => ?_))
  refine wpAny_execs_nil (hq h3 _ dx ⟨fun b o hb e => k3 b o hb (k2 b o hb (k₁ b o e)), ⟨_, hx3⟩, ?_, d2, n3⟩)
  have l1 : s.heap.objs.size < h2.objs.size := Heap.lt_size (k2 _ _ xL hoL)
  exact Nat.le_of_lt (Nat.lt_of_lt_of_le l1 d1)

theorem init2 {f f' txt : Str} {p0 p1 p2 p3 p4 p5 q0 qf qf' q1 q2 q3 q4 r1 r2 r3 r4 : Pos} {pl : Sem Bool} {v v' : Value} {s : Shared} {t0 : Addr}
    (T : ECls prog K mg C fI cc cda qual (iA [(f, qf), (f', qf')] q0) [iSup txt p0 p1 p2 p3 p4 p5, iSet f q1 q2 q3 q4, iSet f' r1 r2 r3 r4] scope fs) (S : IScope scope) (hf : f ∈ fs) (hl : scope.names.lookup f = some .local) (hd : (f == ("__debug__" : Str)) = false) (hne : f ≠ ("self" : Str))
    (hf' : f' ∈ fs) (hl' : scope.names.lookup f' = some .local) (hd' : (f' == ("__debug__" : Str)) = false) (hne' : f' ≠ ("self" : Str)) (hff : f ≠ f')
    (he : ∀ L, iCall txt p0 p1 p2 p3 p4 pl (ksEnv qual scope L fI (.ref cda) cc))
    (hs : ∀ L, swapsWith (.Name f q3) (some (.Attribute (.Name "self" q1) f q2)) q4.line (ksEnv qual scope L fI (.ref cda) cc) = pure false)
    (hs' : ∀ L, swapsWith (.Name f' r3) (some (.Attribute (.Name "self" r1) f' r2)) r4.line (ksEnv qual scope L fI (.ref cda) cc) = pure false)
    (hb : ∀ s kV doc pm an ct, BindsTo s (ksFn "__init__" qual (iA [(f, qf), (f', qf')] q0) [iSup txt p0 p1 p2 p3 p4 p5, iSet f q1 q2 q3 q4, iSet f' r1 r2 r3 r4] scope .none kV doc pm an (.ref cda) ct cc) ⟨[.ref x, v, v'], []⟩ [("self", .ref x), (f, v), (f', v')])
    (M : L2.Mod K mg base) (kb : ∀ b o, base.get? b = some o → s.heap.get? b = some o) (hx : s.heap.get? x = some (exO C none t0)) (hxK : K.lookup x = none) (hroom : A.depth < recursionLimit)
    (hq : ∀ h' tk dx, InitEnd s.heap h' x C dx (fun y => if y = f' then some v' else if y = f then some v else none) → R (.ok (.ret .none)) { s with heap := h', toks := tk }) :
    codeAny (model prog w) A (.call (.ref fI) ⟨[.ref x, v, v'], []⟩) R s := by
  obtain ⟨oc, od, kV, doc, pm, an, ct, osl, hF⟩ := T.fn
  have X : K.In s.heap := M.kin.keeps kb
  refine ks_codeAny_call_defAt (fd := ksFn "__init__" qual (iA [(f, qf), (f', qf')] q0) [iSup txt p0 p1 p2 p3 p4 p5, iSet f q1 q2 q3 q4, iSet f' r1 r2 r3 r4] scope .none kV doc pm an (.ref cda) ct cc) (binds := [("self", .ref x), (f, v), (f', v')])
    hroom (X _ _ hF) rfl (M.nolimit.keeps kb) (codeRec_of X T.cd) rfl (hb s kV doc pm an ct) S.cells (fun y hy => ?_) (fun h₁ hns k₁ => ?_) S.co S.gen S.kind
  · rcases List.mem_cons.mp hy with e | hy
    · rw [e]
      exact S.self
    · rcases List.mem_cons.mp hy with e | hy
      · rw [e]
        exact hl
      · rw [List.mem_singleton.mp hy]
        exact hl'
  have m1 : ([("self", Value.ref x), (f, v), (f', v')] : List (Str × Value)).reverse.lookup ("self" : Str) = some (.ref x) := by
    have z : (("self" : Str) == f) = false := by simpa using hne.symm
    have z' : (("self" : Str) == f') = false := by simpa using hne'.symm
    simp [List.lookup, z, z']
  have m2 : ([("self", Value.ref x), (f, v), (f', v')] : List (Str × Value)).reverse.lookup f = some v := by
    have z' : (f == f') = false := by simpa using hff
    simp [List.lookup, z']
  have m3 : ([("self", Value.ref x), (f, v), (f', v')] : List (Str × Value)).reverse.lookup f' = some v' := by
    simp [List.lookup]
  refine ks_wpAt_execs_cons (super_step T S (he _) rfl rfl M (fun b o e => k₁ b o (kb b o e)) hns m1 (k₁ _ _ hx) hxK fun h2 tk2 t2 k2 hx2 => ?_)
  have xL : s.heap.objs.size ≠ x := Nat.ne_of_gt (Heap.lt_size hx)
  obtain ⟨oL, es, ep, hoL, rL⟩ := hns
  have hL2 := k2 _ _ xL hoL
  have kx : ∀ {b o}, K.lookup b = some o → b ≠ x := fun {b o} e z => by
    rw [z, hxK] at e
    cases e
  have X2 : K.In h2 := fun b o e => k2 b o (kx e) (k₁ b o (X b o e))
  refine wpAt_of_wpAny (wpAny_execs_cons (set_first T S hf X2 ⟨oL, es, ep, hL2, rL⟩ m1 m2 hl hd hx2 (hs _) fun h3 tk3 dx k3 d1 d2 hx3 n3 => ?_))
  have hL3 := k3 _ _ xL hL2
  have X3 : K.In h3 := fun b o e => k3 b o (kx e) (X2 b o e)
  have l1 : s.heap.objs.size < h2.objs.size := Heap.lt_size hL2
  have dsz : s.heap.objs.size < dx := Nat.lt_of_lt_of_le l1 d1
  refine wpAny_execs_cons (set_next T S hf' X3 ⟨oL, es, ep, hL3, rL⟩ m1 m3 hl' hd' hx3 n3 (Within.cons f v Within.nil) (by simp) (hs' _) fun h4 tk4 k4 n4 => ?_)
  refine wpAny_execs_nil (hq h4 _ dx ⟨fun b o hb e => ?_, ⟨_, k4 _ _ d2.symm hx3⟩, Nat.le_of_lt dsz, d2, n4⟩)
  have e3 := k3 b o hb (k2 b o hb (k₁ b o e))
  exact k4 b o (Nat.ne_of_lt (Nat.lt_trans (Heap.lt_size e) dsz)) e3
end init

/-- a made error at e -/
structure Made (h h' : Heap) (e C d : Addr) (mA : Str → Option Value) : Prop where
  keep : ∀ b o, h.get? b = some o → h'.get? b = some o
  new : h.objs.size ≤ e
  obj : ∃ t1, h'.get? e = some (exO C (some d) t1)
  dbig : h.objs.size ≤ d
  dne : d ≠ e
  ns : h'.Ns1 d mA
/-- C(..) makes an error with the fields fs -/
def EMade (P : Program) (w : World) (base : Heap) (C : Addr) (fs : List Str) : Prop :=
  ∀ (A : Around) (s : Shared) (us : List Value) (R : Result → Shared → Prop), (∀ b o, base.get? b = some o → s.heap.get? b = some o) → A.depth + 1 < recursionLimit → us.length = fs.length →
    (∀ h' tk e d mA, Made s.heap h' e C d mA → (∀ y, mA y = (fs.zip us).lookup y) → R (.ok (.ret (.ref e))) { s with heap := h', toks := tk }) → codeAny (model P w) A (.call (.ref C) ⟨us, []⟩) R s

section made
variable {prog : Program} {w : World} {K : Frag} {mg : Str → Option Value} {base : Heap} {C fI cc cda : Addr} {qual : Str} {params : Arguments} {scope : Scope} {fs : List Str}
theorem made_of {body : List Stmt} (T : ECls prog K mg C fI cc cda qual params body scope fs) (M : L2.Mod K mg base)
    (hi : ∀ (A : Around) (s : Shared) (x t0 : Addr) (us : List Value) (R : Result → Shared → Prop), us.length = fs.length → (∀ b o, base.get? b = some o → s.heap.get? b = some o) → s.heap.get? x = some (exO C none t0) → K.lookup x = none → A.depth < recursionLimit →
      (∀ h' tk dx mA, InitEnd s.heap h' x C dx mA → (∀ y, mA y = (fs.zip us).lookup y) → R (.ok (.ret .none)) { s with heap := h', toks := tk }) → codeAny (model prog w) A (.call (.ref fI) ⟨.ref x :: us, []⟩) R s) : EMade prog w base C fs := by
  intro A s us R kb hroom hl hq
  have X : K.In s.heap := M.kin.keeps kb
  obtain ⟨nm, q, N, bs, sn, sub, ab, col, dd, k0, k1, k2, k3, k5, D, hC, _⟩ := T.cls
  obtain ⟨hp, g, dr, tk, os⟩ := s
  have k : ∀ b o, hp.get? b = some o → ((hp.push (kdv_tup us)).push (exO C none hp.objs.size)).get? b = some o := fun b o e => Heap.get?_push_of_some _ (Heap.get?_push_of_some _ e)
  have hget : ((hp.push (kdv_tup us)).push (exO C none hp.objs.size)).get? (hp.objs.size + 1) = some (exO C none hp.objs.size) := by heap_get
  have hnx : K.lookup (hp.objs.size + 1) = none := by
    cases e : K.lookup (hp.objs.size + 1) with
    | none => rfl
    | some o =>
      have z : hp.get? (hp.objs.size + 1) = some o := X _ _ e
      exact absurd (Nat.lt_of_succ_lt (Heap.lt_size z)) (Nat.lt_irrefl _)
  have hz : us.length ≤ sizeLine ∨ ¬ us.length ≤ sizeLine := Decidable.em _
  rcases hz with hz | hz
  · refine HandSPX.call_own F.excBase_Exception (fun Y => ?_) (X _ _ hC) (looks_findIn X T.iC) (fun self => bind_fn X self T.tI) hz ?_
    · simp [List.contains_cons]
    refine hi _ ⟨(hp.push (kdv_tup us)).push (exO C none hp.objs.size), g, dr, tk, os⟩ (hp.objs.size + 1) hp.objs.size us _ hl (fun b o e => k b o (kb b o e)) hget hnx ?_ fun h' tk' dx mA I e => ?_
    · show A.depth + 1 < recursionLimit
      exact hroom
    · have old : ∀ b o, hp.get? b = some o → h'.get? b = some o := fun b o e => I.keep b o (Nat.ne_of_lt (Nat.lt_succ_of_lt (Heap.lt_size e))) (k b o e)
      have z : hp.objs.size + 1 + 1 ≤ dx := by
        have q := I.dbig
        rw [Heap.size_push, Heap.size_push] at q
        exact q
      exact ⟨rfl, hq h' tk' (hp.objs.size + 1) dx mA ⟨old, Nat.le_succ _, I.obj, Nat.le_trans (Nat.le_trans (Nat.le_succ _) (Nat.le_succ _)) z, I.dne, I.ns⟩ e⟩
  · exact absurd (show us.length ≤ sizeLine by rw [hl, sizeLine_eq]; exact T.few) hz
end made

theorem lookup1 {f : Str} {v : Value} (y : Str) : (if y = f then some v else none) = ([f].zip [v]).lookup y := by
  by_cases h : y = f
  · rw [if_pos h, h]
    simp [List.lookup]
  · have z : (y == f) = false := by simpa using h
    rw [if_neg h]
    simp [List.lookup, z]
theorem lookup2 {f f' : Str} {v v' : Value} (hff : f ≠ f') (y : Str) : (if y = f' then some v' else if y = f then some v else none) = ([f, f'].zip [v, v']).lookup y := by
  by_cases h : y = f
  · have h' : ¬ y = f' := fun z => hff (h.symm.trans z)
    rw [if_neg h', if_pos h, h]
    simp [List.lookup]
  · have z : (y == f) = false := by simpa using h
    by_cases h' : y = f'
    · rw [if_pos h', h']
      have z' : (f' == f) = false := by simpa using hff.symm
      simp [List.lookup, z']
    · have z' : (y == f') = false := by simpa using h'
      rw [if_neg h, if_neg h']
      simp [List.lookup, z, z']
end Ey
namespace L2
open PySem PySem.Spec PyProof.Rows
section
variable {X : Cx} {C : Addr} {fs : List Str}
/-- C(e, ..): every argument a field -/
def tMkE (C : Addr) (fs : List Str) (ta : TA) : St → Hp → XK → Prop := fun σ H Q => ta σ H fun vs H1 => vs.length = fs.length ∧ ∀ d, H1 d = none → Q (.ref C) (some d) (upd H1 d (.xd (fs.zip vs)))
theorem relO_zip : ∀ {fs : List Str} {vs : List V} {us : List Value}, Vals vs us → ∀ y, RelO ((fs.zip vs).lookup y) ((fs.zip us).lookup y)
  | [], vs, us, _, y => by
    rw [List.zip_nil_left, List.zip_nil_left]
    trivial
  | f :: fs, _, _, .nil, y => by
    rw [List.zip_nil_right, List.zip_nil_right]
    trivial
  | f :: fs, _, _, .cons r t, y => by
    rw [List.zip_cons_cons, List.zip_cons_cons]
    cases e : y == f with
    | true =>
      simp only [List.lookup, e]
      exact r
    | false =>
      simp only [List.lookup, e]
      exact relO_zip t y
theorem pmk_e {x : Str} {a : Expr} {as : List Expr} {ta : TA} {p pos : Pos} {k : Nat} (T : Ey.EMade X.prog X.w X.base C fs) (hm : X.mg x = some (.ref C)) (hK : PySem.W.keepIn X.K (.ref C) = true) (R : Raises X (.ref C)) (hr : Room k X.A) (hk : 1 ≤ k) (ha : PA X (a :: as) ta) (hg : Gl X x := by rfl)
    (hdb : (x == ("__debug__" : Str)) = false := by decide)
    (he : starEach (a :: as) X.env = (false, eval a X.env) :: starEach as X.env := by rfl) (hpl : (backTo pos (starEach as X.env)).any (·.1) = false := by rfl) :
    PMk X (.Call (.Name x p) (a :: as) [] pos) (tMkE C fs ta) := by
  intro pins s σ H Q I h
  refine wpAny_Call_Name_kw (ld_glob I hg hm ?_ hdb)
  refine PySem.W.callWith_K (h₀ := X.base) I.ok.mod.kin hK (thn (ha.run pos pins s σ H _ I h) fun us s1 hh => ?_) he hpl
  obtain ⟨vs, H1, I1, r1, hl, q1⟩ := hh
  refine ⟨I1.kIn, ?_⟩
  show wpAny _ _ (call (.ref C) us) _ _ _
  have kb := I1.bk
  obtain ⟨hp, g, dr, tk, os⟩ := s1
  refine wpAny_call (T _ _ us _ kb (by have := hr.dp; omega) (r1.length.symm.trans hl) fun h' tk' e d mA M hmA => ?_)
  show MkP X pins σ Q (.ref e) ⟨h', g, dr, tk', os⟩
  obtain ⟨t1, hoe⟩ := M.obj
  have hns := M.ns
  obtain ⟨G', g1, g2⟩ := restrict h' fun b => decide (b ≠ e)
  have gk : ∀ b, b ≠ e → G'.get? b = h'.get? b := fun b hb => g1 b (decide_eq_true hb)
  have ge : G'.get? e = none := g2 e (by simp)
  have old : ∀ b o, hp.get? b = some o → G'.get? b = some o := fun b o q => (gk b (Nat.ne_of_lt (Nat.lt_of_lt_of_le (Heap.lt_size q) M.new))).trans (M.keep b o q)
  have ob : ObjOk X.prog X.w (upd H1 d (.xd (fs.zip vs))) G' d (.xd (fs.zip vs)) :=
    ⟨mA, hns.at (fun o q => (gk d M.dne).trans q), fun f => by
      rw [hmA]
      exact relO_zip r1 f⟩
  have J : Inv X pins σ (upd H1 d (.xd (fs.zip vs))) ⟨G', g, dr, tk', os⟩ := I1.laid (t' := tk') old M.dbig ob
  refine ⟨e, _, _, ⟨G', g, dr, tk', os⟩, _, .ref C, some d, rfl, J, fun b o q => ?_, ge, hoe, ⟨rfl, rfl⟩, rfl, rfl, ?_, rfl, I1.bare, R, q1 d (I1.hok.fresh M.dbig)⟩
  · by_cases hb : b = e
    · have q' : G'.get? b = some o := q
      rw [hb, ge] at q'
      cases q'
    · exact (gk b hb).symm.trans q
  · rw [upd_ne (Ne.symm M.dne)]
    exact I1.hok.fresh M.new
/-- raise C(e, ..) -/
theorem ps_raiseE {x : Str} {a : Expr} {as : List Expr} {ta : TA} {W : WX} {p pos pos2 : Pos} {k : Nat} (hc : X.calm = true) (T : Ey.EMade X.prog X.w X.base C fs) (hm : X.mg x = some (.ref C)) (hK : PySem.W.keepIn X.K (.ref C) = true) (R : Raises X (.ref C)) (hr : Room k X.A) (hk : 1 ≤ k) (tk : Takes X W)
    (ha : PA X (a :: as) ta) (hg : Gl X x := by rfl) (hdb : (x == ("__debug__" : Str)) = false := by decide)
    (he : starEach (a :: as) X.env = (false, eval a X.env) :: starEach as X.env := by rfl) (hpl : (backTo pos (starEach as X.env)).any (·.1) = false := by rfl) :
    PS X (.Raise (some (.Call (.Name x p) (a :: as) [] pos)) none pos2) (fun _ σ H => tMkE C fs ta σ H fun cls d H' => W cls d σ H') :=
  ps_raise hc tk (pmk_e T hm hK R hr hk ha hg hdb he hpl)
end
end L2

set_option Elab.async false
set_option linter.all false
set_option maxRecDepth 100000
set_option maxHeartbeats 4000000
/-! try: body, several clauses «except C as n», one name for all. -/
namespace L2
open PySem PySem.Spec PyProof.Rows
/-- the ends of a suite behind which slot i is empty -/
abbrev Ends.gone (D : Ends) (i : Nat) : Ends := { nx := fun σ' H' => D.nx (σ'.set i none) H', rt := D.rt, bk := fun σ' H' => D.bk (σ'.set i none) H', ct := fun σ' H' => D.ct (σ'.set i none) H' }
def wClauses (K : PySem.W.Frag) (i : Nat) (Wout : WX) (D : Ends) : List (Value × (Addr → Value → Option Addr → TS)) → WX
  | [] => Wout
  | p :: r => fun cls d σ H => ∃ b, PySem.W.exmOne K cls p.1 = some b ∧ (b = true → ∀ a, H a = none → p.2 a cls d (D.gone i) (σ.set i (some (.ref a))) H) ∧ (b = false → wClauses K i Wout D r cls d σ H)
inductive Clauses (X : Cx) (n : Str) : List ExceptHandler → List (Value × (Addr → Value → Option Addr → TS)) → Prop
  | nil : Clauses X n [] []
  | cons {x : Str} {c : Value} {ts : Addr → Value → Option Addr → TS} {b₀ : Stmt} {suite : List Stmt} {np pos' : Pos} {hds : List ExceptHandler} {l : List (Value × (Addr → Value → Option Addr → TS))} (hc : Names X x c)
      (hsu : ∀ (a : Addr) (oe : Obj) (cls : Value) (d : Option Addr) (pn : List (Addr × Obj)), Zc cls d oe → (∃ vs, oe.data = .fields vs) → PSs (X.suite a ((a, oe) :: pn)) (b₀ :: suite) (ts a cls d)) (r : Clauses X n hds l) :
      Clauses X n (.ExceptHandler (some (.Name x np)) (some n) (b₀ :: suite) pos' :: hds) ((c, ts) :: l)
section
variable {X : Cx} {n : Str} {i : Nat} {body : List Stmt} {h₀ : ExceptHandler} {hds : List ExceptHandler} {l : List (Value × (Addr → Value → Option Addr → TS))} {pos : Pos} {tb : WX → TS} {Wout : WX}
theorem ps_try_clauses (hs : X.stack = X.env :: X.outer) (hf : X.env.frame = some X.env.locals) (hN : X.N.Nodup) (hi : X.N[i]? = some n) (hln : X.env.kindOf n = some .local) (tk : Takes X Wout)
    (hb : ∀ (W : WX) (pn : List (Addr × Obj)) (xe : Value → Shared → Prop), Takes (X.tr pn xe) W → PassesOwn (model X.prog X.w) X.A X.env xe → PSs (X.tr pn xe) body (tb W))
    (hh : Clauses X n (h₀ :: hds) l) : PS X (.Try body (h₀ :: hds) [] [] pos) (fun D σ H => tb (wClauses X.K i Wout D l) D σ H) := by
  refine ⟨fun pins s σ H D I h => ?_⟩
  have ok := I.ok
  have hfr : X.A.frames = some (X.env :: X.outer) := by
    rw [ok.frames, hs]
  have hloc : Loc X.env.scope n := .inl hln
  refine wpAny_Try_except ?_
  have run := (hb (wClauses X.K i Wout D l) (X.pn ++ pins) (fun e s₁ => wpAny (model X.prog X.w) X.A (noteFrame e X.env) (fun _ s₂ => wpAny (model X.prog X.w) X.A (setFlight e none) (fun _ s₃ =>
    wpAny (model X.prog X.w) X.A (handleBy e X.env (h₀ :: hds)) (SP X pins D) X.xe s₃) X.xe s₂) X.xe s₁) (fun u s' xx => ?_) PassesOwn.looking).run [] s σ H D (I.toTry _) h
  · refine wpAny_mono run (fun f s1 hsp => ?_) fun e s1 he => he
    cases f with
    | ret u =>
      obtain ⟨v, σ', H', J', r, q⟩ := hsp
      exact ⟨v, σ', H', J'.ofTry ok, r, q⟩
    | next =>
      obtain ⟨σ', H', J', q⟩ := hsp
      exact wpAny_execs_nil ⟨σ', H', J'.ofTry ok, q⟩
    | brk =>
      obtain ⟨σ', H', J', q⟩ := hsp
      exact ⟨σ', H', J'.ofTry ok, q⟩
    | cont =>
      obtain ⟨σ', H', J', q⟩ := hsp
      exact ⟨σ', H', J'.ofTry ok, q⟩
  obtain ⟨a, B, sI, pins', σ', H', cls, d, rfl, J', nb, up, sky, na, os, ag, w⟩ := xx
  have J : Inv X pins σ' H' sI := J'.ofTry ok
  have sky' : Sky B (X.env :: X.outer) a (Zc cls d) X.env.locals s'.heap := by
    rw [← hs]
    exact sky
  show wpAny (model X.prog X.w) X.A (noteFrame (.ref a) X.env) _ _ _
  refine Sky.land Zc.steady hfr hf sky' fun h3 fl3 up3 => ?_
  have J3 : Inv X pins σ' H' { s' with heap := h3 } := J.landed nb fl3.1 (up.trans up3) os ag
  obtain ⟨oe3, vs3, he3, hz3, hd3⟩ := fl3.there
  have nfr : a ∉ frs (X.env :: X.outer) := fun hm => by
    obtain ⟨_, o', e', hnf⟩ := fl3.2.2.1.mem hm
    rw [he3] at e'
    cases e'
    exact hnf _ hd3
  have nL : a ≠ X.env.locals := fun z => nfr (List.mem_filterMap.mpr ⟨X.env, List.mem_cons_self, by rw [hf, z]⟩)
  have nF : a ∉ X.fs := fun hm => by
    obtain ⟨e, he, q⟩ := List.mem_filterMap.mp hm
    exact nfr (List.mem_filterMap.mpr ⟨e, List.mem_cons_of_mem _ he, q⟩)
  have S3 := J3.suite he3 hd3 na nL nF
  have go : ∀ {hds' : List ExceptHandler} {l' : List (Value × (Addr → Value → Option Addr → TS))}, Clauses X n hds' l' → wClauses X.K i Wout D l' cls d σ' H' →
      wpAny (model X.prog X.w) X.A (handleBy (.ref a) X.env hds') (SP X pins D) X.xe { s' with heap := h3 } := by
    intro hds' l' hk
    induction hk with
    | nil =>
      intro w
      refine wpAny_handleBy_nil ?_
      obtain ⟨k1, k2, k3, oe, vs, T, oT, ts', he, hz, hd, h1, hr⟩ := id fl3
      unfold PySem.passOn
      refine wpAny_bind (wpAny_field he hd h1 ?_)
      rw [if_neg (by simp)]
      have fin : wpAny (model X.prog X.w) X.A (setFlight (.ref a) X.env.frame) (fun _ s4 => wpAny (model X.prog X.w) X.A (throw (.ref a) : Sem Flow) (SP X pins D) X.xe s4) X.xe { s' with heap := h3 } := by
        rw [hf]
        refine HandSPX.setFlight_upZ fl3 fun h4 hh4 up4 => wpAny_throw (tk _ _ ?_)
        exact ⟨a, B, sI, pins, σ', H', cls, d, rfl, J, nb, (up.trans up3).trans up4, .inr (.inr (by rw [hs]; exact hh4)), na, os, ag, w⟩
      first
        | exact wpAny_bind (wpAny_pure (wpAny_bind fin))
        | exact wpAny_bind fin
    | @cons x c ts b₀ suite np pos' hds2 l2 hc hsu r ih =>
      intro w
      obtain ⟨b, hb1, hyes, hno⟩ := w
      refine wpAny_handleBy_cons (codeAny_handlers_test ?_) (by intro q; cases q)
      have LT : PySem.W.Looks (model X.prog X.w) h3 (typeOf (.ref a)) cls := fun A Q E s k q => wpAny_typeOf_ref (k _ _ he3) (by rw [hz3.1]; exact q)
      have LM := PySem.W.exm_one (M := model X.prog X.w) (J3.kIn) LT hb1
      have test : ∀ {Q : Value → Shared → Prop} {E : Value → Shared → Prop}, Q c { s' with heap := h3 } → wpAny (model X.prog X.w) (X.A.mark (some (.ref a))) (eval (.Name x np) X.env) Q E { s' with heap := h3 } := fun {Q E} q => by
        obtain ⟨hg, hdbg, hm | ⟨hm, hv, hnn⟩⟩ := hc
        · exact ld_glob (X := X.suite a ((a, oe3) :: (X.pn ++ pins))) S3 hg hm q hdbg
        · exact ld_blt (X := X.suite a ((a, oe3) :: (X.pn ++ pins))) S3 hg hm hv q hnn hdbg
      refine test (LM.here ?_)
      cases b with
      | false =>
        show wpAny _ X.A (handleBy (.ref a) X.env hds2) _ _ _
        exact ih (hno rfl)
      | true =>
        refine codeAny_handlers_suite_as ?_
        refine HandSPX.lands_againZ fl3 fun h4 fl4 up4 => ?_
        have J4 : Inv X pins σ' H' { s' with heap := h4 } := J.landed nb fl4.1 ((up.trans up3).trans up4) os ag
        obtain ⟨oe4, vs4, he4, hz4, hd4⟩ := fl4.there
        have S4 := J4.suite he4 hd4 na nL nF
        refine store_ok (X := X.suite a ((a, oe4) :: (X.pn ++ pins))) (v := .ref a) S4 hN hi hloc rfl (fun s5 S5 => ?_) (.inr hln)
        refine wpAny_mono ((hsu a oe4 cls d (X.pn ++ pins) hz4 ⟨_, hd4⟩).run [] s5 _ H' _ S5 (hyes rfl a na)) (fun f s6 hsp => ?_) (fun _ _ z => False.elim z)
        have end_ : ∀ {σ6 : St} {H6 : Hp} {Q : Shared → Prop}, Inv (X.suite a ((a, oe4) :: (X.pn ++ pins))) [] σ6 H6 s6 → (∀ s7, Inv X pins (σ6.set i none) H6 s7 → Q s7) →
            wpAny (model X.prog X.w) X.A (do bindName X.env n .none; unbindBehindTheSuite X.env n pos') (fun _ s7 => Q s7) X.xe s6 := fun {σ6 H6 Q} S6 hq => gone_ok (S6.unsuite ok) hN hi hln hq
        cases f with
        | ret u =>
          obtain ⟨v6, σ6, H6, S6, r6, q6⟩ := hsp
          exact end_ S6 fun s7 J7 => ⟨_, _, _, J7, r6, q6⟩
        | next =>
          obtain ⟨σ6, H6, S6, q6⟩ := hsp
          exact end_ S6 fun s7 J7 => ⟨_, _, J7, q6⟩
        | brk =>
          obtain ⟨σ6, H6, S6, q6⟩ := hsp
          exact end_ S6 fun s7 J7 => ⟨_, _, J7, q6⟩
        | cont =>
          obtain ⟨σ6, H6, S6, q6⟩ := hsp
          exact end_ S6 fun s7 J7 => ⟨_, _, J7, q6⟩
  exact go hh w
end
end L2

set_option Elab.async false
set_option linter.all false
set_option maxRecDepth 100000
set_option maxHeartbeats 4000000
/-! A lambda handed to a def: an object that is known, with the cells that it holds, while the callee runs. -/
namespace Clo
open PySem PySem.Spec PyProof.Rows L2 LamX

/-- just this object stands at b -/
def exa (b : Addr) (o : Obj) : HO := .ext fun h => h.get? b = some o
section
variable {P : Program} {w : World} {H : Hp} {h : Heap} {b x : Addr} {o : Obj} {xs : List V} {u : HO} {ps : Array Value}
theorem exa_ok (e : h.get? b = some o) : ObjOk P w H h b (exa b o) := ⟨e, ⟨o, e⟩, fun _ _ z k => k _ z⟩
theorem exa_get (ok : HOk P w H h) (e : H b = some (exa b o)) : h.get? b = some o := by
  have z : ObjOk P w H h b (.ext fun h => h.get? b = some o) := ok b _ e
  exact z.1
theorem exa_own : exa b o ≠ .own x := fun z => by
  have z' : HO.ext _ = HO.own x := z
  cases z'
theorem exa_tup : exa b o ≠ .tup xs := fun z => by
  have z' : HO.ext _ = HO.tup xs := z
  cases z'
theorem exa_frz {o' : Obj} : exa b o ≠ .frz o' u := fun z => by
  have z' : HO.ext _ = HO.frz o' u := z
  cases z'
theorem exa_tbl : exa b o ≠ .tbl ps := fun z => by
  have z' : HO.ext _ = HO.tbl ps := z
  cases z'
end
abbrev Ds := List (Addr × Obj)
theorem memD : ∀ {l : Ds} {b : Addr} {o : Obj}, l.lookup b = some o → (b, o) ∈ l
  | [], b, o, e => by cases e
  | (a, p) :: l, b, o, e => by
    cases q : b == a with
    | true =>
      simp only [List.lookup, q] at e
      cases e
      rw [eq_of_beq q]
      exact List.mem_cons_self ..
    | false =>
      simp only [List.lookup, q] at e
      exact List.mem_cons_of_mem _ (memD e)
theorem lookD : ∀ {l : Ds} {b : Addr} {o : Obj}, (b, o) ∈ l → ∃ o', l.lookup b = some o'
  | [], b, o, h => by cases h
  | (a, p) :: l, b, o, h => by
    cases q : b == a with
    | true => exact ⟨p, by simp only [List.lookup, q]⟩
    | false =>
      rcases List.mem_cons.mp h with z | z
      · cases z
        simp at q
      · obtain ⟨o', e⟩ := lookD z
        exact ⟨o', by simp only [List.lookup, q]; exact e⟩
def drop (D : Ds) (H : Hp) : Hp := fun b => match D.lookup b with
  | some _ => none
  | none => H b
def put (D : Ds) (H : Hp) : Hp := fun b => match D.lookup b with
  | some o => some (exa b o)
  | none => H b
def Held (D : Ds) (H : Hp) : Prop := ∀ b o, D.lookup b = some o → H b = some (exa b o)
def Off (D : Ds) (H : Hp) : Prop := ∀ b o, D.lookup b = some o → H b = none
section
variable {D : Ds} {H : Hp} {b : Addr} {o : Obj} {u : HO}
theorem drop_out (e : D.lookup b = none) : drop D H b = H b := by
  unfold drop
  rw [e]
theorem drop_in (e : D.lookup b = some o) : drop D H b = none := by
  unfold drop
  rw [e]
theorem put_out (e : D.lookup b = none) : put D H b = H b := by
  unfold put
  rw [e]
theorem put_in (e : D.lookup b = some o) : put D H b = some (exa b o) := by
  unfold put
  rw [e]
theorem held_put : Held D (put D H) := fun _ _ e => put_in e
theorem put_drop (h : Held D H) : put D (drop D H) = H := by
  funext b
  cases e : D.lookup b with
  | none => rw [put_out e, drop_out e]
  | some o => rw [put_in e, h b o e]
theorem drop_put (h : Off D H) : drop D (put D H) = H := by
  funext b
  cases e : D.lookup b with
  | none => rw [drop_out e, put_out e]
  | some o => rw [drop_in e, h b o e]
theorem off_drop : Off D (drop D H) := fun _ _ e => drop_in e
theorem drop_none (h : H b = none) : drop D H b = none := by
  cases e : D.lookup b with
  | none => rw [drop_out e, h]
  | some o => rw [drop_in e]
theorem Held.out (h : Held D H) (e : H b = some u) (n : ∀ o, u ≠ exa b o) : D.lookup b = none := by
  cases q : D.lookup b with
  | none => rfl
  | some o =>
    rw [h b o q] at e
    exact absurd (Option.some.inj e).symm (n o)
theorem Held.drop_at (h : Held D H) (e : H b = some u) (n : ∀ o, u ≠ exa b o) : drop D H b = some u := by
  rw [drop_out (h.out e n), e]
theorem Off.put_at (h : Off D H) (e : H b = some u) : put D H b = some u := by
  cases q : D.lookup b with
  | none => rw [put_out q, e]
  | some o =>
    rw [h b o q] at e
    cases e
end
section
variable {P : Program} {w : World} {K : PySem.W.Frag} {mg : Str → Option Value} {base : Heap} {D : Ds} {H H' : Hp} {h : Heap}
theorem hok_drop (ok : HOk P w H h) (hd : Held D H) : HOk P w (drop D H) h := fun b u e => by
  cases q : D.lookup b with
  | some o =>
    rw [drop_in q] at e
    cases e
  | none =>
    rw [drop_out q] at e
    exact (ok b u e).stay (fun _ _ _ z => z) (fun c z => hd.drop_at z fun _ y => exa_own y.symm) fun c xs z => hd.drop_at z fun _ y => exa_tup y.symm
theorem hok_put (ok : HOk P w H h) (ho : Off D H) (hf : ∀ b o, D.lookup b = some o → h.get? b = some o) : HOk P w (put D H) h := fun b u e => by
  cases q : D.lookup b with
  | some o =>
    rw [put_in q] at e
    cases e
    exact exa_ok (hf b o q)
  | none =>
    rw [put_out q] at e
    exact (ok b u e).stay (fun _ _ _ z => z) (fun c z => ho.put_at z) fun c xs z => ho.put_at z
theorem env0_drop {A : Around} {outer : List Env} {s : Shared} (e : Env0 P w K mg base A outer s H) (hd : Held D H) : Env0 P w K mg base A outer s (drop D H) :=
  ⟨e.frames, e.mod, fun b o z => ⟨(e.bs b o z).1, drop_none (e.bs b o z).2⟩, e.bsz, e.funs, fun b hb => drop_none (e.frf b hb), hok_drop e.hok hd, e.bare⟩
/-- what is known of D alone may stand or not -/
theorem un_put {fs : List Addr} {h' : Heap} (u : Un fs [] (drop D H) H' h h') (hd : Held D H) : Un fs [] H (put D H') h h' where
  keep := fun b o e n hb hx => u.keep b o e (drop_none n) hb hx
  slot := fun b o e n hb hx => u.slot b o e (drop_none n) hb hx
  free := fun b o e n hx => by
    have q : D.lookup b = none := by
      cases q : D.lookup b with
      | none => rfl
      | some o =>
        rw [hd b o q] at n
        cases n
    rw [put_out q]
    exact u.free b o e (drop_none n) hx
  there := u.there
  tups := fun b xs e => by
    rw [put_out (hd.out e fun _ y => exa_tup y.symm)]
    exact u.tups b xs (hd.drop_at e fun _ y => exa_tup y.symm)
  frzs := fun b o v e => by
    rw [put_out (hd.out e fun _ y => exa_frz y.symm)]
    exact u.frzs b o v (hd.drop_at e fun _ y => exa_frz y.symm)
  tbls := fun b ps e => by
    rw [put_out (hd.out e fun _ y => exa_tbl y.symm)]
    exact u.tbls b ps (hd.drop_at e fun _ y => exa_tbl y.symm)
theorem un_drop {fs : List Addr} {h' : Heap} (u : Un fs [] (put D H) H' h h') (ho : Off D H) (hd : Held D H') (ok : HOk P w H' h') (hf : ∀ b o, D.lookup b = some o → h.get? b = some o) : Un fs [] H (drop D H') h h' where
  keep := fun b o e n hb hx => by
    cases q : D.lookup b with
    | none => exact u.keep b o e (by rw [put_out q]; exact n) hb hx
    | some o' =>
      rw [hf b o' q] at e
      cases e
      exact exa_get ok (hd b _ q)
  slot := fun b o e n hb hx => by
    cases q : D.lookup b with
    | none => exact u.slot b o e (by rw [put_out q]; exact n) hb hx
    | some o' =>
      rw [hf b o' q] at e
      cases e
      exact ⟨_, exa_get ok (hd b _ q)⟩
  free := fun b o e n hx => by
    cases q : D.lookup b with
    | none =>
      rw [drop_out q]
      exact u.free b o e (by rw [put_out q]; exact n) hx
    | some o' => exact drop_in q
  there := u.there
  tups := fun b xs e => by
    have z := u.tups b xs (ho.put_at e)
    exact hd.drop_at z fun _ y => exa_tup y.symm
  frzs := fun b o v e => by
    have z := u.frzs b o v (ho.put_at e)
    exact hd.drop_at z fun _ y => exa_frz y.symm
  tbls := fun b ps e => by
    obtain ⟨more, z⟩ := u.tbls b ps (ho.put_at e)
    exact ⟨more, hd.drop_at z fun _ y => exa_tbl y.symm⟩
theorem cx_put {outer : List Env} {s s' : Shared} {E : XK} {e : Value} (c : L2.CX P w outer (drop D H) s (fun cls d H'' => Off D H'' → E cls d (put D H'')) e s') (hd : Held D H) (hok : HOk P w H s.heap) (hn : ∀ b o, D.lookup b = some o → b ∉ frs outer) :
    L2.CX P w outer H s E e s' := by
  obtain ⟨a, B, H'', cls, d, rfl, fl, ok, ub, na, os, ag, q⟩ := c
  have inB : ∀ b o, D.lookup b = some o → B.get? b = some o := fun b o z => ub.keep b o (exa_get hok (hd b o z)) (drop_in z) (hn b o z)
  have off : Off D H'' := fun b o z => ub.free b o (exa_get hok (hd b o z)) (drop_in z)
  have nD : D.lookup a = none := by
    cases z : D.lookup a with
    | none => rfl
    | some o =>
      have y := inB a o z
      rw [fl.2.1] at y
      cases y
  refine ⟨a, B, put D H'', cls, d, rfl, fl, hok_put ok off inB, ?_, by rw [put_out nD]; exact na, os, ag, q off⟩
  exact {
    keep := fun b o e n hb => ub.keep b o e (drop_none n) hb
    slot := ub.slot
    free := fun b o e n => by
      have q : D.lookup b = none := by
        cases q : D.lookup b with
        | none => rfl
        | some o =>
          rw [hd b o q] at n
          cases n
      rw [put_out q]
      exact ub.free b o e (drop_none n)
    there := ub.there
    tups := fun b xs e => by
      rw [put_out (hd.out e fun _ y => exa_tup y.symm)]
      exact ub.tups b xs (hd.drop_at e fun _ y => exa_tup y.symm)
    frzs := fun b o v e => by
      rw [put_out (hd.out e fun _ y => exa_frz y.symm)]
      exact ub.frzs b o v (hd.drop_at e fun _ y => exa_frz y.symm)
    tbls := fun b ps e => by
      rw [put_out (hd.out e fun _ y => exa_tbl y.symm)]
      exact ub.tbls b ps (hd.drop_at e fun _ y => exa_tbl y.symm) }
end

/-! ### the making of a lambda: as the library's, and that the object is new -/
section
variable {X : Cx} {pins : List (Addr × Obj)} {σ : L2.St} {H : Hp} {s : Shared}
/-- what is known once a lambda has been made at f, its code object at c' -/
structure LamNew (X : Cx) (pins : List (Addr × Obj)) (σ : L2.St) (Tb : List (Addr × Str)) (H : Hp) (s : Shared) (params : Arguments) (body : Expr) (scope : Scope) (f c' : Addr) (pm ctv : Value) (H1 : Hp) (s' : Shared) : Prop where
  inv : Inv X pins σ H1 s'
  ext : ExtN H H1
  tabs : Tabs Tb H1
  obj : s'.heap.get? f = some (PySem.W.kla_obj "<lambda>" (X.env.qual ++ "<lambda>") params body scope (cloFrom X.env.cells scope.names []) pm c' ctv)
  free : H1 f = none
  new : s.heap.objs.size ≤ f
  code : H1 c' = some (CodeO c' (X.env.qual ++ "<lambda>"))
theorem mk_lam {Tb : List (Addr × Str)} {c P : Addr} {params : Arguments} {body : Expr} {scope : Scope} {pos : Pos} {E : Value → Shared → Prop} {Q : Value → Shared → Prop} (I : Inv X pins σ H s)
    (TB : TabB X.base X.mg c P) (hcode : X.env.code = .ref c) (hm : (P, X.env.qual ++ "<lambda>") ∈ Tb) (hu : ∀ p ∈ Tb, p.1 = P → p.2 = X.env.qual ++ "<lambda>") (hT : Tabs Tb H) (hdef : defaultsOf params X.env = ([], []))
    (hfree : ∀ y ∈ scope.names, y.2 = .free → ∃ c, X.env.cells.lookup y.1 = some c)
    (h : ∀ (f c' : Addr) (pm ctv : Value) (H1 : Hp) (s' : Shared), LamNew X pins σ Tb H s params body scope f c' pm ctv H1 s' → Q (.ref f) s') :
    wpAny (model X.prog X.w) X.A (eval (.Lambda params body scope pos) X.env) Q E s := by
  obtain ⟨ps, tP, okP, inP⟩ := hT _ hm
  have seesP := I.hok P _ tP
  have blt := TB.bm.keeps I.bk
  apply PySem.W.kla_eval hdef
  rcases q : codeAmong pos ps.toList with _ | cv
  · apply PySem.W.kla_makeFunction (P := P) (ps := ps) (c := c) (mg := X.mg) (closure_ok hfree) I.ok.glob (I.mod.glob.keeps I.bk) hcode (TB.code.keeps I.bk) seesP okP q TB.gP blt
    rintro c' ctv h' tk ex ge lt ⟨c0, oc, vs, t, e0, goc, dat, nam⟩ tab
    cases e0
    have newC := I.hok.fresh ge
    have big := Nat.le_trans ge (Nat.le_of_lt lt)
    have J := inv_table (t' := tk) (more := #[rawInt pos.line, rawInt pos.col, .ref c']) (h' := h'.push (PySem.W.kla_obj "<lambda>" (X.env.qual ++ "<lambda>") params body scope (cloFrom X.env.cells scope.names []) ((X.mg "__name__").getD .none) c' ctv))
      I tP (fun b o nb e => Heap.get?_push_of_some _ (ex b o nb e)) (Heap.get?_push_of_some _ tab) ge ⟨oc, vs, t, Heap.get?_push_of_some _ goc, dat, nam⟩
    have old : ExtN H (upd (upd H P (.tbl (ps ++ #[rawInt pos.line, rawInt pos.col, .ref c']))) c' (CodeO c' (X.env.qual ++ "<lambda>"))) := by
      intro b o e n
      have n1 : b ≠ c' := ne_of_none e newC
      have n2 : b ≠ P := by
        rintro rfl
        rw [tP] at e
        exact n ps (Option.some.inj e).symm
      rw [upd_ne n1, upd_ne n2, e]
    have nPc : P ≠ c' := ne_of_none tP newC
    have nf : h'.objs.size ≠ c' := Nat.ne_of_gt lt
    have nfP : h'.objs.size ≠ P := Nat.ne_of_gt (Nat.lt_of_lt_of_le (Heap.lt_size seesP) big)
    refine h h'.objs.size c' _ ctv _ _ ⟨J, old, ?_, Heap.get?_push_size _ rfl, by rw [upd_ne nf, upd_ne nfP]; exact I.hok.fresh big, big, upd_same⟩
    intro p hp
    by_cases eP : p.1 = P
    · rw [hu p hp eP, eP]
      have el : (ps ++ #[rawInt pos.line, rawInt pos.col, .ref c']).toList = ps.toList ++ [rawInt pos.line, rawInt pos.col, .ref c'] := by simp
      refine ⟨ps ++ #[rawInt pos.line, rawInt pos.col, .ref c'], by rw [upd_ne nPc, upd_same], el ▸ PySem.TriplesOk_snoc _ _ _ _ okP, ?_⟩
      intro p' cv among
      rw [el] at among
      cases among_app _ okP among with
      | inl z =>
        obtain ⟨c1, ec, known⟩ := inP p' cv z
        exact ⟨c1, ec, old _ _ known codeO_ne⟩
      | inr z => exact ⟨c', z, upd_same⟩
    · obtain ⟨ps', tP', okP', inP'⟩ := hT p hp
      refine ⟨ps', by rw [upd_ne (ne_of_none tP' newC), upd_ne eP, tP'], okP', ?_⟩
      intro p' cv among
      obtain ⟨c1, ec, known⟩ := inP' p' cv among
      exact ⟨c1, ec, old _ _ known codeO_ne⟩
  · obtain ⟨c', ec, known⟩ := inP pos cv q
    subst ec
    apply PySem.W.kla_makeFunctionHit (P := P) (ps := ps) (c := c) (mg := X.mg) (closure_ok hfree) I.ok.glob (I.mod.glob.keeps I.bk) hcode (TB.code.keeps I.bk) seesP okP q blt
    intro ctv h' tk ex big
    have J : Inv X pins σ H { s with heap := h'.push (PySem.W.kla_obj "<lambda>" (X.env.qual ++ "<lambda>") params body scope (cloFrom X.env.cells scope.names []) ((X.mg "__name__").getD .none) c' ctv), toks := tk } :=
      I.kept fun b o e => Heap.get?_push_of_some _ (ex b o e)
    exact h h'.objs.size c' _ ctv H _ ⟨J, ExtN.refl H, hT, Heap.get?_push_size _ rfl, I.hok.fresh big, big, known⟩
end
/-- the value at f may be called, without arguments: T tells what for, wherever what is known (but for tables) still stands -/
structure CallOk (P : Program) (w : World) (K : PySem.W.Frag) (mg : Str → Option Value) (base : Heap) (k : Nat) (H : Hp) (f : Addr) (T : Hp → VK → XK → Prop) : Prop where
  fn : ∃ oc od fd sl, H f = some (exa f ⟨oc, od, .func fd, sl⟩)
  run : ∀ (A : Around) (outer : List Env) (s : Shared) (H' : Hp) (Q : VK) (E : XK), ExtN H H' → Room k A → Env0 P w K mg base A outer s H' → T H' Q E → codeAny (model P w) A (.call (.ref f) ⟨[], []⟩) (CR (L2.CX P w) outer P w H' s Q E) s
theorem exa_ne {b : Addr} {o : Obj} (ps : Array Value) : exa b o ≠ .tbl ps := exa_tbl
theorem CallOk.ext {P : Program} {w : World} {K : PySem.W.Frag} {mg : Str → Option Value} {base : Heap} {k : Nat} {H H' : Hp} {f : Addr} {T : Hp → VK → XK → Prop} (c : CallOk P w K mg base k H f T) (e : ExtN H H') : CallOk P w K mg base k H' f T :=
  ⟨c.fn.imp fun _ h => h.imp fun _ h => h.imp fun _ h => h.imp fun _ h => e _ _ h exa_ne, fun A outer s H'' Q E e' => c.run A outer s H'' Q E (e.trans e')⟩
theorem CallOk.imp {P : Program} {w : World} {K : PySem.W.Frag} {mg : Str → Option Value} {base : Heap} {k : Nat} {H : Hp} {f : Addr} {T T' : Hp → VK → XK → Prop} (c : CallOk P w K mg base k H f T) (h : ∀ H' Q E, ExtN H H' → T' H' Q E → T H' Q E) : CallOk P w K mg base k H f T' :=
  ⟨c.fn, fun A outer s H' Q E e hr e0 ht => c.run A outer s H' Q E e hr e0 (h H' Q E e ht)⟩
theorem CallOk.mono {P : Program} {w : World} {K : PySem.W.Frag} {mg : Str → Option Value} {base : Heap} {j k : Nat} {H : Hp} {f : Addr} {T : Hp → VK → XK → Prop} (c : CallOk P w K mg base j H f T) (h : j ≤ k) : CallOk P w K mg base k H f T :=
  ⟨c.fn, fun A outer s H' Q E e hr => c.run A outer s H' Q E e (hr.mono h)⟩

section
variable {X : Cx} {pins : List (Addr × Obj)} {σ : L2.St} {H HZ : Hp} {s s1 : Shared}
theorem start_clo {A : Around} {outer : List Env} {E : XK} {scope : Scope} {f c' : Addr} {h₁ : Heap} {tk : Nat} (I : Inv X pins σ H s) (L : LamS X.env.scope scope) (e0 : Env0 X.prog X.w X.K X.mg X.base A outer s1 HZ) (hd : A.handled = none)
    (hc : ∀ y c, (cloFrom X.env.cells scope.names []).lookup y = some c → HZ c = none ∧ ∃ o, s.heap.get? c = some o ∧ s1.heap.get? c = some o)
    (hns : h₁.Ns s1.heap.objs.size fun y => ([] : List (Str × Value)).reverse.lookup y) (kp : ∀ b o, s1.heap.get? b = some o → h₁.get? b = some o) :
    Inv (lamCx X A outer s1 HZ E scope f c') [] σ HZ { s1 with heap := h₁, toks := tk } := by
  have hfree := L.has I.ok
  have cm : ∀ {y c}, (cloFrom X.env.cells scope.names []).lookup y = some c → X.env.cells.lookup y = some c := fun {y c} e => by
    rcases cloFrom_mem (PySem.mem_of_lookup e) with hm | ⟨h1, h2⟩
    · cases hm
    · obtain ⟨c1, hc⟩ := hfree _ h1 rfl
      have hc : X.env.cells.lookup y = some c1 := hc
      have e2 : c = c1 := by
        rw [h2, hc] <;> rfl
      rw [e2]
      exact hc
  have look : ∀ {y}, scope.names.lookup y = some .free → ∃ c, (cloFrom X.env.cells scope.names []).lookup y = some c := fun {y} hl => by
    have hy : (y, NameKind.free) ∈ scope.names := PySem.mem_of_lookup hl
    exact mem_lookup (cloFrom_has (cells := X.env.cells) (acc := []) hy)
  have cellK : ∀ {y c} {v : Option Value}, (cloFrom X.env.cells scope.names []).lookup y = some c → s.heap.IsCell c v → h₁.IsCell c v := fun {y c v} e ⟨o, ho, hdt⟩ => by
    obtain ⟨_, o', e1, e2⟩ := hc y c e
    rw [ho] at e1
    cases e1
    exact ⟨_, kp _ _ e2, hdt⟩
  have noA : ∀ b : Addr, b ∉ (lamCx X A outer s1 HZ E scope f c').ex := fun b z => absurd (show b ∈ ([] : List Addr) from z) (by simp)
  have okk : (lamCx X A outer s1 HZ E scope f c').Ok := by
    refine ⟨e0.mod, L.kind, rfl, rfl, Nat.le_refl _, fun y z c e1 e2 => I.ok.inj y z c (cm e1) (cm e2), fun y hy => ?_, fun y c z _ => ?_, fun _ => hd, Around.frames_deeper e0.frames, .inr ⟨rfl, rfl⟩, fun b z => absurd z (noA b), e0.bs, e0.bsz, fun b _ _ => noA b, fun b z => absurd z (noA b), e0.funs, e0.frf⟩
    · have hy : scope.names.lookup y = some .cell ∨ scope.names.lookup y = some .free := hy
      rcases hy with hy | hy
      · exact absurd rfl (L.own _ (PySem.mem_of_lookup hy)).2
      · exact look hy
    · have z : false = true := z
      cases z
  refine ⟨okk, rfl, e0.bare, Un.kept kp, ⟨_, hns, fun i y v e1 e2 e3 => ?_⟩, fun y c e => ?_, e0.hok.fresh (Nat.le_refl _), fun y c e => (hc y c e).1, fun q hq => absurd (show q ∈ ([] : List (Addr × Obj)) ++ [] from hq) (by simp), e0.hok.kept kp, I.len⟩
  · have e3 : Vis scope y := e3
    rcases e3 with k | k | k
    · exact absurd rfl (L.own _ (PySem.mem_of_lookup k)).1
    · exact absurd rfl (L.own _ (PySem.mem_of_lookup k)).2
    · obtain ⟨m, hn, hl⟩ := I.loc
      have hvis : Vis X.env.scope y := (L.free _ (PySem.mem_of_lookup k) rfl).elim (fun k => .inr (.inl k)) (fun k => .inr (.inr k))
      obtain ⟨w', r, q⟩ := hl i y v e1 e2 hvis
      obtain ⟨c2, h2⟩ := look k
      refine ⟨w', r, .inr ⟨.inr k, c2, h2, ?_⟩⟩
      have c1 := cm h2
      rcases q with ⟨k', _⟩ | ⟨_, c3, e', z⟩
      · have k' : X.env.scope.names.lookup y = some .local := k'
        rcases L.free _ (PySem.mem_of_lookup k) rfl with k2 | k2 <;> rw [show X.env.scope.names.lookup y = _ from k2] at k' <;> cases k'
      · rw [c1] at e'
        cases e'
        exact cellK h2 z
  · obtain ⟨w', z⟩ := I.cell y c (cm e)
    exact ⟨w', cellK e z⟩

/-- what is known of the lambda made at f: itself, its cells -/
structure MadeClo (X : Cx) (scope : Scope) (h : Heap) (H : Hp) (f : Addr) (fo : Obj) (D : Ds) : Prop where
  fn : D.lookup f = some fo
  cells : ∀ y c, (cloFrom X.env.cells scope.names []).lookup y = some c → ∃ o, D.lookup c = some o
  facts : ∀ b o, D.lookup b = some o → h.get? b = some o
  off : Off D H
  only : ∀ b o, D.lookup b = some o → b = f ∨ ∃ y, X.env.cells.lookup y = some b ∧ (y, NameKind.free) ∈ scope.names
theorem made_clo {scope : Scope} {f : Addr} {fo : Obj} (I : Inv X pins σ H s) (L : LamS X.env.scope scope) (hf : s.heap.get? f = some fo) (hn : H f = none) : ∃ D, MadeClo X scope s.heap H f fo D := by
  have hfree := L.has I.ok
  have cm : ∀ {y c}, (cloFrom X.env.cells scope.names []).lookup y = some c → X.env.cells.lookup y = some c := fun {y c} e => by
    rcases cloFrom_mem (PySem.mem_of_lookup e) with hm | ⟨h1, h2⟩
    · cases hm
    · obtain ⟨c1, hc⟩ := hfree _ h1 rfl
      have hc : X.env.cells.lookup y = some c1 := hc
      have e2 : c = c1 := by
        rw [h2, hc] <;> rfl
      rw [e2]
      exact hc
  let l : List Addr := f :: ((cloFrom X.env.cells scope.names []).map (·.2))
  let D : Ds := l.filterMap fun a => if H a = none then (s.heap.get? a).map fun o => (a, o) else none
  have look : ∀ (l : List Addr) (b : Addr) (o : Obj), ((l.filterMap fun a => if H a = none then (s.heap.get? a).map fun o => (a, o) else none) : Ds).lookup b = some o → s.heap.get? b = some o ∧ H b = none := by
    intro l b o e
    have z := memD e
    obtain ⟨a, ha, q⟩ := List.mem_filterMap.mp z
    by_cases hH : H a = none
    · rw [if_pos hH] at q
      cases r : s.heap.get? a with
      | none =>
        rw [r] at q
        cases q
      | some o' =>
        rw [r] at q
        simp only [Option.map_some, Option.some.injEq, Prod.mk.injEq] at q
        obtain ⟨rfl, rfl⟩ := q
        exact ⟨r, hH⟩
    · rw [if_neg hH] at q
      cases q
  have has : ∀ (l : List Addr) (b : Addr) (o : Obj), b ∈ l → s.heap.get? b = some o → H b = none → ∃ o', ((l.filterMap fun a => if H a = none then (s.heap.get? a).map fun o => (a, o) else none) : Ds).lookup b = some o' := by
    intro l b o hb e n
    have hm : (b, o) ∈ ((l.filterMap fun a => if H a = none then (s.heap.get? a).map fun o => (a, o) else none) : Ds) := List.mem_filterMap.mpr ⟨b, hb, by rw [if_pos n, e]; rfl⟩
    exact lookD hm
  have inl : ∀ (l : List Addr) (b : Addr) (o : Obj), ((l.filterMap fun a => if H a = none then (s.heap.get? a).map fun o => (a, o) else none) : Ds).lookup b = some o → b ∈ l := by
    intro l b o e
    have z := memD e
    obtain ⟨a, ha, q⟩ := List.mem_filterMap.mp z
    by_cases hH : H a = none
    · rw [if_pos hH] at q
      cases r : s.heap.get? a with
      | none =>
        rw [r] at q
        cases q
      | some o' =>
        rw [r] at q
        simp only [Option.map_some, Option.some.injEq, Prod.mk.injEq] at q
        obtain ⟨rfl, rfl⟩ := q
        exact ha
    · rw [if_neg hH] at q
      cases q
  refine ⟨D, ?_, fun y c e => ?_, fun b o e => (look l b o e).1, fun b o e => (look l b o e).2, fun b o e => ?_⟩
  rotate_left
  rotate_left
  · rcases List.mem_cons.mp (inl l b o e) with z | z
    · exact .inl z
    · obtain ⟨⟨y, c⟩, hy, hc⟩ := List.mem_map.mp z
      have hc : c = b := hc
      subst hc
      rcases cloFrom_mem hy with hm | ⟨h1, h2⟩
      · cases hm
      · obtain ⟨c1, hc1⟩ := hfree _ h1 rfl
        have hc1 : X.env.cells.lookup y = some c1 := hc1
        have e2 : c = c1 := by
          rw [h2, hc1] <;> rfl
        exact .inr ⟨y, by rw [e2]; exact hc1, h1⟩
  · obtain ⟨o', e⟩ := has l f fo (List.mem_cons_self ..) hf hn
    have e2 := (look l f o' e).1
    rw [hf] at e2
    cases e2
    exact e
  · obtain ⟨v, o, ho, _⟩ := I.cell y c (cm e)
    exact has l c o (List.mem_cons_of_mem _ (List.mem_map.mpr ⟨(y, c), PySem.mem_of_lookup e, rfl⟩)) ho (I.freeC y c (cm e))

/-- the lambda keeps its promise -/
theorem callOk_of {k : Nat} {f c' : Addr} {pm ctv : Value} {params : Arguments} {body : Expr} {scope : Scope} {D : Ds} {tb : XK → TE} (I : Inv X pins σ H s) (L : LamS X.env.scope scope)
    (M : MadeClo X scope s.heap H f (PySem.W.kla_obj "<lambda>" (X.env.qual ++ "<lambda>") params body scope (cloFrom X.env.cells scope.names []) pm c' ctv) D) (hco : H c' = some (CodeO c' (X.env.qual ++ "<lambda>")))
    (hbind : bindArgs (PySem.W.kla_fn "<lambda>" (X.env.qual ++ "<lambda>") params body scope (cloFrom X.env.cells scope.names []) pm (.ref c') ctv) ⟨[], []⟩ = pure [])
    (hbody : ∀ (A : Around) (outer : List Env) (s : Shared) (H : Hp) (E : XK), Room k (A.deeper (lamEnv X scope s.heap.objs.size f c')) → PE (lamCx X A outer s H E scope f c') body (tb E)) :
    CallOk X.prog X.w X.K X.mg X.base (k + 1) (put D H) f (fun H' Q E => tb (fun cls d H'' => Off D H'' → E cls d (put D H'')) σ (drop D H') fun v H'' => Off D H'' → Q v (put D H'')) := by
  refine ⟨⟨_, _, _, _, put_in M.fn⟩, fun A outer s1 H' Q E ext hr e0 ht => ?_⟩
  have hd : Held D H' := fun b o e => ext b _ (put_in e) fun ps => exa_tbl
  have e1 := env0_drop e0 hd
  have of1 := exa_get e0.hok (hd _ _ M.fn)
  have hc1 : H' c' = some (CodeO c' (X.env.qual ++ "<lambda>")) := ext c' _ (M.off.put_at hco) codeO_ne
  have notF : ∀ b o, D.lookup b = some o → b ∉ frs outer := fun b o e hb => by
    have z := e0.frf b hb
    rw [hd b o e] at z
    cases z
  have rc : codeAny (model X.prog X.w) A (.call (.ref f) ⟨[], []⟩) (CR (L2.CX X.prog X.w) outer X.prog X.w (drop D H') s1 (fun v H'' => Off D H'' → Q v (put D H'')) (fun cls d H'' => Off D H'' → E cls d (put D H''))) s1 := by
    obtain ⟨⟨oc, vs, t, hoc, hdc, hvc⟩, _, _⟩ := e0.hok c' _ hc1
    refine PySem.W.kla_callFunE hr.depth of1 rfl L.co L.gen rfl ⟨c', oc, vs, t, rfl, hoc, hdc, hvc⟩ ?_
    rw [hbind]
    refine wpAny_pure (wpAny_newFunctionEnv (fun y hy => (L.own y hy).2) (fun y hy => absurd hy (by simp)) (fun h₁ hns hsb => ⟨(e0.mod.nolimit.keeps fun b o e => (e0.bs b o e).1).fresh _ hsb, ?_⟩) L.kind)
    show codeAny _ _ (.expr body (lamEnv X scope s1.heap.objs.size f c')) _ _
    have kp : ∀ b o, s1.heap.get? b = some o → h₁.get? b = some o := fun b o e => hsb.extBut b o (Nat.ne_of_lt (Heap.lt_size e)) (Heap.get?_push_of_some _ e)
    have J : Inv (lamCx X A outer s1 (drop D H') (fun cls d H'' => Off D H'' → E cls d (put D H'')) scope f c') [] σ (drop D H') { s1 with heap := h₁, toks := s1.toks + ([] : List (Str × Value)).length } :=
      start_clo I L e1 hr.hd (fun y c e => by
        obtain ⟨o, z⟩ := M.cells y c e
        exact ⟨drop_in z, o, M.facts c o z, exa_get e0.hok (hd c o z)⟩) hns kp
    refine PySem.W.kla_codeExpr (wpAny_mono ((hbody A outer s1 (drop D H') _ (hr.deeper _)).run [] _ _ _ _ J ht) (fun v s' hq => ?_) fun e s' hq => hq)
    obtain ⟨w', H'', J', rv, q⟩ := hq
    exact ⟨w', H'', J'.os, J'.bare, J'.base, J'.hok, rv, q⟩
  refine codeAny_mono rc fun r s' hq => ?_
  cases r with
  | error e => exact cx_put hq hd e0.hok notF
  | ok fl =>
    cases fl with
    | ret u =>
      obtain ⟨v, H'', os, ag, un, ok, rv, q⟩ := hq
      have off : Off D H'' := fun b o z => un.free b o (exa_get e0.hok (hd b o z)) (drop_in z) (by simp)
      refine ⟨v, put D H'', os, ag, un_put un hd, hok_put ok off fun b o z => ?_, rv, q off⟩
      exact un.keep b o (exa_get e0.hok (hd b o z)) (drop_in z) (notF b o z) (by simp)
    | next => exact False.elim hq
    | brk => exact False.elim hq
    | cont => exact False.elim hq

/-- x(), x a name of the def that holds a value which may be called -/
def tCallV (P : Program) (w : World) (K : PySem.W.Frag) (mg : Str → Option Value) (base : Heap) (k i : Nat) (E : L2.St → XK) : TE := fun σ H Q => ∃ f T, σ[i]? = some (some (.ref f)) ∧ CallOk P w K mg base k H f T ∧ T H Q (E σ)
end
theorem pe_callv {X : Cx} {k i : Nat} {x : Str} {E : L2.St → XK} {p1 p2 : Pos} (hr : Room k X.A) (hx : ∀ σ, PassesAt (L2.CX X.prog X.w) X σ (E σ)) (hN : X.N[i]? = some x) (hv : Vis X.env.scope x)
    (hd : (x == ("__debug__" : Str)) = false := by decide) (hcd : (x == ("__classdict__" : Str)) = false := by decide) :
    PE X (.Call (.Name x p1) [] [] p2) (tCallV X.prog X.w X.K X.mg X.base k i E) := by
  refine ⟨fun pins s σ H Q I h => ?_⟩
  obtain ⟨f, T, hs, hc, ht⟩ := h
  refine wpAny_Call_Name_kw (thn ((pe_var (pos := p1) (i := i) hN hv hd hcd).run pins s σ H (fun v H1 => v = .ref f ∧ H1 = H) I ⟨.ref f, hs, rfl, rfl⟩) fun u s1 ⟨v, H1, I1, r1, q1⟩ => ?_)
  obtain ⟨ev, eH⟩ := q1
  subst ev
  rw [eH] at I1
  obtain rfl : u = Value.ref f := r1
  obtain ⟨oc, od, fd, sl, hf⟩ := hc.fn
  have of1 := exa_get I1.hok hf
  refine PySem.W.callWith_F0 ⟨_, _, _, _, of1⟩ ?_
  refine wpAny_call (codeAny_mono (hc.run X.A X.stack s1 H Q (E σ) (ExtN.refl H) hr I1.env0 ht) fun r s' hq => ?_)
  cases r with
  | error e => exact hx σ pins H s1 e s' I1 hq
  | ok fl =>
    cases fl with
    | ret u => exact I1.after hq
    | next => exact False.elim hq
    | brk => exact False.elim hq
    | cont => exact False.elim hq

/-- x(lambda: body), x a def of the module -/
def tLamArg (P : Program) (w : World) (K : PySem.W.Frag) (mg : Str → Option Value) (base : Heap) (k : Nat) (Tb : List (Addr × Str)) (sp : Sp) (tb : XK → TE) : TE := fun σ H Q =>
  Tabs Tb H ∧ ∀ (H1 : Hp) (D : Ds) (f : Addr), ExtN H H1 → Tabs Tb H1 → Off D H1 →
    CallOk P w K mg base (k + 1) (put D H1) f (fun H' Q' E' => tb (fun cls d H'' => Off D H'' → E' cls d (put D H'')) σ (drop D H') fun v H'' => Off D H'' → Q' v (put D H'')) →
    sp [.ref f] (put D H1) (fun v H' => Held D H' ∧ Q v (drop D H')) C8.E0
theorem pe_lamarg {X : Cx} {Tb : List (Addr × Str)} {x : Str} {g c P : Addr} {k j : Nat} {fd : FuncData} {ps : List Str} {sp : Sp}
    {params : Arguments} {body : Expr} {scope : Scope} {tb : XK → TE} {p lpos pos : Pos} (hg : Gl X x) (hm : X.mg x = some (.ref g)) (hk : PySem.W.keepIn X.K (.ref g) = true)
    (F : FnOk X.prog X.w X.K X.mg X.base C8.CX0 j g fd ps sp) (hb : L2.Binds X.K fd ps [])
    (TB : TabB X.base X.mg c P) (hcode : X.env.code = .ref c) (hmT : (P, X.env.qual ++ "<lambda>") ∈ Tb) (hu : ∀ p ∈ Tb, p.1 = P → p.2 = X.env.qual ++ "<lambda>") (hr : Room j X.A) (L : LamS X.env.scope scope) (hdef : defaultsOf params X.env = ([], []))
    (hbind : ∀ (q : Str) (cl : List (Str × Addr)) (pm cv ctv : Value), bindArgs (PySem.W.kla_fn "<lambda>" q params body scope cl pm cv ctv) ⟨[], []⟩ = pure [])
    (hown : ∀ y ∈ scope.names, y.2 = .free → X.fn y.1 = true)
    (hbody : ∀ (A : Around) (outer : List Env) (s : Shared) (H : Hp) (E : XK) (f c' : Addr), Room k (A.deeper (lamEnv X scope s.heap.objs.size f c')) → PE (lamCx X A outer s H E scope f c') body (tb E))
    (hdb : (x == ("__debug__" : Str)) = false := by decide) :
    PE X (.Call (.Name x p) [.Lambda params body scope lpos] [] pos) (tLamArg X.prog X.w X.K X.mg X.base k Tb sp tb) := by
  refine ⟨fun pins s σ H Q I h => ?_⟩
  obtain ⟨hT, h⟩ := h
  refine wpAny_Call_Name_kw (ld_glob I hg hm ?_ hdb)
  refine PySem.W.callWith_K (h₀ := X.base) I.ok.mod.kin hk ?_ (by rfl) (by rfl)
  show wpAny _ _ (spliced ((false, eval (.Lambda params body scope lpos) X.env) :: backTo pos (starEach [] X.env))) _ _ s
  refine Calls.spliced_cons (mk_lam I TB hcode hmT hu hT hdef (L.has I.ok) fun f c' pm' ctv H1 s' ⟨I1, eN, T1, hf, hfn, hfnew, hco⟩ => ?_)
  refine Calls.spliced_nil ⟨I1.kIn, ?_⟩
  obtain ⟨D, M⟩ := made_clo I1 L hf hfn
  have hC := callOk_of (k := k) (tb := tb) I1 L M hco (hbind _ _ _ _ _) fun A outer s H E hr2 => hbody A outer s H E f c' hr2
  have hs := h H1 D f eN T1 M.off hC
  have okp : HOk X.prog X.w (put D H1) s'.heap := hok_put I1.hok M.off M.facts
  have away : ∀ b o, D.lookup b = some o → X.base.get? b = none ∧ b ∉ frs X.stack := fun b o e => by
    rcases M.only b o e with rfl | ⟨y, hy, hn⟩
    · refine ⟨?_, fun hm => ?_⟩
      · cases q : X.base.get? b with
        | none => rfl
        | some o' => exact absurd (Nat.lt_of_lt_of_le (Heap.lt_size (I.bk _ _ q)) hfnew) (Nat.lt_irrefl _)
      · rcases List.mem_cons.mp (I.stkSub b hm) with z | z
        · exact absurd (z ▸ hfnew) (Nat.not_le_of_lt I.lt)
        · exact I.nofs hfnew z
    · have hc := I1.ok.cab y b (hown _ hn rfl) hy
      have hs0 := hc
      refine ⟨?_, fun hm => ?_⟩
      · cases q : X.base.get? b with
        | none => rfl
        | some o' => exact absurd (Nat.lt_of_lt_of_le (Heap.lt_size q) (Nat.le_trans I1.ok.bsz hc)) (Nat.lt_irrefl _)
      · rcases List.mem_cons.mp (I1.stkSub b hm) with z | z
        · exact I1.cne y b hy z
        · obtain ⟨_, o', e', _⟩ := I1.ok.funs.mem z
          exact absurd (Nat.lt_of_lt_of_le (Heap.lt_size e') hc) (Nat.lt_irrefl _)
  have e0 : Env0 X.prog X.w X.K X.mg X.base X.A X.stack s' (put D H1) := by
    have e := I1.env0
    refine ⟨e.frames, e.mod, fun b o z => ⟨(e.bs b o z).1, ?_⟩, e.bsz, e.funs, fun b hb => ?_, okp, e.bare⟩
    · cases q : D.lookup b with
      | none => rw [put_out q]; exact (e.bs b o z).2
      | some o' =>
        rw [(away b o' q).1] at z
        cases z
    · cases q : D.lookup b with
      | none => rw [put_out q]; exact e.frf b hb
      | some o' => exact absurd hb (away b o' q).2
  have hl : ([Value.ref f] ++ []).length = ps.length := (F.len _ _ _ _ hs)
  have rc := F.run X.A X.stack s' (put D H1) ⟨[.ref f], []⟩ ([Value.ref f] ++ []) [.ref f] _ C8.E0 hr e0 (hb s' [.ref f] I1.kIn hl) (.cons rfl .nil) hs
  refine wpAny_call (codeAny_mono rc fun r s2 hq => ?_)
  cases r with
  | error e => exact (show False from hq).elim
  | ok fl =>
    cases fl with
    | ret u =>
      obtain ⟨v, H', os, ag, un, ok, rv, hd, q⟩ := hq
      exact I1.after ⟨v, drop D H', os, ag, un_drop un M.off hd ok M.facts, hok_drop ok hd, rv, q⟩
    | next => exact False.elim hq
    | brk => exact False.elim hq
    | cont => exact False.elim hq
end Clo

set_option Elab.async false
set_option linter.all false
set_option maxRecDepth 100000
set_option maxHeartbeats 4000000
/-! Rules that the texts want besides: o.f as one of several targets, enumerate of a text, is True, a text times a number. -/
namespace Ey
open PySem PySem.Spec PyProof.Rows L2
section
variable {X : Cx}
/-- o.f as a target -/
def gFld (K : PySem.W.Frag) (ta : TE) (f : Str) : TG := fun y σ H Q => ta σ H fun x H2 => ∃ a C dx fs, x = .ref a ∧ H2 a = some (.ins C dx fs) ∧ Cls K C ∧ NoAttr K C f ∧ fs.length < 1000 ∧ Q σ (upd H2 a (.ins C dx (putF f y fs)))
theorem pg_fld {o : Expr} {ta : TE} {f : Str} {pos : Pos} (ha : PE X o ta) : PG X (.Attribute o f pos) (gFld X.K ta f) := by
  refine ⟨fun pins s σ H y u Q I ry h => ?_⟩
  rw [assign_Attribute]
  refine wpAny_bind (wpAny_holding (thn (ha.run pins s σ H _ I h) fun ov s2 hh => ?_))
  obtain ⟨x, H2, I2, rx, a, C, dx, fs, ex, ea, c, n, l, q2⟩ := hh
  subst ex
  obtain rfl : ov = Value.ref a := rx
  refine wpAny_bind (wpAny_standAt (wpAny_bind (wpAny_holding (setattr_ok I2 ea c n l ry fun s3 I3 => wpAny_release ⟨σ, _, I3, q2⟩))))

/-- is True, is False: of any value -/
theorem op_isBo : OpR X (compareOp .Is) (fun x y H Q => ∃ b : Bool, y = .bl b ∧ Q (.bl (decide (x = .bl b))) H) := by
  intro pins s σ H x y v u Q I rx ry h
  obtain ⟨b, rfl, q⟩ := h
  cases (show u = Value.bool b from ry)
  have pl : plainIs v (.bool b) = true := by
    cases x with
    | non => cases (show v = Value.none from rx); rfl
    | bl c => cases (show v = Value.bool c from rx); rfl
    | int i => obtain ⟨t, rfl⟩ := rx; rfl
    | str z => obtain ⟨t, rfl⟩ := rx; rfl
    | byt z => obtain ⟨t, rfl⟩ := rx; rfl
    | flt z => obtain ⟨t, rfl⟩ := rx; rfl
    | ref a => cases (show v = Value.ref a from rx); rfl
    | ty n => cases (show v = Value.type n from rx); rfl
  refine wpAny_is_plain pl ⟨.bl (v == .bool b), H, I, rfl, ?_⟩
  have e : (v == Value.bool b) = decide (x = .bl b) := by
    by_cases hx : x = .bl b
    · subst hx
      cases (show v = Value.bool b from rx)
      simp
    · have hv : v ≠ .bool b := fun z => by
        subst z
        exact hx (RelV.inj rx (show RelV (.bl b) (.bool b) from rfl))
      simp [hx, hv]
  rw [e]
  exact q

/-- text * n -/
theorem op_repS : OpR X (binaryOp .Mult) (fun x y H Q => ∃ z n, x = .str z ∧ y = .int n ∧ 0 ≤ n ∧ n < 2 ^ 30 ∧ z.length * n.toNat ≤ sizeLine ∧ z.length < 2 ^ 30 ∧ Q (.str ⟨((List.replicate n.toNat z.cps.toList).flatten).toArray⟩) H) := by
  intro pins s σ H x y v u Q I rx ry h
  obtain ⟨z, n, rfl, rfl, h0, h1, hz, hl, q⟩ := h
  obtain ⟨t, rfl⟩ := rx
  obtain ⟨t', rfl⟩ := ry
  have e : Txt.mul z n = ⟨((List.replicate n.toNat z.cps.toList).flatten).toArray⟩ := by
    have key : ∀ (k : Nat) (a : Array Nat), (List.replicate k z.cps).foldl (· ++ ·) a = (a.toList ++ (List.replicate k z.cps.toList).flatten).toArray := by
      intro k
      induction k with
      | zero => intro a; simp
      | succ k ih =>
        intro a
        rw [List.replicate_succ, List.foldl_cons, ih]
        simp [List.replicate_succ]
    unfold Txt.mul
    by_cases c1 : n < 1
    · rw [if_pos c1]
      have : n.toNat = 0 := by omega
      rw [this]
      rfl
    · rw [if_neg c1]
      by_cases c2 : (n == 1 || z.length == 0) = true
      · rw [if_pos c2]
        simp only [Bool.or_eq_true, beq_iff_eq] at c2
        rcases c2 with rfl | c2
        · simp
        · have hz0 : z.cps = #[] := Array.eq_empty_of_size_eq_zero c2
          cases z
          simp only at hz0
          subst hz0
          have hf : ∀ k, (List.replicate k ([] : List Nat)).flatten = [] := by
            intro k
            induction k with
            | zero => rfl
            | succ k ih => rw [List.replicate_succ, List.flatten_cons, ih]; rfl
          simp [hf]
      · rw [if_neg c2, key]
        simp
  have hs : sizeLine = 16777216 := sizeLine_eq
  refine PySem.SB.mul ⟨?_, fun a b => ?_, fun _ _ => ?_⟩ fun t' k => ?_
  · simp only [Bool.or_eq_false_iff, decide_eq_false_iff_not]
    omega
  · have hn : 1 ≤ n := by omega
    have h5 : (2 ^ 33 : Int) ≤ (2 ^ 63 - 1) / n := by
      rw [Int.le_ediv_iff_mul_le (by omega)]
      omega
    have h6 : (z.length : Int) < 2 ^ 33 := by omega
    omega
  · show decide (z.length * n.toNat > sizeLine) = false
    simp only [decide_eq_false_iff_not]
    omega
  · rw [e]
    exact ⟨.str _, H, I.tok _, ⟨_, rfl⟩, q⟩

/-! ### enumerate of a text -/
def Ites (z : Str) : It := ⟨fun i _ => i < z.cps.size, fun i H v H' => ∃ T c, v = .ref T ∧ H T = none ∧ H' = upd H T (.tup [.int (i : Nat), .str ⟨#[c]⟩]) ∧ z.cps[i]? = some c, fun i _ => i = z.cps.size⟩
theorem turn_enumS {P : Program} {w : World} {K : PySem.W.Frag} {elts : List Expr} {kk : Nat} {tpos : Pos} {z : Str} {t : Tok} {e it : Addr} (hne : e ≠ it) :
    Turn P w K (.Tuple elts kk tpos) (Ites z) [e, it] e (fun i h => (∃ old, IsEnum h e it ((i : Nat) : Int) old) ∧ h.IsStrIter it (strIterType z) z t i) where
  mem := by simp
  obj := by
    rintro i h ⟨⟨old, he⟩, ⟨o, ho, hc, hd⟩⟩ b hb
    have e' : b = e ∨ b = it := by simpa using hb
    rcases e' with rfl | rfl
    · exact ⟨_, he, nofun⟩
    · refine ⟨o, ho, fun v q => ?_⟩
      rw [hd] at q
      cases q
  keep := by
    rintro i h h' ⟨⟨old, he⟩, ⟨o, ho, r⟩⟩ k
    exact ⟨⟨old, k e (by simp) _ he⟩, ⟨o, k it (by simp) o ho, r⟩⟩
  item := by
    intro X hP hw hK hc i pins s σ H E I hf st hg
    subst hP hw hK
    obtain ⟨⟨old, he⟩, hit⟩ := st
    have hel : e < s.heap.objs.size := Heap.lt_size he
    have hil : it < s.heap.objs.size := let ⟨_, q, _⟩ := hit; Heap.lt_size q
    have hei : e ∉ [it] := fun z => hne (by simpa using z)
    refine wpAny_pyNext_enum_itemD (Draws.text (show X.A.in1.handled = none from I.ok.hd hc) it z t) he hit hg hne hei fun x h' tk hx ho hit' hT hsz hk => ?_
    obtain ⟨c, u, hcx, rfl⟩ := hx
    refine ⟨_, rfl, wpAny_letOwnedTupleGo_enum (s := { s with heap := h', toks := tk + 1 }) ho fun h'' he' sb => ?_⟩
    have hT2 : h''.get? s.heap.objs.size = some { cls := .type "tuple", data := .seq #[.int i tk, .str ⟨#[c]⟩ u] } := (sb.2 _ (Nat.ne_of_gt hel)).trans hT
    have new : ObjOk X.prog X.w (upd H s.heap.objs.size (.tup [.int (i : Nat), .str ⟨#[c]⟩])) h'' s.heap.objs.size (.tup [.int (i : Nat), .str ⟨#[c]⟩]) :=
      ⟨by show 2 ≤ sizeLine; decide, [.int i tk, .str ⟨#[c]⟩ u], .cons ⟨tk, rfl⟩ (.cons ⟨u, rfl⟩ .nil), ⟨_, hT2, rfl, _, rfl⟩⟩
    have keep : ∀ b ob, b ∉ [e, it] → s.heap.get? b = some ob → h''.get? b = some ob := fun b ob hb q => by
      have n1 : b ≠ e := fun z => hb (by simp [z])
      have n2 : b ≠ it := fun z => hb (by simp [z])
      exact (sb.2 b n1).trans (hk b ob n1 n2 q)
    have I1 := I.turnedNew (t' := tk + 1) (ch := [e, it]) keep hf (Nat.le_refl _) new
    refine ⟨.ref s.heap.objs.size, _, I1, rfl, ⟨_, c, rfl, I.hok.fresh (Nat.le_refl _), rfl, hcx⟩, ⟨⟨Value.str ⟨#[c]⟩ u, ?_⟩, ?_⟩, fun b hb => ?_⟩
    · have e1 : ((i + 1 : Nat) : Int) = (i : Int) + 1 := by omega
      rw [e1]
      exact he'
    · obtain ⟨o, q, r⟩ := hit'
      exact ⟨o, (sb.2 it (Ne.symm hne)).trans q, r⟩
    · have hb' : b < s.heap.objs.size := by
        have e' : b = e ∨ b = it := by simpa using hb
        rcases e' with rfl | rfl
        · exact hel
        · exact hil
      rw [upd_ne (Nat.ne_of_lt hb')]
      exact (hf b hb).1
  done := by
    intro X hP hw hK hc i pins s σ H E I hf st hg
    subst hP hw hK
    obtain ⟨⟨old, he⟩, hit⟩ := st
    obtain ⟨f0, f1, f2, f3, f4, f5⟩ := hf it (by simp)
    have hg' : i = z.cps.size := hg
    subst hg'
    exact wpAny_pyNext_enum_endD (Draws.text (show X.A.in1.handled = none from I.ok.hd hc) it z t) he hit fun h' eb => ⟨rfl, I.turned (t' := s.toks) (fun b o hb q => eb b o hb q) f0 f1 f3 f4 f5⟩
  self := fun A i s Q E st h => let ⟨⟨_, he⟩, _⟩ := st; wpAny_pyIter_enum he h
def iEnumS (ta : TA) : TI := fun σ H R => ta σ H fun vs H1 => ∃ z, vs = [.str z] ∧ R (Ites z) H1
theorem pi_enumS {X : Cx} {e : Expr} {ta : TA} {p pos tpos : Pos} {elts : List Expr} {kk : Nat} (hg : Gl X "enumerate") (hm : X.mg "enumerate" = none) (ha : PA X [e] ta) (hs : starEach [e] X.env = [(false, eval e X.env)] := by rfl) :
    PI X (.Tuple elts kk tpos) (.Call (.Name "enumerate" p) [e] [] pos) (iEnumS ta) := by
  refine ⟨fun pins s σ H R I h => ?_⟩
  refine Call_ (ld_blt I hg hm boot_enumerate (PyProof.Rows.callWith_type1 (thn (ha.run pos pins s σ H _ I h) fun us s1 hh => ?_) hs rfl))
  obtain ⟨vs, H1, I1, r1, z, ez, q⟩ := hh
  subst ez
  cases r1 with
  | cons r rr =>
    cases rr
    obtain ⟨t, rfl⟩ := r
    refine call_enumerate_str fun h' he hit hsz hk => wpAny_pyIter_enum he ?_
    have I2 : Inv X pins σ H1 { s1 with heap := h' } := I1.kept (t' := s1.toks) hk
    refine ⟨s1.heap.objs.size + 1, [s1.heap.objs.size + 1, s1.heap.objs.size], _, _, H1, rfl, I2, turn_enumS (Nat.succ_ne_self _), ⟨⟨.none, he⟩, hit⟩, fun b hb => ?_, q⟩
    have hle : s1.heap.objs.size ≤ b := by
      rcases List.mem_cons.mp hb with z | z
      · rw [z]
        exact Nat.le_succ _
      · rw [List.mem_singleton.mp z]
        exact Nat.le_refl _
    exact I1.fpOk hle (I1.hok.fresh hle)
/-- a loop over a text with its places -/
theorem for_enumS {z : Str} {g : TG} {tb : TS} {D : Ends} {σ : L2.St} {H : Hp} (Pv : Nat → L2.St → Hp → Prop) (h0 : Pv 0 σ H)
    (hs : ∀ i c σ H, z.cps[i]? = some c → Pv i σ H → ∀ T, H T = none → g (.ref T) σ (upd H T (.tup [.int (i : Nat), .str ⟨#[c]⟩])) fun σ2 H2 => tb { D with nx := Pv (i + 1), ct := Pv (i + 1), bk := D.nx } σ2 H2)
    (hd : ∀ σ H, Pv z.cps.size σ H → D.nx σ H) :
    ∃ W : Nat → Nat → L2.St → Hp → Prop, (∃ m, W 0 m σ H) ∧ ∀ i m σ H, W i m σ H →
      (((Ites z).stop i H ∧ D.nx σ H) ∨ ((Ites z).go i H ∧ ∃ N : L2.St → Hp → Prop, (∀ σ' H', N σ' H' → ∃ m', m' < m ∧ W (i + 1) m' σ' H') ∧ ∀ x H', (Ites z).yld i H x H' → g x σ H' fun σ2 H2 => tb { D with nx := N, ct := N, bk := D.nx } σ2 H2)) := by
  refine ⟨fun i m σ H => m = z.cps.size - i ∧ i ≤ z.cps.size ∧ Pv i σ H, ⟨_, rfl, Nat.zero_le _, h0⟩, ?_⟩
  rintro i m σ H ⟨rfl, hi, p⟩
  by_cases hl : i = z.cps.size
  · subst hl
    exact .inl ⟨rfl, hd _ _ p⟩
  · have hlt : i < z.cps.size := Nat.lt_of_le_of_ne hi hl
    refine .inr ⟨hlt, Pv (i + 1), fun σ' H' p' => ⟨z.cps.size - (i + 1), by omega, rfl, hlt, p'⟩, fun x H' y => ?_⟩
    obtain ⟨T, c, rfl, hT, rfl, hc⟩ := y
    exact hs i c σ H hc p T hT
end
end Ey

set_option Elab.async false
set_option linter.all false
set_option maxRecDepth 100000
set_option maxHeartbeats 4000000
/-! What a head is to tell of own errors with such an __init__; a head that looks at one more table. -/
namespace Ey
open PySem PySem.Spec PyProof.Rows L2

/-- an own error class: what it was written as -/
structure EDef where
  name : Str
  params : Arguments
  body : List Stmt
  scope : Scope
  fs : List Str
def EDef.q (e : EDef) : Str := e.name ++ ".__init__"
section
variable (K : PySem.W.Frag)
def eC (e : EDef) : Addr := He.ga K e.name
def eI (e : EDef) : Addr := He.ma K (eC K e) "__init__"
def eFd (e : EDef) : FuncData := match K.lookup (eI K e) with
  | some ⟨_, _, .func fd, _⟩ => fd
  | _ => ⟨"", "", e.params, .stmts [], e.scope, 0, [], .none, .none, .none, .none, none, .none, .none, 0⟩
def eCell (e : EDef) : Addr := match (eFd K e).closure with
  | [(_, c)] => c
  | _ => 0
def eCode (e : EDef) : Addr := match (eFd K e).code with
  | .ref c => c
  | _ => 0
def clsB (C : Addr) : Bool := match K.lookup C with
  | some ⟨.type t, _, .cls cd, sl⟩ => decide (t = "type") && (match cd.mro, sl.toList with
    | .ref C' :: .ref D :: r, [_, _, _, _, some (.builtin n), _] =>
      decide (C' = C) && (decide (n = "Exception.__new__") && (!cd.hasDel && (cd.hasDict && (decide (r = exT) && He.eqO (PySem.W.alongIn K "__init__" (.ref D :: exT)) (some (some (.builtin "Exception.__init__")))))))
    | _, _ => false)
  | _ => false
abbrev FnE : Type := Option (Str × Str × Arguments × FuncBody × Scope × Addr × List Str × Addr)
def fnE (e : EDef) : FnE := match K.lookup (eI K e) with
  | some ⟨_, _, .func fd, _⟩ => some (fd.name, fd.qualname, fd.params, fd.body, fd.scope, fd.globals, fd.closure.map (·.1), fd.builtins)
  | _ => none
def EDef.val (e : EDef) : FnE := some ("__init__", e.q, e.params, .stmts e.body, e.scope, mainGlobals, ["__class__"], builtinsNs)
def cellB (c C : Addr) : Bool := match K.lookup c with
  | some ⟨_, _, .cell (some (.ref x)), _⟩ => decide (x = C)
  | _ => false
def fileB (c : Addr) (file : Str) : Bool := match K.lookup c with
  | some ⟨_, _, .fields vs, _⟩ => (match (vs[2]? : Option Value) with
    | some (.str f _) => decide (file = f)
    | _ => false)
  | _ => false
def eB (file : Str) (e : EDef) : Bool :=
  clsB K (eC K e) && (He.eqO (PySem.W.findIn K (.ref (eC K e)) "__setattr__") (some (some (.builtin "object.__setattr__"))) &&
  (decide (PySem.W.subIn K (.ref (eC K e)) (.type "Exception") = some true) && (decide (PySem.W.subIn K (.ref (eC K e)) (.type "BaseException") = some true) &&
  (decide (PySem.W.typeIn K (.ref (eC K e)) = some (.type "type")) && (PySem.W.keepIn K (.ref (eC K e)) && (He.eqO (PySem.W.findIn K (.ref (eC K e)) "__init__") (some (some (.ref (eI K e)))) &&
  (decide (PySem.W.typeIn K (.ref (eI K e)) = some (.type "function")) && (decide ((eFd K e).code = .ref (eCode K e)) && (decide ((eFd K e).defaults = .none) && (PySem.W.codeIn K (.ref (eCode K e)) e.q && (fileB K (eCode K e) file &&
  (cellB K (eCell K e) (eC K e) && (He.eqO (PySem.W.nsIn K PySem.cStatics "thirdparty.any") (some none) && (e.fs.all (fun f => He.eqO (PySem.W.findIn K (.ref (eC K e)) f) (some none)) &&
  (decide (e.fs.length ≤ 16777216) && (PySem.W.hasDictIn K (eC K e) && (He.eqO (PySem.W.findIn K (.ref (eC K e)) "__getattribute__") (some (some (.builtin "BaseException.__getattribute__"))) &&
  He.eqO (PySem.W.findIn K (.ref (eC K e)) "__getattr__") (some none))))))))))))))))))
end
theorem clsB_ok {K : PySem.W.Frag} {C : Addr} (h : clsB K C = true) : ∃ nm q N bs sn sub ab col dd k0 k1 k2 k3 k5 D, K.lookup C = some (excClassObj nm q C N bs (.ref D :: exT) true sn sub ab col dd k0 k1 k2 k3 k5 "Exception.__new__") ∧
    PySem.W.alongIn K "__init__" (.ref D :: exT) = some (some (.builtin "Exception.__init__")) := by
  unfold clsB at h
  split at h
  · rename_i t dd cd sl ho
    obtain ⟨h1, h2⟩ := He.ba h
    split at h2
    · rename_i C' D r k0 k1 k2 k3 n k5 hm hs
      obtain ⟨e1, h3⟩ := He.ba h2
      obtain ⟨e2, h4⟩ := He.ba h3
      obtain ⟨e3, h5⟩ := He.ba h4
      obtain ⟨e4, h6⟩ := He.ba h5
      obtain ⟨e5, e6⟩ := He.ba h6
      obtain ⟨nm, bs, mro, ns, qn, hd, sn, sub, ab, col, del⟩ := cd
      dsimp only at hm e3 e4
      have e1 := of_decide_eq_true e1
      have e2 := of_decide_eq_true e2
      have e5 := of_decide_eq_true e5
      have h1 := of_decide_eq_true h1
      have e3 : del = false := by simpa using e3
      subst e1 e2 e5 e3 e4 hm h1
      have hsl : sl = #[k0, k1, k2, k3, some (.builtin "Exception.__new__"), k5] := by
        obtain ⟨l⟩ := sl
        simp only at hs
        rw [hs]
      subst hsl
      exact ⟨nm, qn, ns, bs, sn, sub, ab, col, dd, k0, k1, k2, k3, k5, D, ho, He.eqO_ok e6⟩
    · cases h2
  · cases h
/-- what is told of an own error class -/
structure EFacts (prog : Program) (K : PySem.W.Frag) (mg : Str → Option Value) (e : EDef) : Prop where
  cls : ECls prog K mg (eC K e) (eI K e) (eCell K e) (eCode K e) e.q e.params e.body e.scope e.fs
  dict : PySem.W.hasDictIn K (eC K e) = true
  ga : PySem.W.findIn K (.ref (eC K e)) "__getattribute__" = some (some (.builtin "BaseException.__getattribute__"))
  gg : PySem.W.findIn K (.ref (eC K e)) "__getattr__" = some none
  no : ∀ f ∈ e.fs, PySem.W.findIn K (.ref (eC K e)) f = some none
theorem eFacts {prog : Program} {K : PySem.W.Frag} {mg : Str → Option Value} {e : EDef} (h : eB K prog.main.file e = true) (hf : fnE K e = e.val) (hs : mg "super" = none) (ht : (prog.main.scope.names.lookup ("super" : Str)).isSome = false) : EFacts prog K mg e := by
  unfold eB at h
  obtain ⟨b1, h⟩ := He.ba h
  obtain ⟨b2, h⟩ := He.ba h
  obtain ⟨b3, h⟩ := He.ba h
  obtain ⟨b4, h⟩ := He.ba h
  obtain ⟨b5, h⟩ := He.ba h
  obtain ⟨b6, h⟩ := He.ba h
  obtain ⟨b7, h⟩ := He.ba h
  obtain ⟨b8, h⟩ := He.ba h
  obtain ⟨b9, h⟩ := He.ba h
  obtain ⟨b0, h⟩ := He.ba h
  obtain ⟨b10, h⟩ := He.ba h
  obtain ⟨b11, h⟩ := He.ba h
  obtain ⟨b12, h⟩ := He.ba h
  obtain ⟨b13, h⟩ := He.ba h
  obtain ⟨b14, h⟩ := He.ba h
  obtain ⟨b15, h⟩ := He.ba h
  obtain ⟨b16, h⟩ := He.ba h
  obtain ⟨b17, b18⟩ := He.ba h
  have no : ∀ f ∈ e.fs, PySem.W.findIn K (.ref (eC K e)) f = some none := fun f hm => He.eqO_ok (List.all_eq_true.mp b14 f hm)
  refine ⟨⟨clsB_ok b1, He.eqO_ok b2, of_decide_eq_true b3, of_decide_eq_true b4, of_decide_eq_true b5, b6, He.eqO_ok b7, of_decide_eq_true b8, ?_, b10, ?_, ?_, hs, He.eqO_ok b13, ht, no, of_decide_eq_true b15⟩, b16, He.eqO_ok b17, He.eqO_ok b18, no⟩
  · have b9 := of_decide_eq_true b9
    have b0 := of_decide_eq_true b0
    unfold fnE at hf
    split at hf
    · rename_i oc od fd sl ho
      have hfd : eFd K e = fd := by
        unfold eFd
        rw [ho]
      unfold EDef.val at hf
      unfold eCell
      rw [hfd] at b9 b0 ⊢
      obtain ⟨n1, n2, n3, n4, n5, n6, n7, n8, n9, n10, n11, n12, n13, n14, n15⟩ := fd
      simp only [Option.some.injEq, Prod.mk.injEq] at hf
      obtain ⟨e1, e2, e3, e4, e5, e6, e7, e8⟩ := hf
      subst e1 e2 e3 e4 e5 e6 e8
      have b9 : n13 = .ref (eCode K e) := b9
      have b0 : n8 = .none := b0
      subst b9 b0
      obtain ⟨y, c, rfl⟩ : ∃ y c, n7 = [(y, c)] := by
        match n7, e7 with
        | [(y, c)], _ => exact ⟨y, c, rfl⟩
      have ey : y = ("__class__" : Str) := by simpa using e7
      subst ey
      exact ⟨oc, od, n9, n10, n11, n12, n14, sl, ho⟩
    · cases hf
  · unfold fileB at b11
    split at b11
    · rename_i cl cdd vs ccs ho
      split at b11
      · rename_i f tf hv
        exact ⟨cl, cdd, vs, ccs, f, tf, ho, hv, beq_iff_eq.mpr (of_decide_eq_true b11)⟩
      · cases b11
    · cases b11
  · unfold cellB at b12
    split at b12
    · rename_i cl cdd x ccs ho
      have e := of_decide_eq_true b12
      subst e
      exact ⟨cl, cdd, ccs, ho⟩
    · cases b12

/-! ### a Hook that tells of such classes too -/
open He in
/-- what is told -/
structure SaysE (file : Str) (fa : List Fa) (fn : List DefD) (es : List EDef) (tf : List Defn) (ex : PySem.W.Frag → Bool) (h : Heap) (K : PySem.W.Frag) : Prop where
  d : SaysD fa fn K
  e : ∀ e ∈ es, eB K file e = true ∧ fnE K e = e.val
  more : ex K = true
  hd : ∀ p ∈ tf, PySem.W.codeHdIn K (cT K p).1 (cT K p).2 = true
  out : ∀ p ∈ tf, K.lookup (cT K p).2 = none
  empty : ∀ p ∈ tf, h.get? (cT K p).2 = some { cls := .none, data := .fields #[] }
abbrev AlE : Type := He.AlD × List FnE × Bool
open He in
def obsE (n : Nat) (file : Str) (fa : List Fa) (fn : List DefD) (es : List EDef) (tf : List Defn) (ex : PySem.W.Frag → Bool) (g : Addr → Option Obj) : AlE :=
  let K := frT g (PySem.cStatics :: asD g n)
  (obsD fa fn K, es.map (fnE K), (es.all (eB K file) && (ex K && tabsB g tf K)))
open He in
def valE (fn : List DefD) (es : List EDef) : AlE := (valD fn, es.map EDef.val, true)
open He in
theorem saysE_of {n : Nat} {file : Str} {fa : List Fa} {fn : List DefD} {es : List EDef} {tf : List Defn} {ex : PySem.W.Frag → Bool} {h : Heap} (e : obsE n file fa fn es tf ex h.get? = valE fn es) :
    SaysE file fa fn es tf ex h (frT h.get? (PySem.cStatics :: asD h.get? n)) := by
  generalize hK : frT h.get? (PySem.cStatics :: asD h.get? n) = K
  have e' : (obsD fa fn K, es.map (fnE K), (es.all (eB K file) && (ex K && tabsB h.get? tf K))) = valE fn es := by
    rw [← hK]
    exact e
  unfold valE at e'
  simp only [Prod.mk.injEq] at e'
  obtain ⟨e1, e2, e3⟩ := e'
  obtain ⟨b1, b2⟩ := ba e3
  obtain ⟨b3, b4⟩ := ba b2
  have each : ∀ p ∈ tf, PySem.W.codeHdIn K (cT K p).1 (cT K p).2 = true ∧ ∃ o, h.get? (cT K p).2 = some o ∧ emptyTab o = true := by
    intro p hp
    obtain ⟨c1, c2⟩ := ba (List.all_eq_true.mp b4 p hp)
    refine ⟨c1, ?_⟩
    split at c2
    · rename_i o q
      exact ⟨o, q, c2⟩
    · cases c2
  refine ⟨e1, fun d hd => ⟨List.all_eq_true.mp b1 d hd, ?_⟩, b3, fun p hp => (each p hp).1, fun p hp => ?_, fun p hp => ?_⟩
  · obtain ⟨i, hi, rfl⟩ := List.mem_iff_getElem.mp hd
    have z : (es.map (fnE K))[i]? = (es.map EDef.val)[i]? := by rw [e2]
    rw [List.getElem?_map, List.getElem?_map, List.getElem?_eq_getElem hi] at z
    exact Option.some.inj z
  · obtain ⟨_, o, q, z⟩ := each p hp
    rw [← hK]
    exact frT_none (by rw [hK]; exact q) z
  · obtain ⟨_, o, q, z⟩ := each p hp
    rw [q, emptyTab_eq z]
open He in
def hookE (n : Nat) (file : Str) (fa : List Fa) (fn : List DefD) (es : List EDef) (tf : List Defn) (ex : PySem.W.Frag → Bool) : PySem.W.Hook where
  α := AlE
  obs := fun s => obsE n file fa fn es tf ex s.heap.get?
  val := fun _ => valE fn es
  says := fun _ h => ∃ K : PySem.W.Frag, K.In h ∧ SaysE file fa fn es tf ex h K
  of := fun _ _ e => ⟨_, frT_in, saysE_of e⟩
  keeps := fun _ _ _ ⟨K, hK, c⟩ k => ⟨K, PySem.W.Frag.In.keeps hK k, ⟨c.d, c.e, c.more, c.hd, c.out, fun p hp => k _ _ (c.empty p hp)⟩⟩
theorem obsE_eq {n : Nat} {file : Str} {fa : List He.Fa} {fn : List He.DefD} {es : List EDef} {tf : List He.Defn} {ex : PySem.W.Frag → Bool} {g : Addr → Option Obj} {s : Shared} (h : ∀ a, g a = s.heap.get? a) :
    obsE n file fa fn es tf ex g = (hookE n file fa fn es tf ex).obs s := by
  obtain rfl : g = s.heap.get? := funext h
  rfl
/-! ### a def by its datum -/
def fdAt (K : PySem.W.Frag) (d : He.DefD) : FuncData := match K.lookup (He.fAd K d.at_) with
  | some ⟨_, _, .func fd, _⟩ => fd
  | _ => default
abbrev FnAs (K : PySem.W.Frag) (d : He.DefD) : Prop := FunD K d.name d.qual d.params d.body d.scope (d.dvs K) (d.kws K) (He.fAd K d.at_) (fdAt K d)
theorem FnAs.d {K : PySem.W.Frag} {d : He.DefD} (F : FnAs K d) : FunD K d.name d.qual d.params d.body d.scope (d.dvs K) (d.kws K) (He.fAd K d.at_) (fdAt K d) := F
theorem fnAs_of {fa : List He.Fa} {fn : List He.DefD} {K : PySem.W.Frag} (c : He.SaysD fa fn K) (i : Nat) {d : He.DefD} (h : fn[i]? = some d) : FnAs K d := by
  obtain ⟨fd, F⟩ := c.def_ i h
  have e : fdAt K d = fd := by
    obtain ⟨oc, od, dV, kV, doc, pm, an, cdv, ct, osl, _, lk, _⟩ := F.ex
    unfold fdAt
    rw [lk]
  show FunD _ _ _ _ _ _ _ _ _ _
  rw [e]
  exact F
end Ey

set_option Elab.async false
set_option linter.all false
set_option maxRecDepth 100000
set_option maxHeartbeats 4000000
/-! Data and texts: what stays, what is known of a value. -/
namespace Ey
open PySem PySem.Spec PyProof.Rows L2 LamX
abbrev G := List Nat
def S (g : G) : Str := ⟨g.toArray⟩
abbrev vS (g : G) : V := .str (S g)
def cp (s : String) : G := s.toList.map Char.toNat
theorem of_cp (s : String) : Str.ofString s = S (cp s) := Str.ofString_eq_toList s
theorem S_cps (g : G) : (S g).cps.toList = g := by simp [S]
theorem S_len (g : G) : (S g).length = g.length := by simp [S, Str.length]
theorem S_self (s : Str) : S s.cps.toList = s := by simp [S]
theorem S_inj {a b : G} (h : S a = S b) : a = b := by
  have z := congrArg (fun s : Str => s.cps.toList) h
  simpa [S] using z
theorem S_app (a b : G) : (S a ++ S b : Str) = S (a ++ b) := by
  show Str.append (S a) (S b) = S (a ++ b)
  simp [Str.append, S]
theorem S_eq_iff {a b : G} : S a = S b ↔ a = b := ⟨S_inj, fun h => h ▸ rfl⟩
theorem vS_eq_iff {a b : G} : vS a = vS b ↔ a = b := ⟨fun h => S_inj (V.str.inj h), fun h => h ▸ rfl⟩
/-- tuples stay -/
def TEx (H H' : Hp) : Prop := ∀ a xs, (H a = some (.tup xs) → H' a = some (.tup xs)) ∧ ∀ o, H a = some (.frz o (.tup xs)) → H' a = some (.frz o (.tup xs))
/-- all but what stands at b stays -/
def ExB (b : Addr) (H H' : Hp) : Prop := ∀ a o, a ≠ b → H a = some o → H' a = some o
theorem TEx.refl (H : Hp) : TEx H H := fun _ _ => ⟨fun h => h, fun _ h => h⟩
theorem TEx.trans {H H1 H2 : Hp} (a : TEx H H1) (b : TEx H1 H2) : TEx H H2 := fun c xs => ⟨fun h => (b c xs).1 ((a c xs).1 h), fun o h => (b c xs).2 o ((a c xs).2 o h)⟩
theorem ExtN.tex {H H' : Hp} (e : ExtN H H') : TEx H H' := fun a xs => ⟨fun h => e a _ h (fun _ z => by cases z), fun o h => e a _ h (fun _ z => by cases z)⟩
theorem ExB.refl (b : Addr) (H : Hp) : ExB b H H := fun _ _ _ h => h
theorem ExB.trans {b : Addr} {H H1 H2 : Hp} (x : ExB b H H1) (y : ExB b H1 H2) : ExB b H H2 := fun a o n h => y a o n (x a o n h)
theorem Same.exb {H H' : Hp} (b : Addr) (e : Same H H') : ExB b H H' := fun a o _ h => e a o h
theorem ExB.tex {b : Addr} {H H' : Hp} (e : ExB b H H') (h1 : ∀ xs, H b ≠ some (.tup xs)) (h2 : ∀ o xs, H b ≠ some (.frz o (.tup xs))) : TEx H H' := fun a xs => ⟨fun h => e a _ (fun z => h1 xs (z ▸ h)) h, fun o h => e a _ (fun z => h2 o xs (z ▸ h)) h⟩
theorem upd_ext {H : Hp} {p : Addr} {o : HO} (h : H p = none) : Same H (upd H p o) := fun a u e => by rw [upd_ne (ne_of_none e h), e]
theorem upd_exb {H : Hp} {b : Addr} {o : HO} : ExB b H (upd H b o) := fun a u n e => by rw [upd_ne n, e]
theorem SqT.tex {K : PySem.W.Frag} {H H' : Hp} {a : Addr} {xs : List V} (e : TEx H H') (h : SqT K H a xs) : SqT K H' a xs := by
  rcases h with (h | ⟨o, h⟩) | h
  · exact .inl (.inl ((e a xs).1 h))
  · exact .inl (.inr ⟨o, (e a xs).2 o h⟩)
  · exact .inr h
theorem SqL.extN {K : PySem.W.Frag} {H H' : Hp} {a : Addr} {xs : List V} (e : ExtN H H') (h : SqL K H a xs) : SqL K H' a xs := by
  rcases h with (h | ⟨o, h⟩) | h
  · exact .inl (.inl (e a _ h (fun _ z => by cases z)))
  · exact .inl (.inr ⟨o, e a _ h (fun _ z => by cases z)⟩)
  · exact .inr h
theorem SqT.extN {K : PySem.W.Frag} {H H' : Hp} {a : Addr} {xs : List V} (e : ExtN H H') (h : SqT K H a xs) : SqT K H' a xs := SqT.tex (ExtN.tex e) h

theorem Same.extN {H H' : Hp} (e : Same H H') : ExtN H H' := fun a o h _ => e a o h
theorem Same.tex {H H' : Hp} (e : Same H H') : TEx H H' := ExtN.tex (Same.extN e)
theorem SqL.ext {K : PySem.W.Frag} {H H' : Hp} {a : Addr} {xs : List V} (e : Same H H') (h : SqL K H a xs) : SqL K H' a xs := SqL.extN (Same.extN e) h
theorem SqT.ext {K : PySem.W.Frag} {H H' : Hp} {a : Addr} {xs : List V} (e : Same H H') (h : SqT K H a xs) : SqT K H' a xs := SqT.extN (Same.extN e) h
/-! ### data -/
section
variable {K : PySem.W.Frag} {H H' : Hp}
mutual
theorem Dp.extN (e : ExtN H H') : ∀ (d : PyData) (v : V), Dp K H v d → Dp K H' v d
  | .none, _, h => by cases h; exact .non
  | .bool b, _, h => by cases h; exact .bl b
  | .int i, _, h => by cases h; exact .int i
  | .str x, _, h => by cases h; exact .str x
  | .list ds, _, h => by
    cases h with
    | lst hs ha => exact .lst (SqL.extN e hs) (Dp.extAllN e ds _ ha)
  | .tuple ds, _, h => by
    cases h with
    | tup hs ha => exact .tup (SqT.extN e hs) (Dp.extAllN e ds _ ha)
  | .dict _, _, h => by cases h
theorem Dp.extAllN (e : ExtN H H') : ∀ (ds : List PyData) (vs : List V), DpAll K H vs ds → DpAll K H' vs ds
  | [], _, h => by cases h; exact .nil
  | d :: ds, _, h => by
    cases h with
    | cons h1 h2 => exact .cons (Dp.extN e d _ h1) (Dp.extAllN e ds _ h2)
end
theorem Dp.ext (e : Same H H') (d : PyData) (v : V) (h : Dp K H v d) : Dp K H' v d := Dp.extN (Same.extN e) d v h
theorem Dp.extAll (e : Same H H') (ds : List PyData) (vs : List V) (h : DpAll K H vs ds) : DpAll K H' vs ds := Dp.extAllN (Same.extN e) ds vs h
/-- data without lists -/
inductive NoL : PyData → Prop
  | none : NoL .none
  | bool (b : Bool) : NoL (.bool b)
  | int (i : Int) : NoL (.int i)
  | str (s : Str) : NoL (.str s)
  | tuple {ds : List PyData} : (∀ d ∈ ds, NoL d) → NoL (.tuple ds)
theorem NoL.mem {ds : List PyData} (h : NoL (.tuple ds)) : ∀ d ∈ ds, NoL d := by
  cases h with
  | tuple h => exact h
mutual
theorem Dp.tex (e : TEx H H') : ∀ (d : PyData) (v : V), NoL d → Dp K H v d → Dp K H' v d
  | .none, _, _, h => by cases h; exact .non
  | .bool b, _, _, h => by cases h; exact .bl b
  | .int i, _, _, h => by cases h; exact .int i
  | .str x, _, _, h => by cases h; exact .str x
  | .list ds, _, n, _ => by cases n
  | .tuple ds, _, n, h => by
    cases h with
    | tup hs ha => exact .tup (SqT.tex e hs) (Dp.texAll e ds _ n.mem ha)
  | .dict _, _, n, _ => by cases n
theorem Dp.texAll (e : TEx H H') : ∀ (ds : List PyData) (vs : List V), (∀ d ∈ ds, NoL d) → DpAll K H vs ds → DpAll K H' vs ds
  | [], _, _, h => by cases h; exact .nil
  | d :: ds, _, n, h => by
    cases h with
    | cons h1 h2 => exact .cons (Dp.tex e d _ (n d (List.mem_cons_self ..)) h1) (Dp.texAll e ds _ (fun x hx => n x (List.mem_cons_of_mem _ hx)) h2)
end
theorem DpAll.length : ∀ {vs : List V} {ds : List PyData}, DpAll K H vs ds → vs.length = ds.length
  | _, _, .nil => rfl
  | _, _, .cons _ t => congrArg (· + 1) (DpAll.length t)
theorem DpAll.get : ∀ {vs : List V} {ds : List PyData}, DpAll K H vs ds → ∀ {i : Nat} {v : V}, vs[i]? = some v → ∃ d, ds[i]? = some d ∧ Dp K H v d
  | _, _, .nil, i, v, e => by simp at e
  | _, _, .cons h t, 0, v, e => by
    simp only [List.getElem?_cons_zero, Option.some.injEq] at e
    subst e
    exact ⟨_, rfl, h⟩
  | _, _, .cons h t, i + 1, v, e => by
    simp only [List.getElem?_cons_succ] at e ⊢
    exact DpAll.get t e
theorem DpAll.append : ∀ {vs ws : List V} {ds es : List PyData}, DpAll K H vs ds → DpAll K H ws es → DpAll K H (vs ++ ws) (ds ++ es)
  | _, _, _, _, .nil, h => h
  | _, _, _, _, .cons a t, h => .cons a (DpAll.append t h)
theorem DpAll.strs : ∀ (l : List Str), DpAll K H (l.map V.str) (l.map PyData.str)
  | [] => .nil
  | s :: l => .cons (.str s) (DpAll.strs l)
theorem DpAll.strs' {l : List Str} {vs : List V} (h : DpAll K H vs (l.map PyData.str)) : vs = l.map V.str := by
  induction l generalizing vs with
  | nil => cases h; rfl
  | cons s l ih =>
    cases h with
    | cons a t =>
      cases a
      rw [ih t]
      rfl
/-- a tuple's things -/
theorem Dp.tupOf {v : V} {ds : List PyData} (h : Dp K H v (.tuple ds)) : ∃ a xs, v = .ref a ∧ SqT K H a xs ∧ DpAll K H xs ds := by
  cases h with
  | tup hs ha => exact ⟨_, _, rfl, hs, ha⟩
theorem Dp.listOf {v : V} {ds : List PyData} (h : Dp K H v (.list ds)) : ∃ a xs, v = .ref a ∧ SqL K H a xs ∧ DpAll K H xs ds := by
  cases h with
  | lst hs ha => exact ⟨_, _, rfl, hs, ha⟩
end
/-- what isinstance looks at -/
def tyOf : PyData → String
  | .none => "NoneType"
  | .bool _ => "bool"
  | .int _ => "int"
  | .str _ => "str"
  | .list _ => "list"
  | .tuple _ => "tuple"
  | .dict _ => "dict"
theorem tyx_of {K : PySem.W.Frag} {H : Hp} {x : V} {d : PyData} (h : Dp K H x d) : TyX K H x (.type (tyOf d)) := by
  cases h with
  | non => exact .base .non
  | bl b => exact .base (.bl b)
  | int i => exact .base (.int i)
  | str s => exact .base (.str s)
  | lst hs ha =>
    rcases hs with (e | ⟨o, e⟩) | ⟨o, its, n, e, c, _⟩
    · exact .base (.lst e)
    · exact .base (.frz e)
    · exact .kList e c
  | tup hs ha =>
    rcases hs with (e | ⟨o, e⟩) | ⟨o, its, n, e, c, _⟩
    · exact .base (.tup e)
    · exact .fTuple e
    · exact .kTuple e c
def isTy (n : String) (d : PyData) : Bool := (kitB (tyOf d) n).getD false
def tyNames : List String := ["str", "int", "bool", "tuple", "list"]
theorem isTy_all : (["NoneType", "bool", "int", "str", "list", "tuple", "dict"].all fun t => tyNames.all fun n => (kitB t n).isSome) = true := by decide +kernel
theorem tyOf_mem (d : PyData) : tyOf d ∈ ["NoneType", "bool", "int", "str", "list", "tuple", "dict"] := by cases d <;> simp [tyOf]
theorem isTy_some {n : String} (hn : n ∈ tyNames) (d : PyData) : kitB (tyOf d) n = some (isTy n d) := by
  have h := List.all_eq_true.mp (List.all_eq_true.mp isTy_all _ (tyOf_mem d)) n hn
  unfold isTy
  cases e : kitB (tyOf d) n with
  | none =>
    rw [e] at h
    cases h
  | some b => rfl
/-- isinstance(x, n), x data -/
def rIsD (K : PySem.W.Frag) : List V → Hp → VK → Prop := fun xs H Q => ∃ x n d, xs = [x, .ty n] ∧ n ∈ tyNames ∧ Dp K H x d ∧ Q (.bl (isTy n d)) H
theorem call_isD {X : Cx} : CallR X (.builtin "isinstance") (rIsD X.K) := by
  intro pins s σ H xs us Q I r h
  obtain ⟨x, n, d, rfl, hn, hd, q⟩ := h
  exact call_isi pins s σ H _ us Q I r ⟨x, .ty n, _, _, isTy n d, rfl, .ty n, tyx_of hd, kit_ty (isTy_some hn d), q⟩
theorem ty_str (d : PyData) : isTy "str" d = (match d with | .str _ => true | _ => false) := by cases d <;> (unfold isTy tyOf; dsimp only; decide +kernel)
theorem ty_int (d : PyData) : isTy "int" d = (match d with | .int _ => true | .bool _ => true | _ => false) := by cases d <;> (unfold isTy tyOf; dsimp only; decide +kernel)
theorem ty_bool (d : PyData) : isTy "bool" d = (match d with | .bool _ => true | _ => false) := by cases d <;> (unfold isTy tyOf; dsimp only; decide +kernel)
theorem ty_tup (d : PyData) : isTy "tuple" d = (match d with | .tuple _ => true | _ => false) := by cases d <;> (unfold isTy tyOf; dsimp only; decide +kernel)
theorem ty_list (d : PyData) : isTy "list" d = (match d with | .list _ => true | _ => false) := by cases d <;> (unfold isTy tyOf; dsimp only; decide +kernel)
theorem if_t {c : Bool} {A B : Prop} (hc : c = true) (h : A) : if c = true then A else B := by rw [if_pos hc]; exact h
theorem if_f {c : Bool} {A B : Prop} (hc : c = false) (h : B) : if c = true then A else B := by rw [hc, if_neg Bool.false_ne_true]; exact h
theorem if_b {c : Bool} {A B : Prop} (h1 : c = true → A) (h2 : c = false → B) : if c = true then A else B := by
  cases c with
  | true => exact if_t rfl (h1 rfl)
  | false => exact if_f rfl (h2 rfl)
/-- the wish of a def about what it lets out -/
theorem rT {X : Cx} {E : XK} (hs : X.stack = X.env :: X.outer := by rfl) (hf : X.env.frame = some X.env.locals := by rfl) (hex : X.ex = [] := by rfl) {E₁ : Value → Shared → Prop}
    (hx : X.xe = fun e s' => wpAny (model X.prog X.w) X.A (leaving X.env e) (fun _ s'' => L2.CX X.prog X.w X.outer X.H_0 X.s_0 E e s'') E₁ s' := by rfl) : Takes X (fun cls d _ H => E cls d H) := takes_of hs hf hex hx
section
variable {X : Cx} {x : Str} {pos : Pos}
theorem pk_str {z : Str} (h : ∃ t, X.mg x = some (.str z t)) (hg : Gl X x := by rfl) (hd : (x == ("__debug__" : Str)) = false := by decide) : PE X (.Name x pos) (tC (.str z)) := by
  obtain ⟨t, e⟩ := h
  exact pe_glob hg e (show RelV (.str z) (.str z t) from ⟨t, rfl⟩) hd
theorem pk_int {i : Int} (h : ∃ t, X.mg x = some (.int i t)) (hg : Gl X x := by rfl) (hd : (x == ("__debug__" : Str)) = false := by decide) : PE X (.Name x pos) (tC (.int i)) := by
  obtain ⟨t, e⟩ := h
  exact pe_glob hg e (show RelV (.int i) (.int i t) from ⟨t, rfl⟩) hd
end
theorem q_bl {Q : VK} {b c : Bool} {H : Hp} (e : b = c) (h : Q (.bl c) H) : Q (.bl b) H := by rw [e]; exact h
theorem q_v {Q : VK} {u v : V} {H : Hp} (e : u = v) (h : Q v H) : Q u H := by rw [e]; exact h
theorem q_h {Q : VK} {u : V} {H H' : Hp} (e : H = H') (h : Q u H') : Q u H := by rw [e]; exact h
/-- a comprehension over a text -/
theorem lc_str {z : Str} {g : TG} {tt : TT} {te : TE} {vs : List Nat} {σ : L2.St} {H1 : Hp} {D : Addr} {Qd : Hp → Prop} (Pv : Nat → Hp → Prop) (h0 : Pv 0 (upd H1 D (.lst [])))
    (hs : ∀ i c H, z.cps[i]? = some c → Pv i H → g (.str ⟨#[c]⟩) (wipe σ vs) H fun σ2 H2 => wipe σ2 vs = wipe σ vs ∧ tt σ2 H2 fun b H3 =>
      if b = true then te σ2 H3 fun y H4 => ∃ acc, H4 D = some (.lst acc) ∧ acc.length < sizeLine ∧ Pv (i + 1) (upd H4 D (.lst (acc ++ [y]))) else Pv (i + 1) H3) (hd : ∀ H, Pv z.cps.size H → Qd H) :
    ∃ W : Nat → Nat → Hp → Prop, (∃ m, W 0 m (upd H1 D (.lst []))) ∧ ∀ i m H, W i m H →
      (((Its z).stop i H ∧ Qd H) ∨ ((Its z).go i H ∧ ∃ Nx : Hp → Prop, (∀ H', Nx H' → ∃ m', m' < m ∧ W (i + 1) m' H') ∧ ∀ x H', (Its z).yld i H x H' → g x (wipe σ vs) H' fun σ2 H2 => wipe σ2 vs = wipe σ vs ∧ tt σ2 H2 fun b H3 =>
        if b = true then te σ2 H3 fun y H4 => ∃ acc, H4 D = some (.lst acc) ∧ acc.length < sizeLine ∧ Nx (upd H4 D (.lst (acc ++ [y]))) else Nx H3)) := by
  refine ⟨fun i m H => m = z.cps.size - i ∧ i ≤ z.cps.size ∧ Pv i H, ⟨_, rfl, Nat.zero_le _, h0⟩, ?_⟩
  rintro i m H ⟨rfl, hi, p⟩
  by_cases hl : i = z.cps.size
  · subst hl
    exact .inl ⟨Nat.le_refl _, hd _ p⟩
  · have hlt : i < z.cps.size := Nat.lt_of_le_of_ne hi hl
    refine .inr ⟨hlt, Pv (i + 1), fun H' p' => ⟨z.cps.size - (i + 1), by omega, rfl, hlt, p'⟩, fun x H' y => ?_⟩
    obtain ⟨rfl, c, hc, rfl⟩ := y
    exact hs i c _ hc p
end Ey

set_option Elab.async false
set_option linter.all false
set_option maxRecDepth 100000
set_option maxHeartbeats 0
namespace K85
open PySem PySem.Spec PyProof.Rows L2
def top (i : Nat) : Stmt := PySem.Challenge.pw_eyesahead_k85_whole_texts_of_things.main.body.getD i (.Pass ⟨0, 0, 0, 0⟩)
abbrev s__wall : Stmt := top 0
def d__wall : He.DefD := ⟨("_wall", none), "_wall", "_wall", defArgs s__wall, defBody s__wall, defScope s__wall, [], []⟩
abbrev N__wall : List Str := ["k"]
theorem sc__wall : FnScope N__wall ["k"] (defScope s__wall) := ⟨rfl, rfl, rfl, by decide +kernel, rfl, by decide +kernel, by decide +kernel⟩
abbrev s_InvalidText___init__ : Stmt := inClass (top 3) 0
def e_InvalidText : Ey.EDef := ⟨"InvalidText", defArgs s_InvalidText___init__, defBody s_InvalidText___init__, defScope s_InvalidText___init__, ["at", "why"]⟩
abbrev s_InvalidThing___init__ : Stmt := inClass (top 4) 0
def e_InvalidThing : Ey.EDef := ⟨"InvalidThing", defArgs s_InvalidThing___init__, defBody s_InvalidThing___init__, defScope s_InvalidThing___init__, ["at"]⟩
abbrev s_InvalidSize___init__ : Stmt := inClass (top 5) 0
def e_InvalidSize : Ey.EDef := ⟨"InvalidSize", defArgs s_InvalidSize___init__, defBody s_InvalidSize___init__, defScope s_InvalidSize___init__, ["word"]⟩
abbrev s_end_of : Stmt := top 15
def d_end_of : He.DefD := ⟨("end_of", none), "end_of", "end_of", defArgs s_end_of, defBody s_end_of, defScope s_end_of, [], []⟩
abbrev N_end_of : List Str := ["text", "at", "signs"]
theorem sc_end_of : FnScope N_end_of ["text", "at", "signs"] (defScope s_end_of) := ⟨rfl, rfl, rfl, by decide +kernel, rfl, by decide +kernel, by decide +kernel⟩
abbrev s_group_end : Stmt := top 16
def d_group_end : He.DefD := ⟨("group_end", none), "group_end", "group_end", defArgs s_group_end, defBody s_group_end, defScope s_group_end, [], []⟩
abbrev N_group_end : List Str := ["text", "at"]
theorem sc_group_end : FnScope N_group_end ["text", "at"] (defScope s_group_end) := ⟨rfl, rfl, rfl, by decide +kernel, rfl, by decide +kernel, by decide +kernel⟩
abbrev s_cut_groups : Stmt := top 17
def d_cut_groups : He.DefD := ⟨("cut_groups", none), "cut_groups", "cut_groups", defArgs s_cut_groups, defBody s_cut_groups, defScope s_cut_groups, [], []⟩
abbrev N_cut_groups : List Str := ["text", "at", "sign", "found", "end"]
theorem sc_cut_groups : FnScope N_cut_groups ["text"] (defScope s_cut_groups) := ⟨rfl, rfl, rfl, by decide +kernel, rfl, by decide +kernel, by decide +kernel⟩
abbrev s_written : Stmt := top 18
def d_written : He.DefD := ⟨("written", none), "written", "written", defArgs s_written, defBody s_written, defScope s_written, [], []⟩
abbrev N_written : List Str := ["found", "row", "last", "group"]
theorem sc_written : FnScope N_written ["found"] (defScope s_written) := ⟨rfl, rfl, rfl, by decide +kernel, rfl, by decide +kernel, by decide +kernel⟩
abbrev s_is_long : Stmt := top 19
def d_is_long : He.DefD := ⟨("is_long", none), "is_long", "is_long", defArgs s_is_long, defBody s_is_long, defScope s_is_long, [], []⟩
abbrev N_is_long : List Str := ["group"]
theorem sc_is_long : FnScope N_is_long ["group"] (defScope s_is_long) := ⟨rfl, rfl, rfl, by decide +kernel, rfl, by decide +kernel, by decide +kernel⟩
abbrev s_Reading___init__ : Stmt := inClass (top 20) 0
def d_Reading___init__ : He.DefD := ⟨("Reading", some "__init__"), "__init__", "Reading.__init__", defArgs s_Reading___init__, defBody s_Reading___init__, defScope s_Reading___init__, [], []⟩
abbrev N_Reading___init__ : List Str := ["self", "text", "own"]
theorem sc_Reading___init__ : FnScope N_Reading___init__ ["self", "text", "own"] (defScope s_Reading___init__) := ⟨rfl, rfl, rfl, by decide +kernel, rfl, by decide +kernel, by decide +kernel⟩
abbrev s_Reading_now : Stmt := inClass (top 20) 1
def d_Reading_now : He.DefD := ⟨("Reading", some "now"), "now", "Reading.now", defArgs s_Reading_now, defBody s_Reading_now, defScope s_Reading_now, [], []⟩
abbrev N_Reading_now : List Str := ["self"]
theorem sc_Reading_now : FnScope N_Reading_now ["self"] (defScope s_Reading_now) := ⟨rfl, rfl, rfl, by decide +kernel, rfl, by decide +kernel, by decide +kernel⟩
abbrev s_Reading_wrong : Stmt := inClass (top 20) 2
def d_Reading_wrong : He.DefD := ⟨("Reading", some "wrong"), "wrong", "Reading.wrong", defArgs s_Reading_wrong, defBody s_Reading_wrong, defScope s_Reading_wrong, [.int 4], []⟩
abbrev N_Reading_wrong : List Str := ["self", "why"]
theorem sc_Reading_wrong : FnScope N_Reading_wrong ["self", "why"] (defScope s_Reading_wrong) := ⟨rfl, rfl, rfl, by decide +kernel, rfl, by decide +kernel, by decide +kernel⟩
abbrev s_Reading_begins : Stmt := inClass (top 20) 3
def d_Reading_begins : He.DefD := ⟨("Reading", some "begins"), "begins", "Reading.begins", defArgs s_Reading_begins, defBody s_Reading_begins, defScope s_Reading_begins, [], []⟩
abbrev N_Reading_begins : List Str := ["self", "words"]
theorem sc_Reading_begins : FnScope N_Reading_begins ["self", "words"] (defScope s_Reading_begins) := ⟨rfl, rfl, rfl, by decide +kernel, rfl, by decide +kernel, by decide +kernel⟩
abbrev s_Reading_taken : Stmt := inClass (top 20) 4
def d_Reading_taken : He.DefD := ⟨("Reading", some "taken"), "taken", "Reading.taken", defArgs s_Reading_taken, defBody s_Reading_taken, defScope s_Reading_taken, [], []⟩
abbrev N_Reading_taken : List Str := ["self"]
theorem sc_Reading_taken : FnScope N_Reading_taken ["self"] (defScope s_Reading_taken) := ⟨rfl, rfl, rfl, by decide +kernel, rfl, by decide +kernel, by decide +kernel⟩
abbrev s_Reading_took : Stmt := inClass (top 20) 5
def d_Reading_took : He.DefD := ⟨("Reading", some "took"), "took", "Reading.took", defArgs s_Reading_took, defBody s_Reading_took, defScope s_Reading_took, [], []⟩
abbrev N_Reading_took : List Str := ["self", "words"]
theorem sc_Reading_took : FnScope N_Reading_took ["self", "words"] (defScope s_Reading_took) := ⟨rfl, rfl, rfl, by decide +kernel, rfl, by decide +kernel, by decide +kernel⟩
abbrev s_Reading_passes : Stmt := inClass (top 20) 6
def d_Reading_passes : He.DefD := ⟨("Reading", some "passes"), "passes", "Reading.passes", defArgs s_Reading_passes, defBody s_Reading_passes, defScope s_Reading_passes, [], []⟩
abbrev N_Reading_passes : List Str := ["self", "words"]
theorem sc_Reading_passes : FnScope N_Reading_passes ["self", "words"] (defScope s_Reading_passes) := ⟨rfl, rfl, rfl, by decide +kernel, rfl, by decide +kernel, by decide +kernel⟩
abbrev s_Reading_at_number : Stmt := inClass (top 20) 7
def d_Reading_at_number : He.DefD := ⟨("Reading", some "at_number"), "at_number", "Reading.at_number", defArgs s_Reading_at_number, defBody s_Reading_at_number, defScope s_Reading_at_number, [], []⟩
abbrev N_Reading_at_number : List Str := ["self"]
theorem sc_Reading_at_number : FnScope N_Reading_at_number ["self"] (defScope s_Reading_at_number) := ⟨rfl, rfl, rfl, by decide +kernel, rfl, by decide +kernel, by decide +kernel⟩
abbrev s_Reading_at_name : Stmt := inClass (top 20) 8
def d_Reading_at_name : He.DefD := ⟨("Reading", some "at_name"), "at_name", "Reading.at_name", defArgs s_Reading_at_name, defBody s_Reading_at_name, defScope s_Reading_at_name, [], []⟩
abbrev N_Reading_at_name : List Str := ["self"]
theorem sc_Reading_at_name : FnScope N_Reading_at_name ["self"] (defScope s_Reading_at_name) := ⟨rfl, rfl, rfl, by decide +kernel, rfl, by decide +kernel, by decide +kernel⟩
abbrev s_Reading_number : Stmt := inClass (top 20) 9
def d_Reading_number : He.DefD := ⟨("Reading", some "number"), "number", "Reading.number", defArgs s_Reading_number, defBody s_Reading_number, defScope s_Reading_number, [], []⟩
abbrev N_Reading_number : List Str := ["self"]
theorem sc_Reading_number : FnScope N_Reading_number ["self"] (defScope s_Reading_number) := ⟨rfl, rfl, rfl, by decide +kernel, rfl, by decide +kernel, by decide +kernel⟩
abbrev s_Reading_name : Stmt := inClass (top 20) 10
def d_Reading_name : He.DefD := ⟨("Reading", some "name"), "name", "Reading.name", defArgs s_Reading_name, defBody s_Reading_name, defScope s_Reading_name, [], []⟩
abbrev N_Reading_name : List Str := ["self"]
theorem sc_Reading_name : FnScope N_Reading_name ["self"] (defScope s_Reading_name) := ⟨rfl, rfl, rfl, by decide +kernel, rfl, by decide +kernel, by decide +kernel⟩
abbrev s_Reading_placed : Stmt := inClass (top 20) 11
def d_Reading_placed : He.DefD := ⟨("Reading", some "placed"), "placed", "Reading.placed", defArgs s_Reading_placed, defBody s_Reading_placed, defScope s_Reading_placed, [], []⟩
abbrev N_Reading_placed : List Str := ["self"]
theorem sc_Reading_placed : FnScope N_Reading_placed ["self"] (defScope s_Reading_placed) := ⟨rfl, rfl, rfl, by decide +kernel, rfl, by decide +kernel, by decide +kernel⟩
abbrev s_Reading_deeper : Stmt := inClass (top 20) 12
def d_Reading_deeper : He.DefD := ⟨("Reading", some "deeper"), "deeper", "Reading.deeper", defArgs s_Reading_deeper, defBody s_Reading_deeper, defScope s_Reading_deeper, [], []⟩
abbrev N_Reading_deeper : List Str := ["self", "deep"]
theorem sc_Reading_deeper : FnScope N_Reading_deeper ["self", "deep"] (defScope s_Reading_deeper) := ⟨rfl, rfl, rfl, by decide +kernel, rfl, by decide +kernel, by decide +kernel⟩
abbrev s_Reading_at_end : Stmt := inClass (top 20) 13
def d_Reading_at_end : He.DefD := ⟨("Reading", some "at_end"), "at_end", "Reading.at_end", defArgs s_Reading_at_end, defBody s_Reading_at_end, defScope s_Reading_at_end, [], []⟩
abbrev N_Reading_at_end : List Str := ["self"]
theorem sc_Reading_at_end : FnScope N_Reading_at_end ["self"] (defScope s_Reading_at_end) := ⟨rfl, rfl, rfl, by decide +kernel, rfl, by decide +kernel, by decide +kernel⟩
abbrev s_is_integer : Stmt := top 22
def d_is_integer : He.DefD := ⟨("is_integer", none), "is_integer", "is_integer", defArgs s_is_integer, defBody s_is_integer, defScope s_is_integer, [], []⟩
abbrev N_is_integer : List Str := ["value"]
theorem sc_is_integer : FnScope N_is_integer ["value"] (defScope s_is_integer) := ⟨rfl, rfl, rfl, by decide +kernel, rfl, by decide +kernel, by decide +kernel⟩
abbrev s_is_between : Stmt := top 23
def d_is_between : He.DefD := ⟨("is_between", none), "is_between", "is_between", defArgs s_is_between, defBody s_is_between, defScope s_is_between, [], []⟩
abbrev N_is_between : List Str := ["value", "least", "most"]
theorem sc_is_between : FnScope N_is_between ["value", "least", "most"] (defScope s_is_between) := ⟨rfl, rfl, rfl, by decide +kernel, rfl, by decide +kernel, by decide +kernel⟩
abbrev s_is_thing_word : Stmt := top 27
def d_is_thing_word : He.DefD := ⟨("is_thing_word", none), "is_thing_word", "is_thing_word", defArgs s_is_thing_word, defBody s_is_thing_word, defScope s_is_thing_word, [], []⟩
abbrev N_is_thing_word : List Str := ["value", "sign"]
theorem sc_is_thing_word : FnScope N_is_thing_word ["value"] (defScope s_is_thing_word) := ⟨rfl, rfl, rfl, by decide +kernel, rfl, by decide +kernel, by decide +kernel⟩
abbrev s_is_thing_within : Stmt := top 28
def d_is_thing_within : He.DefD := ⟨("is_thing_within", none), "is_thing_within", "is_thing_within", defArgs s_is_thing_within, defBody s_is_thing_within, defScope s_is_thing_within, [], []⟩
abbrev N_is_thing_within : List Str := ["value", "deep", "part"]
theorem sc_is_thing_within : FnScope N_is_thing_within ["value", "deep"] (defScope s_is_thing_within) := ⟨rfl, rfl, rfl, by decide +kernel, rfl, by decide +kernel, by decide +kernel⟩
abbrev s_is_thing : Stmt := top 29
def d_is_thing : He.DefD := ⟨("is_thing", none), "is_thing", "is_thing", defArgs s_is_thing, defBody s_is_thing, defScope s_is_thing, [], []⟩
abbrev N_is_thing : List Str := ["value"]
theorem sc_is_thing : FnScope N_is_thing ["value"] (defScope s_is_thing) := ⟨rfl, rfl, rfl, by decide +kernel, rfl, by decide +kernel, by decide +kernel⟩
abbrev s_thing_groups : Stmt := top 30
def d_thing_groups : He.DefD := ⟨("thing_groups", none), "thing_groups", "thing_groups", defArgs s_thing_groups, defBody s_thing_groups, defScope s_thing_groups, [], []⟩
abbrev N_thing_groups : List Str := ["value", "found", "part"]
theorem sc_thing_groups : FnScope N_thing_groups ["value"] (defScope s_thing_groups) := ⟨rfl, rfl, rfl, by decide +kernel, rfl, by decide +kernel, by decide +kernel⟩
abbrev s_thing_text : Stmt := top 31
def d_thing_text : He.DefD := ⟨("thing_text", none), "thing_text", "thing_text", defArgs s_thing_text, defBody s_thing_text, defScope s_thing_text, [], []⟩
abbrev N_thing_text : List Str := ["value", "found"]
theorem sc_thing_text : FnScope N_thing_text ["value"] (defScope s_thing_text) := ⟨rfl, rfl, rfl, by decide +kernel, rfl, by decide +kernel, by decide +kernel⟩
abbrev s_read_part : Stmt := top 32
def d_read_part : He.DefD := ⟨("read_part", none), "read_part", "read_part", defArgs s_read_part, defBody s_read_part, defScope s_read_part, [], []⟩
abbrev N_read_part : List Str := ["reading", "deep", "word", "deeper", "found"]
theorem sc_read_part : FnScope N_read_part ["reading", "deep"] (defScope s_read_part) := ⟨rfl, rfl, rfl, by decide +kernel, rfl, by decide +kernel, by decide +kernel⟩
abbrev s_read_thing : Stmt := top 33
def d_read_thing : He.DefD := ⟨("read_thing", none), "read_thing", "read_thing", defArgs s_read_thing, defBody s_read_thing, defScope s_read_thing, [], []⟩
abbrev N_read_thing : List Str := ["text", "reading", "found"]
theorem sc_read_thing : FnScope N_read_thing ["text"] (defScope s_read_thing) := ⟨rfl, rfl, rfl, by decide +kernel, rfl, by decide +kernel, by decide +kernel⟩
abbrev s__law_box : Stmt := top 35
def d__law_box : He.DefD := ⟨("_law_box", none), "_law_box", "_law_box", defArgs s__law_box, defBody s__law_box, defScope s__law_box, [], []⟩
abbrev N__law_box : List Str := ["script", "rest", "state", "k", "cell", "size"]
theorem sc__law_box : FnScope N__law_box ["script"] (defScope s__law_box) := ⟨rfl, rfl, rfl, by decide +kernel, rfl, by decide +kernel, by decide +kernel⟩
abbrev s__law_take : Stmt := top 36
def d__law_take : He.DefD := ⟨("_law_take", none), "_law_take", "_law_take", defArgs s__law_take, defBody s__law_take, defScope s__law_take, [], []⟩
abbrev N__law_take : List Str := ["box", "many", "cell"]
theorem sc__law_take : FnScope N__law_take ["box", "many"] (defScope s__law_take) := ⟨rfl, rfl, rfl, by decide +kernel, rfl, by decide +kernel, by decide +kernel⟩
abbrev s__law_pick : Stmt := top 37
def d__law_pick : He.DefD := ⟨("_law_pick", none), "_law_pick", "_law_pick", defArgs s__law_pick, defBody s__law_pick, defScope s__law_pick, [], []⟩
abbrev N__law_pick : List Str := ["box", "some"]
theorem sc__law_pick : FnScope N__law_pick ["box", "some"] (defScope s__law_pick) := ⟨rfl, rfl, rfl, by decide +kernel, rfl, by decide +kernel, by decide +kernel⟩
abbrev s__law_is : Stmt := top 38
def d__law_is : He.DefD := ⟨("_law_is", none), "_law_is", "_law_is", defArgs s__law_is, defBody s__law_is, defScope s__law_is, [], []⟩
abbrev N__law_is : List Str := ["told", "due", "one", "other"]
theorem sc__law_is : FnScope N__law_is ["told", "due"] (defScope s__law_is) := ⟨rfl, rfl, rfl, by decide +kernel, rfl, by decide +kernel, by decide +kernel⟩
abbrev s__law_answer : Stmt := top 39
def d__law_answer : He.DefD := ⟨("_law_answer", none), "_law_answer", "_law_answer", defArgs s__law_answer, defBody s__law_answer, defScope s__law_answer, [], []⟩
abbrev N__law_answer : List Str := ["call", "kept", "refused"]
theorem sc__law_answer : FnScope N__law_answer ["call"] (defScope s__law_answer) := ⟨rfl, rfl, rfl, by decide +kernel, rfl, by decide +kernel, by decide +kernel⟩
abbrev s__law_error : Stmt := top 40
def d__law_error : He.DefD := ⟨("_law_error", none), "_law_error", "_law_error", defArgs s__law_error, defBody s__law_error, defScope s__law_error, [], []⟩
abbrev N__law_error : List Str := ["call", "e"]
theorem sc__law_error : FnScope N__law_error ["call"] (defScope s__law_error) := ⟨rfl, rfl, rfl, by decide +kernel, rfl, by decide +kernel, by decide +kernel⟩
abbrev s__law_thing : Stmt := top 41
def d__law_thing : He.DefD := ⟨("_law_thing", none), "_law_thing", "_law_thing", defArgs s__law_thing, defBody s__law_thing, defScope s__law_thing, [], []⟩
abbrev N__law_thing : List Str := ["box", "deep", "way", "turn"]
theorem sc__law_thing : FnScope N__law_thing ["box", "deep"] (defScope s__law_thing) := ⟨rfl, rfl, rfl, by decide +kernel, rfl, by decide +kernel, by decide +kernel⟩
abbrev s__law_groups : Stmt := top 42
def d__law_groups : He.DefD := ⟨("_law_groups", none), "_law_groups", "_law_groups", defArgs s__law_groups, defBody s__law_groups, defScope s__law_groups, [], []⟩
abbrev N__law_groups : List Str := ["value", "told", "part"]
theorem sc__law_groups : FnScope N__law_groups ["value"] (defScope s__law_groups) := ⟨rfl, rfl, rfl, by decide +kernel, rfl, by decide +kernel, by decide +kernel⟩
abbrev s__law_shown : Stmt := top 43
def d__law_shown : He.DefD := ⟨("_law_shown", none), "_law_shown", "_law_shown", defArgs s__law_shown, defBody s__law_shown, defScope s__law_shown, [], []⟩
abbrev N__law_shown : List Str := ["value", "part"]
theorem sc__law_shown : FnScope N__law_shown ["value"] (defScope s__law_shown) := ⟨rfl, rfl, rfl, by decide +kernel, rfl, by decide +kernel, by decide +kernel⟩
abbrev s__law_wrong : Stmt := top 44
def d__law_wrong : He.DefD := ⟨("_law_wrong", none), "_law_wrong", "_law_wrong", defArgs s__law_wrong, defBody s__law_wrong, defScope s__law_wrong, [], []⟩
abbrev N__law_wrong : List Str := ["groups", "at", "why", "group"]
theorem sc__law_wrong : FnScope N__law_wrong ["groups", "at", "why"] (defScope s__law_wrong) := ⟨rfl, rfl, rfl, by decide +kernel, rfl, by decide +kernel, by decide +kernel⟩
abbrev s__law_part : Stmt := top 45
def d__law_part : He.DefD := ⟨("_law_part", none), "_law_part", "_law_part", defArgs s__law_part, defBody s__law_part, defScope s__law_part, [], []⟩
abbrev N__law_part : List Str := ["groups", "at", "deep", "group", "told", "part", "further", "wrong"]
theorem sc__law_part : FnScope N__law_part ["groups", "at", "deep"] (defScope s__law_part) := ⟨rfl, rfl, rfl, by decide +kernel, rfl, by decide +kernel, by decide +kernel⟩
abbrev s__law_read : Stmt := top 46
def d__law_read : He.DefD := ⟨("_law_read", none), "_law_read", "_law_read", defArgs s__law_read, defBody s__law_read, defScope s__law_read, [], []⟩
abbrev N__law_read : List Str := ["groups", "told", "at", "wrong"]
theorem sc__law_read : FnScope N__law_read ["groups"] (defScope s__law_read) := ⟨rfl, rfl, rfl, by decide +kernel, rfl, by decide +kernel, by decide +kernel⟩
abbrev s_law : Stmt := top 47
def d_law : He.DefD := ⟨("law", none), "law", "law", defArgs s_law, defBody s_law, defScope s_law, [], []⟩
abbrev N_law : List Str := ["script", "box", "turn", "value", "groups", "count", "at", "way", "odd", "other", "bad", "nested", "high", "many", "wide", "due"]
theorem sc_law : FnScope N_law ["script"] (defScope s_law) := ⟨rfl, rfl, rfl, by decide +kernel, rfl, by decide +kernel, by decide +kernel⟩
def fn : List He.DefD := [d__wall, d_end_of, d_group_end, d_cut_groups, d_written, d_is_long, d_Reading___init__, d_Reading_now, d_Reading_wrong, d_Reading_begins, d_Reading_taken, d_Reading_took, d_Reading_passes, d_Reading_at_number, d_Reading_at_name, d_Reading_number, d_Reading_name, d_Reading_placed, d_Reading_deeper, d_Reading_at_end, d_is_integer, d_is_between, d_is_thing_word, d_is_thing_within, d_is_thing, d_thing_groups, d_thing_text, d_read_part, d_read_thing, d__law_box, d__law_take, d__law_pick, d__law_is, d__law_answer, d__law_error, d__law_thing, d__law_groups, d__law_shown, d__law_wrong, d__law_part, d__law_read, d_law]
def es : List Ey.EDef := [e_InvalidText, e_InvalidThing, e_InvalidSize]
def fa0 : List He.Fa := [.str "FIGURES" "0123456789", .int "GREATEST" 9999, .glo "InvalidSize", .glo "InvalidText", .glo "InvalidThing", .str "LETTERS" "abcdefghijklmnopqrstuvwxyz", .int "MOST_DEEP" 12, .int "MOST_FIGURES" 4, .int "MOST_GROUPS" 4000, .int "MOST_LETTERS" 12, .int "MOST_TEXT" 60000, .str "NO_THING" "none", .glo "Reading", .str "SIGNS" ":,()-", .glo "_law_answer", .glo "_law_box", .glo "_law_error", .glo "_law_groups", .glo "_law_is", .glo "_law_part", .glo "_law_pick", .glo "_law_read", .glo "_law_shown", .glo "_law_take", .glo "_law_thing", .glo "_law_wrong", .glo "_wall", .free "abs", .free "all", .free "bool"]
def fa1 : List He.Fa := [.glo "cut_groups", .glo "end_of", .free "enumerate", .glo "group_end", .free "int", .glo "is_between", .glo "is_integer", .glo "is_long", .glo "is_thing", .glo "is_thing_within", .glo "is_thing_word", .free "isinstance", .free "len", .free "list", .free "range", .glo "read_part", .glo "read_thing", .free "str", .free "super", .glo "thing_groups", .glo "thing_text", .free "tuple", .glo "written", .free "zip", .glo "law", .cls "Reading", .noat "Reading" "at", .noat "Reading" "groups", .noat "Reading" "own", .mkr "Reading"]
def fa2 : List He.Fa := [.meth "Reading" "now", .meth "Reading" "wrong", .meth "Reading" "begins", .meth "Reading" "taken", .meth "Reading" "took", .meth "Reading" "passes", .meth "Reading" "at_number", .meth "Reading" "at_name", .meth "Reading" "number", .meth "Reading" "name", .meth "Reading" "placed", .meth "Reading" "deeper", .meth "Reading" "at_end", .exm "InvalidText" "InvalidText" true, .exm "InvalidText" "InvalidThing" false, .exm "InvalidText" "InvalidSize" false, .exm "InvalidThing" "InvalidText" false, .exm "InvalidThing" "InvalidThing" true, .exm "InvalidThing" "InvalidSize" false, .exm "InvalidSize" "InvalidText" false, .exm "InvalidSize" "InvalidThing" false, .exm "InvalidSize" "InvalidSize" true]
def fa : List He.Fa := fa0 ++ fa1 ++ fa2
def tf : List He.Defn := [("_law_answer", none), ("law", none)]
def ex (K : PySem.W.Frag) : Bool := (!decide ((He.cT K ("_law_answer", none)).2 = (He.cT K ("law", none)).2))
def loose0 : List Str := ["_wall", "EyeError", "InvalidText", "InvalidThing", "InvalidSize", "MOST_TEXT", "MOST_GROUPS", "MOST_LETTERS", "MOST_FIGURES", "MOST_DEEP", "LETTERS", "FIGURES", "SIGNS", "end_of", "group_end", "cut_groups", "written", "is_long", "Reading", "is_integer", "is_between", "GREATEST", "NO_THING", "is_thing_word", "is_thing_within", "is_thing", "thing_groups", "thing_text", "read_part", "read_thing"]
def loose1 : List Str := ["_law_box", "_law_take", "_law_pick", "_law_is", "_law_answer", "_law_error", "_law_thing", "_law_groups", "_law_shown", "_law_wrong", "_law_part", "_law_read"]
def loose : List Str := loose0 ++ loose1
def iLaw : Nat := 47
/-- what the top has left, by names -/
structure T (P : Program) (K : PySem.W.Frag) (mg : Str → Option Value) : Prop where
  k_FIGURES : ∃ t, mg "FIGURES" = some (.str "0123456789" t)
  k_GREATEST : ∃ t, mg "GREATEST" = some (.int 9999 t)
  g_InvalidSize : mg "InvalidSize" = some (.ref (He.ga K "InvalidSize"))
  g_InvalidText : mg "InvalidText" = some (.ref (He.ga K "InvalidText"))
  g_InvalidThing : mg "InvalidThing" = some (.ref (He.ga K "InvalidThing"))
  k_LETTERS : ∃ t, mg "LETTERS" = some (.str "abcdefghijklmnopqrstuvwxyz" t)
  k_MOST_DEEP : ∃ t, mg "MOST_DEEP" = some (.int 12 t)
  k_MOST_FIGURES : ∃ t, mg "MOST_FIGURES" = some (.int 4 t)
  k_MOST_GROUPS : ∃ t, mg "MOST_GROUPS" = some (.int 4000 t)
  k_MOST_LETTERS : ∃ t, mg "MOST_LETTERS" = some (.int 12 t)
  k_MOST_TEXT : ∃ t, mg "MOST_TEXT" = some (.int 60000 t)
  k_NO_THING : ∃ t, mg "NO_THING" = some (.str "none" t)
  g_Reading : mg "Reading" = some (.ref (He.ga K "Reading"))
  k_SIGNS : ∃ t, mg "SIGNS" = some (.str ":,()-" t)
  g__law_answer : mg "_law_answer" = some (.ref (He.ga K "_law_answer"))
  g__law_box : mg "_law_box" = some (.ref (He.ga K "_law_box"))
  g__law_error : mg "_law_error" = some (.ref (He.ga K "_law_error"))
  g__law_groups : mg "_law_groups" = some (.ref (He.ga K "_law_groups"))
  g__law_is : mg "_law_is" = some (.ref (He.ga K "_law_is"))
  g__law_part : mg "_law_part" = some (.ref (He.ga K "_law_part"))
  g__law_pick : mg "_law_pick" = some (.ref (He.ga K "_law_pick"))
  g__law_read : mg "_law_read" = some (.ref (He.ga K "_law_read"))
  g__law_shown : mg "_law_shown" = some (.ref (He.ga K "_law_shown"))
  g__law_take : mg "_law_take" = some (.ref (He.ga K "_law_take"))
  g__law_thing : mg "_law_thing" = some (.ref (He.ga K "_law_thing"))
  g__law_wrong : mg "_law_wrong" = some (.ref (He.ga K "_law_wrong"))
  g__wall : mg "_wall" = some (.ref (He.ga K "_wall"))
  b_abs : mg "abs" = none
  b_all : mg "all" = none
  b_bool : mg "bool" = none
  g_cut_groups : mg "cut_groups" = some (.ref (He.ga K "cut_groups"))
  g_end_of : mg "end_of" = some (.ref (He.ga K "end_of"))
  b_enumerate : mg "enumerate" = none
  g_group_end : mg "group_end" = some (.ref (He.ga K "group_end"))
  b_int : mg "int" = none
  g_is_between : mg "is_between" = some (.ref (He.ga K "is_between"))
  g_is_integer : mg "is_integer" = some (.ref (He.ga K "is_integer"))
  g_is_long : mg "is_long" = some (.ref (He.ga K "is_long"))
  g_is_thing : mg "is_thing" = some (.ref (He.ga K "is_thing"))
  g_is_thing_within : mg "is_thing_within" = some (.ref (He.ga K "is_thing_within"))
  g_is_thing_word : mg "is_thing_word" = some (.ref (He.ga K "is_thing_word"))
  b_isinstance : mg "isinstance" = none
  b_len : mg "len" = none
  b_list : mg "list" = none
  b_range : mg "range" = none
  g_read_part : mg "read_part" = some (.ref (He.ga K "read_part"))
  g_read_thing : mg "read_thing" = some (.ref (He.ga K "read_thing"))
  b_str : mg "str" = none
  b_super : mg "super" = none
  g_thing_groups : mg "thing_groups" = some (.ref (He.ga K "thing_groups"))
  g_thing_text : mg "thing_text" = some (.ref (He.ga K "thing_text"))
  b_tuple : mg "tuple" = none
  g_written : mg "written" = some (.ref (He.ga K "written"))
  b_zip : mg "zip" = none
  g_law : mg "law" = some (.ref (He.ga K "law"))
  c_Reading : Cls K (He.ga K "Reading")
  a_Reading_at : NoAttr K (He.ga K "Reading") "at"
  a_Reading_groups : NoAttr K (He.ga K "Reading") "groups"
  a_Reading_own : NoAttr K (He.ga K "Reading") "own"
  m_Reading : Mk K (He.ga K "Reading") (He.ma K (He.ga K "Reading") "__init__")
  m_Reading_now : Meth K (He.ga K "Reading") "now" (He.ma K (He.ga K "Reading") "now")
  m_Reading_wrong : Meth K (He.ga K "Reading") "wrong" (He.ma K (He.ga K "Reading") "wrong")
  m_Reading_begins : Meth K (He.ga K "Reading") "begins" (He.ma K (He.ga K "Reading") "begins")
  m_Reading_taken : Meth K (He.ga K "Reading") "taken" (He.ma K (He.ga K "Reading") "taken")
  m_Reading_took : Meth K (He.ga K "Reading") "took" (He.ma K (He.ga K "Reading") "took")
  m_Reading_passes : Meth K (He.ga K "Reading") "passes" (He.ma K (He.ga K "Reading") "passes")
  m_Reading_at_number : Meth K (He.ga K "Reading") "at_number" (He.ma K (He.ga K "Reading") "at_number")
  m_Reading_at_name : Meth K (He.ga K "Reading") "at_name" (He.ma K (He.ga K "Reading") "at_name")
  m_Reading_number : Meth K (He.ga K "Reading") "number" (He.ma K (He.ga K "Reading") "number")
  m_Reading_name : Meth K (He.ga K "Reading") "name" (He.ma K (He.ga K "Reading") "name")
  m_Reading_placed : Meth K (He.ga K "Reading") "placed" (He.ma K (He.ga K "Reading") "placed")
  m_Reading_deeper : Meth K (He.ga K "Reading") "deeper" (He.ma K (He.ga K "Reading") "deeper")
  m_Reading_at_end : Meth K (He.ga K "Reading") "at_end" (He.ma K (He.ga K "Reading") "at_end")
  x_InvalidText_InvalidText : PySem.W.exmOne K (.ref (He.ga K "InvalidText")) (.ref (He.ga K "InvalidText")) = some true
  x_InvalidText_InvalidThing : PySem.W.exmOne K (.ref (He.ga K "InvalidText")) (.ref (He.ga K "InvalidThing")) = some false
  x_InvalidText_InvalidSize : PySem.W.exmOne K (.ref (He.ga K "InvalidText")) (.ref (He.ga K "InvalidSize")) = some false
  x_InvalidThing_InvalidText : PySem.W.exmOne K (.ref (He.ga K "InvalidThing")) (.ref (He.ga K "InvalidText")) = some false
  x_InvalidThing_InvalidThing : PySem.W.exmOne K (.ref (He.ga K "InvalidThing")) (.ref (He.ga K "InvalidThing")) = some true
  x_InvalidThing_InvalidSize : PySem.W.exmOne K (.ref (He.ga K "InvalidThing")) (.ref (He.ga K "InvalidSize")) = some false
  x_InvalidSize_InvalidText : PySem.W.exmOne K (.ref (He.ga K "InvalidSize")) (.ref (He.ga K "InvalidText")) = some false
  x_InvalidSize_InvalidThing : PySem.W.exmOne K (.ref (He.ga K "InvalidSize")) (.ref (He.ga K "InvalidThing")) = some false
  x_InvalidSize_InvalidSize : PySem.W.exmOne K (.ref (He.ga K "InvalidSize")) (.ref (He.ga K "InvalidSize")) = some true
  f__wall : Ey.FnAs K d__wall
  f_end_of : Ey.FnAs K d_end_of
  f_group_end : Ey.FnAs K d_group_end
  f_cut_groups : Ey.FnAs K d_cut_groups
  f_written : Ey.FnAs K d_written
  f_is_long : Ey.FnAs K d_is_long
  f_Reading___init__ : Ey.FnAs K d_Reading___init__
  f_Reading_now : Ey.FnAs K d_Reading_now
  f_Reading_wrong : Ey.FnAs K d_Reading_wrong
  f_Reading_begins : Ey.FnAs K d_Reading_begins
  f_Reading_taken : Ey.FnAs K d_Reading_taken
  f_Reading_took : Ey.FnAs K d_Reading_took
  f_Reading_passes : Ey.FnAs K d_Reading_passes
  f_Reading_at_number : Ey.FnAs K d_Reading_at_number
  f_Reading_at_name : Ey.FnAs K d_Reading_at_name
  f_Reading_number : Ey.FnAs K d_Reading_number
  f_Reading_name : Ey.FnAs K d_Reading_name
  f_Reading_placed : Ey.FnAs K d_Reading_placed
  f_Reading_deeper : Ey.FnAs K d_Reading_deeper
  f_Reading_at_end : Ey.FnAs K d_Reading_at_end
  f_is_integer : Ey.FnAs K d_is_integer
  f_is_between : Ey.FnAs K d_is_between
  f_is_thing_word : Ey.FnAs K d_is_thing_word
  f_is_thing_within : Ey.FnAs K d_is_thing_within
  f_is_thing : Ey.FnAs K d_is_thing
  f_thing_groups : Ey.FnAs K d_thing_groups
  f_thing_text : Ey.FnAs K d_thing_text
  f_read_part : Ey.FnAs K d_read_part
  f_read_thing : Ey.FnAs K d_read_thing
  f__law_box : Ey.FnAs K d__law_box
  f__law_take : Ey.FnAs K d__law_take
  f__law_pick : Ey.FnAs K d__law_pick
  f__law_is : Ey.FnAs K d__law_is
  f__law_answer : Ey.FnAs K d__law_answer
  f__law_error : Ey.FnAs K d__law_error
  f__law_thing : Ey.FnAs K d__law_thing
  f__law_groups : Ey.FnAs K d__law_groups
  f__law_shown : Ey.FnAs K d__law_shown
  f__law_wrong : Ey.FnAs K d__law_wrong
  f__law_part : Ey.FnAs K d__law_part
  f__law_read : Ey.FnAs K d__law_read
  f_law : Ey.FnAs K d_law
  e_InvalidText : Ey.EFacts P K mg e_InvalidText
  e_InvalidThing : Ey.EFacts P K mg e_InvalidThing
  e_InvalidSize : Ey.EFacts P K mg e_InvalidSize
theorem t_of {P : Program} {w : World} {K : PySem.W.Frag} {mg : Str → Option Value} {h h0 : Heap} (hP : P.main.file = PySem.Challenge.pw_eyesahead_k85_whole_texts_of_things.main.file) (hS : (P.main.scope.names.lookup ("super" : Str)).isSome = false) (X : K.In h) (G : h.Ns mainGlobals mg) (c : Ey.SaysE P.main.file fa fn es tf ex h0 K) (hs : mg "super" = none) : T P K mg where
  k_FIGURES := He.str_ok X G (c.d.fact 0 rfl)
  k_GREATEST := He.int_ok X G (c.d.fact 1 rfl)
  g_InvalidSize := He.glo_ok X G (c.d.fact 2 rfl)
  g_InvalidText := He.glo_ok X G (c.d.fact 3 rfl)
  g_InvalidThing := He.glo_ok X G (c.d.fact 4 rfl)
  k_LETTERS := He.str_ok X G (c.d.fact 5 rfl)
  k_MOST_DEEP := He.int_ok X G (c.d.fact 6 rfl)
  k_MOST_FIGURES := He.int_ok X G (c.d.fact 7 rfl)
  k_MOST_GROUPS := He.int_ok X G (c.d.fact 8 rfl)
  k_MOST_LETTERS := He.int_ok X G (c.d.fact 9 rfl)
  k_MOST_TEXT := He.int_ok X G (c.d.fact 10 rfl)
  k_NO_THING := He.str_ok X G (c.d.fact 11 rfl)
  g_Reading := He.glo_ok X G (c.d.fact 12 rfl)
  k_SIGNS := He.str_ok X G (c.d.fact 13 rfl)
  g__law_answer := He.glo_ok X G (c.d.fact 14 rfl)
  g__law_box := He.glo_ok X G (c.d.fact 15 rfl)
  g__law_error := He.glo_ok X G (c.d.fact 16 rfl)
  g__law_groups := He.glo_ok X G (c.d.fact 17 rfl)
  g__law_is := He.glo_ok X G (c.d.fact 18 rfl)
  g__law_part := He.glo_ok X G (c.d.fact 19 rfl)
  g__law_pick := He.glo_ok X G (c.d.fact 20 rfl)
  g__law_read := He.glo_ok X G (c.d.fact 21 rfl)
  g__law_shown := He.glo_ok X G (c.d.fact 22 rfl)
  g__law_take := He.glo_ok X G (c.d.fact 23 rfl)
  g__law_thing := He.glo_ok X G (c.d.fact 24 rfl)
  g__law_wrong := He.glo_ok X G (c.d.fact 25 rfl)
  g__wall := He.glo_ok X G (c.d.fact 26 rfl)
  b_abs := He.free_ok X G (c.d.fact 27 rfl)
  b_all := He.free_ok X G (c.d.fact 28 rfl)
  b_bool := He.free_ok X G (c.d.fact 29 rfl)
  g_cut_groups := He.glo_ok X G (c.d.fact 30 rfl)
  g_end_of := He.glo_ok X G (c.d.fact 31 rfl)
  b_enumerate := He.free_ok X G (c.d.fact 32 rfl)
  g_group_end := He.glo_ok X G (c.d.fact 33 rfl)
  b_int := He.free_ok X G (c.d.fact 34 rfl)
  g_is_between := He.glo_ok X G (c.d.fact 35 rfl)
  g_is_integer := He.glo_ok X G (c.d.fact 36 rfl)
  g_is_long := He.glo_ok X G (c.d.fact 37 rfl)
  g_is_thing := He.glo_ok X G (c.d.fact 38 rfl)
  g_is_thing_within := He.glo_ok X G (c.d.fact 39 rfl)
  g_is_thing_word := He.glo_ok X G (c.d.fact 40 rfl)
  b_isinstance := He.free_ok X G (c.d.fact 41 rfl)
  b_len := He.free_ok X G (c.d.fact 42 rfl)
  b_list := He.free_ok X G (c.d.fact 43 rfl)
  b_range := He.free_ok X G (c.d.fact 44 rfl)
  g_read_part := He.glo_ok X G (c.d.fact 45 rfl)
  g_read_thing := He.glo_ok X G (c.d.fact 46 rfl)
  b_str := He.free_ok X G (c.d.fact 47 rfl)
  b_super := He.free_ok X G (c.d.fact 48 rfl)
  g_thing_groups := He.glo_ok X G (c.d.fact 49 rfl)
  g_thing_text := He.glo_ok X G (c.d.fact 50 rfl)
  b_tuple := He.free_ok X G (c.d.fact 51 rfl)
  g_written := He.glo_ok X G (c.d.fact 52 rfl)
  b_zip := He.free_ok X G (c.d.fact 53 rfl)
  g_law := He.glo_ok X G (c.d.fact 54 rfl)
  c_Reading := He.cls_ok (c.d.fact 55 rfl)
  a_Reading_at := He.noat_ok (c.d.fact 56 rfl)
  a_Reading_groups := He.noat_ok (c.d.fact 57 rfl)
  a_Reading_own := He.noat_ok (c.d.fact 58 rfl)
  m_Reading := He.mkr_ok (c.d.fact 59 rfl)
  m_Reading_now := He.meth_ok (c.d.fact 60 rfl)
  m_Reading_wrong := He.meth_ok (c.d.fact 61 rfl)
  m_Reading_begins := He.meth_ok (c.d.fact 62 rfl)
  m_Reading_taken := He.meth_ok (c.d.fact 63 rfl)
  m_Reading_took := He.meth_ok (c.d.fact 64 rfl)
  m_Reading_passes := He.meth_ok (c.d.fact 65 rfl)
  m_Reading_at_number := He.meth_ok (c.d.fact 66 rfl)
  m_Reading_at_name := He.meth_ok (c.d.fact 67 rfl)
  m_Reading_number := He.meth_ok (c.d.fact 68 rfl)
  m_Reading_name := He.meth_ok (c.d.fact 69 rfl)
  m_Reading_placed := He.meth_ok (c.d.fact 70 rfl)
  m_Reading_deeper := He.meth_ok (c.d.fact 71 rfl)
  m_Reading_at_end := He.meth_ok (c.d.fact 72 rfl)
  x_InvalidText_InvalidText := He.exm_ok (c.d.fact 73 rfl)
  x_InvalidText_InvalidThing := He.exm_ok (c.d.fact 74 rfl)
  x_InvalidText_InvalidSize := He.exm_ok (c.d.fact 75 rfl)
  x_InvalidThing_InvalidText := He.exm_ok (c.d.fact 76 rfl)
  x_InvalidThing_InvalidThing := He.exm_ok (c.d.fact 77 rfl)
  x_InvalidThing_InvalidSize := He.exm_ok (c.d.fact 78 rfl)
  x_InvalidSize_InvalidText := He.exm_ok (c.d.fact 79 rfl)
  x_InvalidSize_InvalidThing := He.exm_ok (c.d.fact 80 rfl)
  x_InvalidSize_InvalidSize := He.exm_ok (c.d.fact 81 rfl)
  f__wall := Ey.fnAs_of c.d 0 rfl
  f_end_of := Ey.fnAs_of c.d 1 rfl
  f_group_end := Ey.fnAs_of c.d 2 rfl
  f_cut_groups := Ey.fnAs_of c.d 3 rfl
  f_written := Ey.fnAs_of c.d 4 rfl
  f_is_long := Ey.fnAs_of c.d 5 rfl
  f_Reading___init__ := Ey.fnAs_of c.d 6 rfl
  f_Reading_now := Ey.fnAs_of c.d 7 rfl
  f_Reading_wrong := Ey.fnAs_of c.d 8 rfl
  f_Reading_begins := Ey.fnAs_of c.d 9 rfl
  f_Reading_taken := Ey.fnAs_of c.d 10 rfl
  f_Reading_took := Ey.fnAs_of c.d 11 rfl
  f_Reading_passes := Ey.fnAs_of c.d 12 rfl
  f_Reading_at_number := Ey.fnAs_of c.d 13 rfl
  f_Reading_at_name := Ey.fnAs_of c.d 14 rfl
  f_Reading_number := Ey.fnAs_of c.d 15 rfl
  f_Reading_name := Ey.fnAs_of c.d 16 rfl
  f_Reading_placed := Ey.fnAs_of c.d 17 rfl
  f_Reading_deeper := Ey.fnAs_of c.d 18 rfl
  f_Reading_at_end := Ey.fnAs_of c.d 19 rfl
  f_is_integer := Ey.fnAs_of c.d 20 rfl
  f_is_between := Ey.fnAs_of c.d 21 rfl
  f_is_thing_word := Ey.fnAs_of c.d 22 rfl
  f_is_thing_within := Ey.fnAs_of c.d 23 rfl
  f_is_thing := Ey.fnAs_of c.d 24 rfl
  f_thing_groups := Ey.fnAs_of c.d 25 rfl
  f_thing_text := Ey.fnAs_of c.d 26 rfl
  f_read_part := Ey.fnAs_of c.d 27 rfl
  f_read_thing := Ey.fnAs_of c.d 28 rfl
  f__law_box := Ey.fnAs_of c.d 29 rfl
  f__law_take := Ey.fnAs_of c.d 30 rfl
  f__law_pick := Ey.fnAs_of c.d 31 rfl
  f__law_is := Ey.fnAs_of c.d 32 rfl
  f__law_answer := Ey.fnAs_of c.d 33 rfl
  f__law_error := Ey.fnAs_of c.d 34 rfl
  f__law_thing := Ey.fnAs_of c.d 35 rfl
  f__law_groups := Ey.fnAs_of c.d 36 rfl
  f__law_shown := Ey.fnAs_of c.d 37 rfl
  f__law_wrong := Ey.fnAs_of c.d 38 rfl
  f__law_part := Ey.fnAs_of c.d 39 rfl
  f__law_read := Ey.fnAs_of c.d 40 rfl
  f_law := Ey.fnAs_of c.d 41 rfl
  e_InvalidText := Ey.eFacts (c.e _ (by simp [es])).1 (c.e _ (by simp [es])).2 hs hS
  e_InvalidThing := Ey.eFacts (c.e _ (by simp [es])).1 (c.e _ (by simp [es])).2 hs hS
  e_InvalidSize := Ey.eFacts (c.e _ (by simp [es])).1 (c.e _ (by simp [es])).2 hs hS
theorem bn__wall {K : PySem.W.Frag} (F : Ey.FnAs K d__wall) : Binds K (Ey.fdAt K d__wall) ["k"] [] := (Ey.FnAs.d F).bindsN fun _ _ _ _ _ _ us hl => match us, hl with | [_], _ => rfl
theorem bn_end_of {K : PySem.W.Frag} (F : Ey.FnAs K d_end_of) : Binds K (Ey.fdAt K d_end_of) ["text", "at", "signs"] [] := (Ey.FnAs.d F).bindsN fun _ _ _ _ _ _ us hl => match us, hl with | [_, _, _], _ => rfl
theorem bn_group_end {K : PySem.W.Frag} (F : Ey.FnAs K d_group_end) : Binds K (Ey.fdAt K d_group_end) ["text", "at"] [] := (Ey.FnAs.d F).bindsN fun _ _ _ _ _ _ us hl => match us, hl with | [_, _], _ => rfl
theorem bn_cut_groups {K : PySem.W.Frag} (F : Ey.FnAs K d_cut_groups) : Binds K (Ey.fdAt K d_cut_groups) ["text"] [] := (Ey.FnAs.d F).bindsN fun _ _ _ _ _ _ us hl => match us, hl with | [_], _ => rfl
theorem bn_written {K : PySem.W.Frag} (F : Ey.FnAs K d_written) : Binds K (Ey.fdAt K d_written) ["found"] [] := (Ey.FnAs.d F).bindsN fun _ _ _ _ _ _ us hl => match us, hl with | [_], _ => rfl
theorem bn_is_long {K : PySem.W.Frag} (F : Ey.FnAs K d_is_long) : Binds K (Ey.fdAt K d_is_long) ["group"] [] := (Ey.FnAs.d F).bindsN fun _ _ _ _ _ _ us hl => match us, hl with | [_], _ => rfl
theorem bn_Reading___init__ {K : PySem.W.Frag} (F : Ey.FnAs K d_Reading___init__) : Binds K (Ey.fdAt K d_Reading___init__) ["self", "text", "own"] [] := (Ey.FnAs.d F).bindsN fun _ _ _ _ _ _ us hl => match us, hl with | [_, _, _], _ => rfl
theorem bn_Reading_now {K : PySem.W.Frag} (F : Ey.FnAs K d_Reading_now) : Binds K (Ey.fdAt K d_Reading_now) ["self"] [] := (Ey.FnAs.d F).bindsN fun _ _ _ _ _ _ us hl => match us, hl with | [_], _ => rfl
theorem bn_Reading_begins {K : PySem.W.Frag} (F : Ey.FnAs K d_Reading_begins) : Binds K (Ey.fdAt K d_Reading_begins) ["self", "words"] [] := (Ey.FnAs.d F).bindsN fun _ _ _ _ _ _ us hl => match us, hl with | [_, _], _ => rfl
theorem bn_Reading_taken {K : PySem.W.Frag} (F : Ey.FnAs K d_Reading_taken) : Binds K (Ey.fdAt K d_Reading_taken) ["self"] [] := (Ey.FnAs.d F).bindsN fun _ _ _ _ _ _ us hl => match us, hl with | [_], _ => rfl
theorem bn_Reading_took {K : PySem.W.Frag} (F : Ey.FnAs K d_Reading_took) : Binds K (Ey.fdAt K d_Reading_took) ["self", "words"] [] := (Ey.FnAs.d F).bindsN fun _ _ _ _ _ _ us hl => match us, hl with | [_, _], _ => rfl
theorem bn_Reading_passes {K : PySem.W.Frag} (F : Ey.FnAs K d_Reading_passes) : Binds K (Ey.fdAt K d_Reading_passes) ["self", "words"] [] := (Ey.FnAs.d F).bindsN fun _ _ _ _ _ _ us hl => match us, hl with | [_, _], _ => rfl
theorem bn_Reading_at_number {K : PySem.W.Frag} (F : Ey.FnAs K d_Reading_at_number) : Binds K (Ey.fdAt K d_Reading_at_number) ["self"] [] := (Ey.FnAs.d F).bindsN fun _ _ _ _ _ _ us hl => match us, hl with | [_], _ => rfl
theorem bn_Reading_at_name {K : PySem.W.Frag} (F : Ey.FnAs K d_Reading_at_name) : Binds K (Ey.fdAt K d_Reading_at_name) ["self"] [] := (Ey.FnAs.d F).bindsN fun _ _ _ _ _ _ us hl => match us, hl with | [_], _ => rfl
theorem bn_Reading_number {K : PySem.W.Frag} (F : Ey.FnAs K d_Reading_number) : Binds K (Ey.fdAt K d_Reading_number) ["self"] [] := (Ey.FnAs.d F).bindsN fun _ _ _ _ _ _ us hl => match us, hl with | [_], _ => rfl
theorem bn_Reading_name {K : PySem.W.Frag} (F : Ey.FnAs K d_Reading_name) : Binds K (Ey.fdAt K d_Reading_name) ["self"] [] := (Ey.FnAs.d F).bindsN fun _ _ _ _ _ _ us hl => match us, hl with | [_], _ => rfl
theorem bn_Reading_placed {K : PySem.W.Frag} (F : Ey.FnAs K d_Reading_placed) : Binds K (Ey.fdAt K d_Reading_placed) ["self"] [] := (Ey.FnAs.d F).bindsN fun _ _ _ _ _ _ us hl => match us, hl with | [_], _ => rfl
theorem bn_Reading_deeper {K : PySem.W.Frag} (F : Ey.FnAs K d_Reading_deeper) : Binds K (Ey.fdAt K d_Reading_deeper) ["self", "deep"] [] := (Ey.FnAs.d F).bindsN fun _ _ _ _ _ _ us hl => match us, hl with | [_, _], _ => rfl
theorem bn_Reading_at_end {K : PySem.W.Frag} (F : Ey.FnAs K d_Reading_at_end) : Binds K (Ey.fdAt K d_Reading_at_end) ["self"] [] := (Ey.FnAs.d F).bindsN fun _ _ _ _ _ _ us hl => match us, hl with | [_], _ => rfl
theorem bn_is_integer {K : PySem.W.Frag} (F : Ey.FnAs K d_is_integer) : Binds K (Ey.fdAt K d_is_integer) ["value"] [] := (Ey.FnAs.d F).bindsN fun _ _ _ _ _ _ us hl => match us, hl with | [_], _ => rfl
theorem bn_is_between {K : PySem.W.Frag} (F : Ey.FnAs K d_is_between) : Binds K (Ey.fdAt K d_is_between) ["value", "least", "most"] [] := (Ey.FnAs.d F).bindsN fun _ _ _ _ _ _ us hl => match us, hl with | [_, _, _], _ => rfl
theorem bn_is_thing_word {K : PySem.W.Frag} (F : Ey.FnAs K d_is_thing_word) : Binds K (Ey.fdAt K d_is_thing_word) ["value"] [] := (Ey.FnAs.d F).bindsN fun _ _ _ _ _ _ us hl => match us, hl with | [_], _ => rfl
theorem bn_is_thing_within {K : PySem.W.Frag} (F : Ey.FnAs K d_is_thing_within) : Binds K (Ey.fdAt K d_is_thing_within) ["value", "deep"] [] := (Ey.FnAs.d F).bindsN fun _ _ _ _ _ _ us hl => match us, hl with | [_, _], _ => rfl
theorem bn_is_thing {K : PySem.W.Frag} (F : Ey.FnAs K d_is_thing) : Binds K (Ey.fdAt K d_is_thing) ["value"] [] := (Ey.FnAs.d F).bindsN fun _ _ _ _ _ _ us hl => match us, hl with | [_], _ => rfl
theorem bn_thing_groups {K : PySem.W.Frag} (F : Ey.FnAs K d_thing_groups) : Binds K (Ey.fdAt K d_thing_groups) ["value"] [] := (Ey.FnAs.d F).bindsN fun _ _ _ _ _ _ us hl => match us, hl with | [_], _ => rfl
theorem bn_thing_text {K : PySem.W.Frag} (F : Ey.FnAs K d_thing_text) : Binds K (Ey.fdAt K d_thing_text) ["value"] [] := (Ey.FnAs.d F).bindsN fun _ _ _ _ _ _ us hl => match us, hl with | [_], _ => rfl
theorem bn_read_part {K : PySem.W.Frag} (F : Ey.FnAs K d_read_part) : Binds K (Ey.fdAt K d_read_part) ["reading", "deep"] [] := (Ey.FnAs.d F).bindsN fun _ _ _ _ _ _ us hl => match us, hl with | [_, _], _ => rfl
theorem bn_read_thing {K : PySem.W.Frag} (F : Ey.FnAs K d_read_thing) : Binds K (Ey.fdAt K d_read_thing) ["text"] [] := (Ey.FnAs.d F).bindsN fun _ _ _ _ _ _ us hl => match us, hl with | [_], _ => rfl
theorem bn__law_box {K : PySem.W.Frag} (F : Ey.FnAs K d__law_box) : Binds K (Ey.fdAt K d__law_box) ["script"] [] := (Ey.FnAs.d F).bindsN fun _ _ _ _ _ _ us hl => match us, hl with | [_], _ => rfl
theorem bn__law_take {K : PySem.W.Frag} (F : Ey.FnAs K d__law_take) : Binds K (Ey.fdAt K d__law_take) ["box", "many"] [] := (Ey.FnAs.d F).bindsN fun _ _ _ _ _ _ us hl => match us, hl with | [_, _], _ => rfl
theorem bn__law_pick {K : PySem.W.Frag} (F : Ey.FnAs K d__law_pick) : Binds K (Ey.fdAt K d__law_pick) ["box", "some"] [] := (Ey.FnAs.d F).bindsN fun _ _ _ _ _ _ us hl => match us, hl with | [_, _], _ => rfl
theorem bn__law_is {K : PySem.W.Frag} (F : Ey.FnAs K d__law_is) : Binds K (Ey.fdAt K d__law_is) ["told", "due"] [] := (Ey.FnAs.d F).bindsN fun _ _ _ _ _ _ us hl => match us, hl with | [_, _], _ => rfl
theorem bn__law_answer {K : PySem.W.Frag} (F : Ey.FnAs K d__law_answer) : Binds K (Ey.fdAt K d__law_answer) ["call"] [] := (Ey.FnAs.d F).bindsN fun _ _ _ _ _ _ us hl => match us, hl with | [_], _ => rfl
theorem bn__law_error {K : PySem.W.Frag} (F : Ey.FnAs K d__law_error) : Binds K (Ey.fdAt K d__law_error) ["call"] [] := (Ey.FnAs.d F).bindsN fun _ _ _ _ _ _ us hl => match us, hl with | [_], _ => rfl
theorem bn__law_thing {K : PySem.W.Frag} (F : Ey.FnAs K d__law_thing) : Binds K (Ey.fdAt K d__law_thing) ["box", "deep"] [] := (Ey.FnAs.d F).bindsN fun _ _ _ _ _ _ us hl => match us, hl with | [_, _], _ => rfl
theorem bn__law_groups {K : PySem.W.Frag} (F : Ey.FnAs K d__law_groups) : Binds K (Ey.fdAt K d__law_groups) ["value"] [] := (Ey.FnAs.d F).bindsN fun _ _ _ _ _ _ us hl => match us, hl with | [_], _ => rfl
theorem bn__law_shown {K : PySem.W.Frag} (F : Ey.FnAs K d__law_shown) : Binds K (Ey.fdAt K d__law_shown) ["value"] [] := (Ey.FnAs.d F).bindsN fun _ _ _ _ _ _ us hl => match us, hl with | [_], _ => rfl
theorem bn__law_wrong {K : PySem.W.Frag} (F : Ey.FnAs K d__law_wrong) : Binds K (Ey.fdAt K d__law_wrong) ["groups", "at", "why"] [] := (Ey.FnAs.d F).bindsN fun _ _ _ _ _ _ us hl => match us, hl with | [_, _, _], _ => rfl
theorem bn__law_part {K : PySem.W.Frag} (F : Ey.FnAs K d__law_part) : Binds K (Ey.fdAt K d__law_part) ["groups", "at", "deep"] [] := (Ey.FnAs.d F).bindsN fun _ _ _ _ _ _ us hl => match us, hl with | [_, _, _], _ => rfl
theorem bn__law_read {K : PySem.W.Frag} (F : Ey.FnAs K d__law_read) : Binds K (Ey.fdAt K d__law_read) ["groups"] [] := (Ey.FnAs.d F).bindsN fun _ _ _ _ _ _ us hl => match us, hl with | [_], _ => rfl
theorem bn_law {K : PySem.W.Frag} (F : Ey.FnAs K d_law) : Binds K (Ey.fdAt K d_law) ["script"] [] := (Ey.FnAs.d F).bindsN fun _ _ _ _ _ _ us hl => match us, hl with | [_], _ => rfl
end K85

set_option Elab.async false
set_option linter.all false
set_option maxRecDepth 100000
set_option maxHeartbeats 0
namespace Ey
open PySem PySem.Spec PyProof.Rows L2
/-- C(..) makes an error with the fields fs, over any ground -/
abbrev EM (P : Program) (w : World) (K : PySem.W.Frag) (mg : Str → Option Value) (C : Addr) (fs : List Str) : Prop := ∀ base, L2.Mod K mg base → EMade P w base C fs
theorem ps_raiseM {X : Cx} {C : Addr} {fs : List Str} {x : Str} {a : Expr} {as : List Expr} {ta : TA} {W : WX} {p pos pos2 : Pos} {k : Nat} (hc : X.calm = true) (M : EM X.prog X.w X.K X.mg C fs) (hm : X.mg x = some (.ref C))
    (hK : PySem.W.keepIn X.K (.ref C) = true) (h1 : PySem.W.subIn X.K (.ref C) (.type "BaseException") = some true) (h2 : PySem.W.typeIn X.K (.ref C) = some (.type "type")) (hr : Room k X.A) (hk : 1 ≤ k) (tk : Takes X W)
    (ha : PA X (a :: as) ta) (hg : Gl X x := by rfl) (hdb : (x == ("__debug__" : Str)) = false := by decide)
    (he : starEach (a :: as) X.env = (false, eval a X.env) :: starEach as X.env := by rfl) (hpl : (backTo pos (starEach as X.env)).any (·.1) = false := by rfl) :
    PS X (.Raise (some (.Call (.Name x p) (a :: as) [] pos)) none pos2) (fun _ σ H => tMkE C fs ta σ H fun cls d H' => W cls d σ H') :=
  ⟨fun pins s σ H D I h => (ps_raiseE hc (M _ I.mod) hm hK (raises_own h1 h2) hr hk tk ha hg hdb he hpl).run pins s σ H D I h⟩
end Ey
namespace K85
open PySem PySem.Spec PyProof.Rows L2 Ey
theorem is1 (e : EDef) (h : (decide (e.scope.kind = .function) && (!e.scope.isCoroutine && (!e.scope.isGenerator && (e.scope.names.all (fun x => !decide (x.2 = .cell)) && (decide (e.scope.names.lookup ("super" : Str) = some .globalImplicit) && (decide (e.scope.names.lookup ("__class__" : Str) = some .free) && decide (e.scope.names.lookup ("self" : Str) = some .local))))))) = true) : IScope e.scope := by
  obtain ⟨a1, h⟩ := He.ba h
  obtain ⟨a2, h⟩ := He.ba h
  obtain ⟨a3, h⟩ := He.ba h
  obtain ⟨a4, h⟩ := He.ba h
  obtain ⟨a5, h⟩ := He.ba h
  obtain ⟨a6, a7⟩ := He.ba h
  refine ⟨of_decide_eq_true a1, by simpa using a2, by simpa using a3, fun x hx => ?_, of_decide_eq_true a5, of_decide_eq_true a6, of_decide_eq_true a7⟩
  have z := List.all_eq_true.mp a4 x hx
  simpa using z
variable {P : Program} {w : World} {K : PySem.W.Frag} {mg : Str → Option Value}
theorem em_InvalidText (t : T P K mg) : EM P w K mg (He.ga K "InvalidText") ["at", "why"] := fun base M => by
  refine made_of t.e_InvalidText.cls M fun A s x t0 us R hl kb hx hxK hroom hq => ?_
  match us, hl with
  | [v, v'], _ =>
    exact init2 (f := "at") (f' := "why") t.e_InvalidText.cls (is1 e_InvalidText (by decide +kernel)) (by simp [e_InvalidText]) (by decide +kernel) (by decide) (by decide) (by simp [e_InvalidText]) (by decide +kernel) (by decide) (by decide) (by decide)
      (fun L => rfl) (fun L => rfl) (fun L => rfl) (fun s kV doc pm an ct => .of_eq rfl) M kb hx hxK hroom fun h' tk dx I => hq h' tk dx _ I fun y => lookup2 (by decide) y
end K85

set_option Elab.async false
set_option linter.all false
set_option maxRecDepth 100000
set_option maxHeartbeats 2000000
namespace K85
open PySem PySem.Spec PyProof.Rows L2 LamX Ey
variable {P : Program} {w : World} {K : PySem.W.Frag} {mg : Str → Option Value} {base : Heap}
def LET : G := cp "abcdefghijklmnopqrstuvwxyz"
def FIG : G := cp "0123456789"
def SIG : G := cp ":,()-"
def BLK : G := cp " \n"
def inB (g : G) (c : Nat) : Bool := decide (c ∈ g)
def endOf (t : G) (a : Nat) (g : G) : Nat := a + ((t.drop a).takeWhile (inB g)).length
theorem drop_at {α : Type} {t : List α} {a : Nat} {c : α} (h : t[a]? = some c) : t.drop a = c :: t.drop (a + 1) := by
  obtain ⟨hl, e⟩ := List.getElem?_eq_some_iff.mp h
  rw [List.drop_eq_getElem_cons hl, e]
theorem endOf_stop {t : G} {a : Nat} {g : G} (h : ∀ c, t[a]? = some c → inB g c = false) : endOf t a g = a := by
  unfold endOf
  cases e : t[a]? with
  | none =>
    have z : t.length ≤ a := by simpa using e
    rw [List.drop_eq_nil_of_le z]
    rfl
  | some c =>
    rw [drop_at e, List.takeWhile_cons, if_neg (by rw [h c e]; simp)]
    rfl
theorem endOf_step {t : G} {a : Nat} {g : G} {c : Nat} (h : t[a]? = some c) (hc : inB g c = true) : endOf t (a + 1) g = endOf t a g := by
  unfold endOf
  rw [drop_at h, List.takeWhile_cons, if_pos hc, List.length_cons]
  omega
def sp_end_of : Sp := fun vs H Q _ => ∃ (t g : G) (a : Nat), vs = [vS t, .int a, vS g] ∧ t.length ≤ sizeLine ∧ Q (.int (endOf t a g)) H
theorem S_at (t : G) (i : Nat) : (S t).cps.toList[i]? = t[i]? := by rw [S_cps]
theorem ok_end_of (T : T P K mg) : FnOk P w K mg base C8.CX0 1 (He.ga K "end_of") (fdAt K d_end_of) ["text", "at", "signs"] sp_end_of := by
  refine FunD.ok T.f_end_of sc_end_of (fun vs H Q E h => ?_) (fun cdv A outer s H vs Q E hr h => ⟨_, PSs.nox (pss_cons
(ps_while PassesOwn.never (PW.pt (pw_and (pt_cmpR op_lt (pv 1) (pe_callB call_len_str (by rfl) T.b_len (by decide +kernel) (pa_cons (pv 0) pa_nil)) (nomark _)) (pw_and1 (pt_cmpR op_in_sign (pe_ix ix_str (pv 0) (pv 1) (fun _ _ => rfl)) (pv 2) (by rfl))))) (pss_one
(ps_aug (i := 1) sc_end_of.nd rfl (.inl rfl) pe_int ip_add)))
(pss_one
(ps_ret (pv 1)))), ?_⟩)
  · obtain ⟨t, g, a, rfl, _⟩ := h
    rfl
  · obtain ⟨t, g, a, rfl, hl, hQ⟩ := h
    refine ⟨fun m σ H' => H' = H ∧ ∃ i : Nat, m = t.length - i ∧ σ = [some (vS t), some (.int i), some (vS g)] ∧ endOf t i g = endOf t a g, ⟨_, rfl, a, rfl, rfl, rfl⟩, ?_⟩
    rintro m σ H' ⟨eH, i, rfl, rfl, e⟩
    subst eH
    refine ⟨_, rfl, _, rfl, _, rfl, by rw [S_len]; exact hl, _, _, rfl, rfl, _, rfl, ?_⟩
    have stop : (∀ c, t[i]? = some c → inB g c = false) → Q (.int i) H' := fun z => by
      rw [← e, endOf_stop z] at hQ
      exact hQ
    refine if_b (fun c1 => ?_) fun c1 => ?_
    · have c1 := of_decide_eq_true c1
      rw [S_len] at c1
      obtain ⟨c, hc⟩ : ∃ c, t[i]? = some c := ⟨_, List.getElem?_eq_getElem (by omega)⟩
      refine ⟨_, rfl, _, rfl, _, _, c, rfl, rfl, by rw [S_len]; exact hl, by rw [S_cps]; exact atI_nat hc, _, rfl, c, _, rfl, rfl, _, rfl, ?_⟩
      rw [S_cps]
      refine if_b (fun c2 => ?_) fun c2 => ?_
      · refine ⟨_, fun σ' H'' q => q, _, rfl, _, _, rfl, rfl, _, ?_, rfl, i + 1, rfl, rfl, ?_⟩
        · omega
        · rw [endOf_step hc c2]
          exact e
      · exact ⟨_, rfl, stop fun c' h' => by rw [hc] at h'; cases h'; exact c2⟩
    · have c1 := of_decide_eq_false c1
      rw [S_len] at c1
      exact ⟨_, rfl, stop fun c' h' => absurd (List.getElem?_eq_some_iff.mp h').1 (by omega)⟩

/-! ### group_end -/
def grEnd (t : G) (a : Nat) : Nat := match t[a]? with
  | some c => if inB LET c then endOf t a LET else if inB FIG c then endOf t a FIG else a + 1
  | none => a + 1
def sp_group_end : Sp := fun vs H Q _ => ∃ (t : G) (a : Nat), vs = [vS t, .int a] ∧ t.length ≤ sizeLine ∧ a < t.length ∧ Q (.int (grEnd t a)) H
theorem lit_LET : (Str.ofString "abcdefghijklmnopqrstuvwxyz") = S LET := of_cp _
theorem lit_FIG : (Str.ofString "0123456789") = S FIG := of_cp _
theorem lit_SIG : (Str.ofString ":,()-") = S SIG := of_cp _
theorem lit_BLK : (Str.ofString " \n") = S BLK := of_cp _
theorem ok_group_end (T : T P K mg) : FnOk P w K mg base C8.CX0 2 (He.ga K "group_end") (fdAt K d_group_end) ["text", "at"] sp_group_end := by
  refine FunD.ok T.f_group_end sc_group_end (fun vs H Q E h => ?_) (fun cdv A outer s H vs Q E hr h => ⟨_, PSs.nox (pss_cons
(ps_if (pt_cmpR op_in_sign (pe_ix ix_str (pv 0) (pv 1) (fun _ _ => rfl)) (pk_str T.k_LETTERS) (by rfl)) (pss_one
(ps_ret (pe_call (ok_end_of T) (hr.mono (by first | decide | omega | (simp only [Nat.add_eq]; omega))) rfl T.g_end_of T.f_end_of.kp (bn_end_of T.f_end_of) .nil (C8.pass0 (E := C8.E0)) (pa_cons (pv 0) (pa_cons (pv 1) (pa_cons (pk_str T.k_LETTERS) pa_nil)))))) pss_nil)
(pss_one
(ps_ret (pe_ifExp (pt_cmpR op_in_sign (pe_ix ix_str (pv 0) (pv 1) (fun _ _ => rfl)) (pk_str T.k_FIGURES) (by rfl)) (pe_call (ok_end_of T) (hr.mono (by first | decide | omega | (simp only [Nat.add_eq]; omega))) rfl T.g_end_of T.f_end_of.kp (bn_end_of T.f_end_of) .nil (C8.pass0 (E := C8.E0)) (pa_cons (pv 0) (pa_cons (pv 1) (pa_cons (pk_str T.k_FIGURES) pa_nil)))) (pe_op op_add (pv 1) pe_int))))), ?_⟩)
  · obtain ⟨t, a, rfl, _⟩ := h
    rfl
  · obtain ⟨t, a, rfl, hl, ha, hQ⟩ := h
    have hc : t[a]? = some t[a] := List.getElem?_eq_getElem ha
    unfold grEnd at hQ
    rw [hc] at hQ
    have hl' : (S t).length ≤ sizeLine := by rw [S_len]; exact hl
    have hx : atI (S t).cps.toList ((a : Nat) : Int) = some t[a] := by rw [S_cps]; exact atI_nat hc
    refine ⟨_, rfl, _, rfl, _, _, _, rfl, rfl, hl', hx, _, _, rfl, rfl, _, rfl, ?_⟩
    rw [lit_LET, S_cps]
    refine if_b (fun c1 => ?_) fun c1 => ?_
    · refine ⟨_, rfl, _, rfl, t, LET, a, rfl, hl, ?_⟩
      have c1 : inB LET t[a] = true := c1
      dsimp only at hQ
      rw [if_pos c1] at hQ
      exact hQ
    · have c1 : inB LET t[a] = false := c1
      refine ⟨_, rfl, _, rfl, _, _, _, rfl, rfl, hl', hx, _, _, rfl, rfl, _, rfl, ?_⟩
      rw [lit_FIG, S_cps]
      dsimp only at hQ
      rw [if_neg (by rw [c1]; simp)] at hQ
      refine if_b (fun c2 => ?_) fun c2 => ?_
      · have c2 : inB FIG t[a] = true := c2
        rw [if_pos c2] at hQ
        exact ⟨_, rfl, _, rfl, t, FIG, a, rfl, hl, hQ⟩
      · have c2 : inB FIG t[a] = false := c2
        rw [if_neg (by rw [c2]; simp)] at hQ
        exact ⟨_, rfl, _, _, rfl, rfl, hQ⟩
end K85

set_option Elab.async false
set_option linter.all false
set_option maxRecDepth 100000
set_option maxHeartbeats 2000000
namespace K85
open PySem PySem.Spec PyProof.Rows L2 LamX Ey
variable {P : Program} {w : World} {K : PySem.W.Frag} {mg : Str → Option Value} {base : Heap}
/-- an InvalidText(a, y) that leaves a heap of which R holds -/
def ET (K : PySem.W.Frag) (E : XK) (R : Hp → Prop) (a y : Int) : Prop := ∀ H' dd, R H' → H' dd = some (.xd [("at", .int a), ("why", .int y)]) → E (.ref (He.ga K "InvalidText")) (some dd) H'
theorem ET.at_ {K : PySem.W.Frag} {E : XK} {H0 H : Hp} {a y : Int} (h : ET K E (Same H0) a y) (e : Same H0 H) : ∀ d, H d = none → E (.ref (He.ga K "InvalidText")) (some d) (upd H d (.xd ([("at" : Str), "why"].zip [.int a, .int y]))) :=
  fun d hd => h _ d (e.trans (upd_ext hd)) upd_same
theorem Same.over {H H1 H2 : Hp} {l : Addr} {o : HO} (e1 : Same H H1) (nl : H1 l = none) (e2 : Same H H2) : Same H (upd H2 l o) := fun b u hb => by
  have n : b ≠ l := fun z => by
    have q := e1 b u hb
    rw [z, nl] at q
    cases q
  rw [upd_ne n]
  exact e2 b u hb
/-! ### cut_groups -/
def okC (c : Nat) : Bool := inB LET c || inB FIG c || inB SIG c || inB BLK c
def badFrom : Nat → G → Option Nat
  | _, [] => none
  | i, c :: r => if okC c then badFrom (i + 1) r else some i
def toks : G → List G
  | [] => []
  | c :: r => if inB BLK c then toks r else if inB LET c then (c :: r.takeWhile (inB LET)) :: toks (r.dropWhile (inB LET)) else if inB FIG c then (c :: r.takeWhile (inB FIG)) :: toks (r.dropWhile (inB FIG)) else [c] :: toks r
termination_by l => l.length
decreasing_by
  · simp
  · simp only [List.length_cons]
    have := (List.dropWhile_suffix (l := r) (inB LET)).length_le
    omega
  · simp only [List.length_cons]
    have := (List.dropWhile_suffix (l := r) (inB FIG)).length_le
    omega
  · simp
theorem toks_nil : toks [] = [] := by rw [toks]
theorem toks_cons (c : Nat) (r : G) : toks (c :: r) = if inB BLK c then toks r else if inB LET c then (c :: r.takeWhile (inB LET)) :: toks (r.dropWhile (inB LET)) else if inB FIG c then (c :: r.takeWhile (inB FIG)) :: toks (r.dropWhile (inB FIG)) else [c] :: toks r := by
  rw [toks]
def CutW (K : PySem.W.Frag) (H : Hp) (Q : VK) (E : XK) (d : PyData) : Prop :=
  match d with
  | .str s => if s.length > 60000 then ET K E (Same H) (-1) 0 else
      match badFrom 0 s.cps.toList with
      | some i => ET K E (Same H) i 1
      | none => if (toks s.cps.toList).length > 4000 then ET K E (Same H) (-1) 2 else ∀ H' p, Same H H' → H' p = some (.tup ((toks s.cps.toList).map vS)) → Q (.ref p) H'
  | _ => ET K E (Same H) (-1) 0
def sp_cut_groups (K : PySem.W.Frag) : Sp := fun vs H Q E => ∃ x d, vs = [x] ∧ Dp K H x d ∧ (∀ s, d = .str s → s.length ≤ sizeLine) ∧ CutW K H Q E d
theorem drop_end (t : G) (a : Nat) (g : G) : t.drop (endOf t a g) = (t.drop a).dropWhile (inB g) := by
  have z : t.drop a = (t.drop a).takeWhile (inB g) ++ (t.drop a).dropWhile (inB g) := (List.takeWhile_append_dropWhile ..).symm
  unfold endOf
  rw [← List.drop_drop]
  generalize t.drop a = l at *
  generalize List.takeWhile (inB g) l = u at *
  conv => lhs; rw [z]
  rw [List.drop_left]
theorem cut_end (t : G) (a : Nat) (g : G) : (t.drop a).take (endOf t a g - a) = (t.drop a).takeWhile (inB g) := by
  have z : t.drop a = (t.drop a).takeWhile (inB g) ++ (t.drop a).dropWhile (inB g) := (List.takeWhile_append_dropWhile ..).symm
  have e : endOf t a g - a = ((t.drop a).takeWhile (inB g)).length := by
    unfold endOf
    omega
  rw [e]
  generalize t.drop a = l at *
  generalize List.takeWhile (inB g) l = u at *
  conv => lhs; rw [z]
  rw [List.take_left]
theorem toks_step {t : G} {a : Nat} {c : Nat} (h : t[a]? = some c) (hb : inB BLK c = false) : toks (t.drop a) = (t.drop a).take (grEnd t a - a) :: toks (t.drop (grEnd t a)) := by
  have z := drop_at h
  unfold grEnd
  rw [h]
  dsimp only
  cases c1 : inB LET c with
  | true =>
    rw [if_pos rfl, cut_end, drop_end, z, toks_cons, if_neg (by rw [hb]; simp), if_pos c1, List.takeWhile_cons, if_pos c1, List.dropWhile_cons, if_pos c1]
  | false =>
    rw [if_neg (by simp)]
    cases c2 : inB FIG c with
    | true =>
      rw [if_pos rfl, cut_end, drop_end, z, toks_cons, if_neg (by rw [hb]; simp), if_neg (by rw [c1]; simp), if_pos c2, List.takeWhile_cons, if_pos c2, List.dropWhile_cons, if_pos c2]
    | false =>
      rw [if_neg (by simp), z, toks_cons, if_neg (by rw [hb]; simp), if_neg (by rw [c1]; simp), if_neg (by rw [c2]; simp)]
      have e : a + 1 - a = 1 := by omega
      rw [e]
      rfl
theorem grEnd_gt {t : G} {a : Nat} (h : a < t.length) : a < grEnd t a ∧ grEnd t a ≤ t.length := by
  have hc : t[a]? = some t[a] := List.getElem?_eq_getElem h
  have key : ∀ g, inB g t[a] = true → a < endOf t a g ∧ endOf t a g ≤ t.length := fun g hg => by
    unfold endOf
    have e1 : ((t.drop a).takeWhile (inB g)).length ≤ (t.drop a).length := (List.takeWhile_prefix (l := t.drop a) (inB g)).length_le
    rw [List.length_drop] at e1
    have e2 : 0 < ((t.drop a).takeWhile (inB g)).length := by
      rw [drop_at hc, List.takeWhile_cons, if_pos hg]
      simp
    omega
  unfold grEnd
  rw [hc]
  dsimp only
  split
  · exact key _ ‹_›
  · split
    · exact key _ ‹_›
    · omega
theorem cutS_nat (t : G) {i e : Nat} (h1 : i ≤ e) (h2 : e ≤ t.length) : cutS (S t) (some (i : Int)) (some (e : Int)) = S ((t.drop i).take (e - i)) := by
  unfold cutS
  rw [HT.sIx_nat, HT.sIx_nat, S_len, S_cps, Nat.min_eq_left h2, Nat.min_eq_left (Nat.le_trans h1 h2)]
  rfl
theorem ok_cut_groups (T : T P K mg) : FnOk P w K mg base (L2.CX P w) 4 (He.ga K "cut_groups") (fdAt K d_cut_groups) ["text"] (sp_cut_groups K) := by
  refine FunD.ok T.f_cut_groups sc_cut_groups (fun vs H Q E h => ?_) (fun cdv A outer s H vs Q E hr h => ⟨_, (pss_cons
(ps_if (PW.pt (pw_or (pt_not (pt_val (pe_callB call_isD (by rfl) T.b_isinstance (by decide +kernel) (pa_cons (pv 0) (pa_cons (pe_bltn (v := .ty "str") (by rfl) T.b_str (by decide +kernel) rfl) pa_nil))))) (pw_or1 (pt_cmpR op_gt (pe_callB call_len_str (by rfl) T.b_len (by decide +kernel) (pa_cons (pv 0) pa_nil)) (pk_int T.k_MOST_TEXT) (nomark _))))) (pss_one
(ps_raiseM rfl (em_InvalidText T) T.g_InvalidText T.e_InvalidText.cls.kC T.e_InvalidText.cls.exC T.e_InvalidText.cls.tyC hr (by decide) rT (pa_cons (pe_un un_neg pe_int) (pa_cons pe_int pa_nil)))) pss_nil)
(pss_cons
(ps_for (passes_of rfl) rfl (Ey.pi_enumS (by rfl) T.b_enumerate (pa_cons (pv 0) pa_nil)) (pg_tup rfl (pgs_cons (pg_name (i := 1) sc_cut_groups.nd rfl (.inl rfl)) (pgs_cons (pg_name (i := 2) sc_cut_groups.nd rfl (.inl rfl)) pgs_nil))) (pss_one
(ps_if (PW.pt (pw_and (pt_cmpR op_notIn_sign (pv 2) (pk_str T.k_LETTERS) (by rfl)) (pw_and (pt_cmpR op_notIn_sign (pv 2) (pk_str T.k_FIGURES) (by rfl)) (pw_and (pt_cmpR op_notIn_sign (pv 2) (pk_str T.k_SIGNS) (by rfl)) (pw_and1 (pt_cmpR op_notIn_sign (pv 2) pe_str (by rfl))))))) (pss_one
(ps_raiseM rfl (em_InvalidText T) T.g_InvalidText T.e_InvalidText.cls.kC T.e_InvalidText.cls.exC T.e_InvalidText.cls.tyC hr (by decide) rT (pa_cons (pv 1) (pa_cons pe_int pa_nil)))) pss_nil)))
(pss_cons
(ps_par (i := 3) (j := 1) (by rfl) sc_cut_groups.nd rfl rfl (by decide) rfl rfl (pa_cons (pe_lst pa_nil) (pa_cons pe_int pa_nil)) (by rfl))
(pss_cons
(ps_while (passes_of rfl) (pt_cmpR op_lt (pv 1) (pe_callB call_len_str (by rfl) T.b_len (by decide +kernel) (pa_cons (pv 0) pa_nil)) (nomark _)) (pss_cons
(ps_set (i := 4) sc_cut_groups.nd rfl (.inl rfl) (pe_op op_add (pv 1) pe_int))
(pss_cons
(ps_if (pt_cmpR op_notIn_sign (pe_ix ix_str (pv 0) (pv 1) (fun _ _ => rfl)) pe_str (by rfl)) (pss_cons
(ps_set (i := 4) sc_cut_groups.nd rfl (.inl rfl) (pe_call (ok_group_end T) (hr.mono (by first | decide | omega | (simp only [Nat.add_eq]; omega))) rfl T.g_group_end T.f_group_end.kp (bn_group_end T.f_group_end) .nil (C8.pass0 (E := C8.E0)) (pa_cons (pv 0) (pa_cons (pv 1) pa_nil))))
(pss_one
(ps_expr (pe_bm PySem.F.plainAttrs_list PySem.F.slot_list_append PySem.F.type_list_append mt_append (pv 3) (pa_cons (pe_slice sl_str (pv 0) (po_some (pv 1)) (po_some (pv 4))) pa_nil))))) pss_nil)
(pss_one
(ps_set (i := 1) sc_cut_groups.nd rfl (.inl rfl) (pv 4))))))
(pss_cons
(ps_if (pt_cmpR op_gt (pe_callB call_len_seq (by rfl) T.b_len (by decide +kernel) (pa_cons (pv 3) pa_nil)) (pk_int T.k_MOST_GROUPS) (nomark _)) (pss_one
(ps_raiseM rfl (em_InvalidText T) T.g_InvalidText T.e_InvalidText.cls.kC T.e_InvalidText.cls.exC T.e_InvalidText.cls.tyC hr (by decide) rT (pa_cons (pe_un un_neg pe_int) (pa_cons pe_int pa_nil)))) pss_nil)
(pss_one
(ps_ret (pe_callTy call_tuple_of (by rfl) T.b_tuple (by decide +kernel) (pa_cons (pv 3) pa_nil))))))))), ?_⟩)
  · obtain ⟨x, d, rfl, _⟩ := h
    rfl
  · obtain ⟨x, d, rfl, hd, hsz, hW⟩ := h
    refine ⟨_, rfl, x, "str", d, rfl, by simp [tyNames], hd, _, rfl, ?_⟩
    have kind : isTy "str" d = false ∨ ∃ t, d = .str (S t) := by
      rw [ty_str]
      cases d with
      | str z => exact .inr ⟨z.cps.toList, by rw [S_self]⟩
      | _ => exact .inl rfl
    have raise0 : ET K E (Same H) (-1) 0 → _ := fun z => z.at_ (Same.refl H)
    rcases kind with kind | ⟨t, rfl⟩
    · have hW' : ET K E (Same H) (-1) 0 := by
        cases d <;> first | exact hW | (rw [ty_str] at kind; cases kind)
      refine if_t (by rw [kind]; rfl) ?_
      exact ⟨_, rfl, rfl, hW'.at_ (Same.refl H)⟩
    have kd : isTy "str" (.str (S t)) = true := ty_str _
    cases hd
    refine if_f (by rw [kd]; rfl) ?_
    have hcut : CutW K H Q E (.str (S t)) := hW
    unfold CutW at hcut
    dsimp only at hcut
    rw [S_cps, S_len] at hcut
    by_cases hl : t.length > 60000
    · rw [if_pos hl] at hcut
      refine ⟨_, rfl, _, rfl, hsz _ rfl, _, _, rfl, rfl, _, rfl, ?_⟩
      refine if_t (by rw [S_len]; simp; omega) ?_
      exact ⟨_, rfl, rfl, ET.at_ hcut (Same.refl H)⟩
    rw [if_neg hl] at hcut
    have hl' : (S t).length ≤ sizeLine := by
      rw [S_len, sizeLine_eq]
      omega
    refine ⟨_, rfl, _, rfl, hl', _, _, rfl, rfl, _, rfl, ?_⟩
    refine if_f (by rw [S_len]; simp; omega) ?_
    -- the signs
    refine ⟨_, rfl, _, rfl, ?_⟩
    refine for_enumS (fun i σ H' => Same H H' ∧ badFrom i (t.drop i) = badFrom 0 t ∧ ∃ a b c d, σ = [some (vS t), a, b, c, d]) ⟨Same.refl H, rfl, _, _, _, _, rfl⟩ ?_ ?_
    · rintro i c σ H' hc ⟨e1, e2, b1, b2, b3, b4, rfl⟩ p np
      have hc : t[i]? = some c := by
        have z : (S t).cps.toList[i]? = some c := by simpa using hc
        rwa [S_cps] at z
      have e1' := Same.trans e1 (upd_ext (o := .tup [.int (i : Nat), .str ⟨#[c]⟩]) np)
      refine ⟨p, _, rfl, SqT.of upd_same, rfl, _, _, rfl, _, _, rfl, rfl, ?_⟩
      have next : okC c = true → badFrom (i + 1) (t.drop (i + 1)) = badFrom 0 t := fun z => by
        rw [← e2, drop_at hc, badFrom, if_pos z]
      refine ⟨_, rfl, c, _, rfl, rfl, _, rfl, ?_⟩
      rw [lit_LET, S_cps]
      refine if_b (fun c1 => ?_) fun c1 => ?_
      rotate_left
      · exact ⟨e1', next (by simp [okC, inB] at c1 ⊢; simp [c1]), _, _, _, _, rfl⟩
      refine ⟨_, rfl, c, _, rfl, rfl, _, rfl, ?_⟩
      rw [lit_FIG, S_cps]
      refine if_b (fun c2 => ?_) fun c2 => ?_
      rotate_left
      · exact ⟨e1', next (by simp [okC, inB] at c2 ⊢; simp [c2]), _, _, _, _, rfl⟩
      refine ⟨_, rfl, c, _, rfl, rfl, _, rfl, ?_⟩
      rw [lit_SIG, S_cps]
      refine if_b (fun c3 => ?_) fun c3 => ?_
      rotate_left
      · exact ⟨e1', next (by simp [okC, inB] at c3 ⊢; simp [c3]), _, _, _, _, rfl⟩
      refine ⟨_, rfl, c, _, rfl, rfl, _, rfl, ?_⟩
      rw [lit_BLK, S_cps]
      refine if_b (fun c4 => ?_) fun c4 => ?_
      rotate_left
      · exact ⟨e1', next (by simp [okC, inB] at c4 ⊢; simp [c4]), _, _, _, _, rfl⟩
      have bad : badFrom 0 t = some i := by
        rw [← e2, drop_at hc, badFrom, if_neg]
        simp [okC, inB] at c1 c2 c3 c4 ⊢
        simp [c1, c2, c3, c4]
      rw [bad] at hcut
      exact ⟨_, rfl, rfl, ET.at_ hcut e1'⟩
    · rintro σ H' ⟨e1, e2, b1, b2, b3, b4, rfl⟩
      have bad : badFrom 0 t = none := by
        rw [← e2]
        have z : (S t).cps.size = t.length := by simp [S]
        rw [z, List.drop_length]
        rfl
      rw [bad] at hcut
      dsimp only at hcut
      refine ⟨?_, fun l nl => ?_⟩
      · decide
      refine ⟨_, _, rfl, ?_⟩
      have el : Same H (upd H' l (.lst [])) := Same.trans e1 (upd_ext nl)
      refine ⟨fun m σ H2 => ∃ (i : Nat) (F : List G) (c : Option V), m = t.length - i ∧ i ≤ t.length ∧ F.length ≤ i ∧ F ++ toks (t.drop i) = toks t ∧ Same H H2 ∧ H2 l = some (.lst (F.map vS)) ∧ σ = [some (vS t), some (.int i), b2, some (.ref l), c], ⟨_, 0, [], _, rfl, Nat.zero_le _, Nat.zero_le _, rfl, el, upd_same, rfl⟩, ?_⟩
      rintro m σ H2 ⟨i, F, c, rfl, hi, hF, eF, e2, hlst, rfl⟩
      refine ⟨_, rfl, _, rfl, _, rfl, hl', _, _, rfl, rfl, _, rfl, ?_⟩
      rw [S_len]
      refine if_b (fun c1 => ?_) fun c1 => ?_
      · have hit : i < t.length := by
          have z := of_decide_eq_true c1
          omega
        have hc : t[i]? = some t[i] := List.getElem?_eq_getElem hit
        have hx : atI (S t).cps.toList ((i : Nat) : Int) = some t[i] := by rw [S_cps]; exact atI_nat hc
        obtain ⟨g1, g2⟩ := grEnd_gt hit
        refine ⟨_, fun σ' H'' q => q, ?_⟩
        refine ⟨_, rfl, _, _, rfl, rfl, ?_⟩
        refine ⟨_, rfl, _, rfl, _, _, _, rfl, rfl, hl', hx, _, _, rfl, rfl, _, rfl, ?_⟩
        rw [lit_BLK, S_cps]
        refine if_b (fun c2 => ?_) fun c2 => ?_
        · have c2 : inB BLK t[i] = false := by simpa [inB] using c2
          refine ⟨_, rfl, _, rfl, t, i, rfl, by rw [← S_len]; exact hl', hit, ?_⟩
          have eg : ((grEnd t i : Nat) : Int) = (grEnd t i : Int) := rfl
          refine ⟨_, rfl, .inl ⟨rfl, _, SqL.of hlst⟩, _, rfl, _, rfl, _, rfl, _, rfl, _, rfl, _, rfl, hl', l, _, _, rfl, rfl, hlst, ?_, ?_⟩
          · rw [List.length_map, sizeLine_eq]
            omega
          · refine ⟨_, rfl, t.length - grEnd t i, by omega, grEnd t i, F ++ [(t.drop i).take (grEnd t i - i)], _, rfl, g2, ?_, ?_, ?_, ?_, rfl⟩
            · rw [List.length_append, List.length_singleton]
              omega
            · rw [List.append_assoc, List.singleton_append, ← toks_step hc c2]
              exact eF
            · exact Same.over e1 nl e2
            · rw [upd_same, cutS_nat t (Nat.le_of_lt g1) g2, List.map_append]
              rfl
        · have c2 : inB BLK t[i] = true := by simpa [inB] using c2
          refine ⟨_, rfl, t.length - (i + 1), by omega, i + 1, F, _, rfl, hit, by omega, ?_, e2, hlst, rfl⟩
          rw [← eF, drop_at hc, toks_cons, if_pos c2]
      · have hit : ¬ i < t.length := by
          have z := of_decide_eq_false c1
          omega
        have ei : i = t.length := by omega
        subst ei
        rw [List.drop_length, toks_nil, List.append_nil] at eF
        subst eF
        refine ⟨_, rfl, l, _, rfl, .inl (SqL.of hlst), _, _, rfl, rfl, _, rfl, ?_⟩
        rw [List.length_map]
        by_cases hm : (toks t).length > 4000
        · rw [if_pos hm] at hcut
          refine if_t (by simp; omega) ?_
          exact ⟨_, rfl, rfl, ET.at_ hcut e2⟩
        · rw [if_neg hm] at hcut
          refine if_f (by simp; omega) ?_
          refine ⟨_, rfl, l, _, rfl, .inl ⟨SqL.of hlst, fun p np => ?_⟩⟩
          exact hcut _ p (Same.trans e2 (upd_ext np)) upd_same
end K85

set_option Elab.async false
set_option linter.all false
set_option maxRecDepth 100000
set_option maxHeartbeats 2000000
namespace K85
open PySem PySem.Spec PyProof.Rows L2 LamX Ey
variable {P : Program} {w : World} {K : PySem.W.Frag} {mg : Str → Option Value} {base : Heap}
/-! ### written -/
def OPENS : List G := [cp "(", cp "-"]
def CLOSES : List G := [cp ":", cp ",", cp ")"]
def wsep (last g : G) : G := if (OPENS.contains last || CLOSES.contains g) = true then [] else cp " "
def wr : G → List G → G
  | _, [] => []
  | last, g :: r => wsep last g ++ g ++ wr g r
def sp_written (K : PySem.W.Frag) : Sp := fun vs H Q _ => ∃ (a : Addr) (gs : List G), vs = [.ref a] ∧ SqL K H a (gs.map vS) ∧ (wr (cp "(") gs).length ≤ sizeLine ∧ ∀ H', Same H H' → Q (vS (wr (cp "(") gs)) H'
theorem inV_two (g : G) (a b : String) : inV (vS g) [.str (Str.ofString a), .str (Str.ofString b)] = [cp a, cp b].contains g := by
  unfold inV
  rw [of_cp, of_cp]
  simp only [List.any_cons, List.any_nil, Bool.or_false, eqV, List.contains_cons, List.contains_nil]
  have key : ∀ x y : G, (S x == S y) = (y == x) := fun x y => by
    rw [Bool.eq_iff_iff, beq_iff_eq, beq_iff_eq]
    exact ⟨fun h => (S_inj h).symm, fun h => by rw [h]⟩
  rw [key, key]
theorem inV_three (g : G) (a b c : String) : inV (vS g) [.str (Str.ofString a), .str (Str.ofString b), .str (Str.ofString c)] = [cp a, cp b, cp c].contains g := by
  unfold inV
  rw [of_cp, of_cp, of_cp]
  simp only [List.any_cons, List.any_nil, Bool.or_false, eqV, List.contains_cons, List.contains_nil]
  have key : ∀ x y : G, (S x == S y) = (y == x) := fun x y => by
    rw [Bool.eq_iff_iff, beq_iff_eq, beq_iff_eq]
    exact ⟨fun h => (S_inj h).symm, fun h => by rw [h]⟩
  rw [key, key, key]
theorem ok_written (T : T P K mg) : FnOk P w K mg base C8.CX0 1 (He.ga K "written") (fdAt K d_written) ["found"] (sp_written K) := by
  refine FunD.ok T.f_written sc_written (fun vs H Q E h => ?_) (fun cdv A outer s H vs Q E hr h => ⟨_, PSs.nox (pss_cons
(ps_asg (pe_tup (pa_cons pe_str (pa_cons pe_str pa_nil))) (pg_tup rfl (pgs_cons (pg_name (i := 1) sc_written.nd rfl (.inl rfl)) (pgs_cons (pg_name (i := 2) sc_written.nd rfl (.inl rfl)) pgs_nil))))
(pss_cons
(ps_for PassesOwn.never rfl (pi_list (pv 0)) (pg_name (i := 3) sc_written.nd rfl (.inl rfl)) (pss_cons
(ps_aug (i := 1) sc_written.nd rfl (.inl rfl) (pe_op op_add_str (pe_ifExp (PW.pt (pw_or (pt_cmpR op_in_seq (pv 2) (pe_tup (pa_cons pe_str (pa_cons pe_str pa_nil))) (by rfl)) (pw_or1 (pt_cmpR op_in_seq (pv 3) (pe_tup (pa_cons pe_str (pa_cons pe_str (pa_cons pe_str pa_nil)))) (by rfl))))) pe_str pe_str) (pv 3)) iop_add_str)
(pss_one
(ps_set (i := 2) sc_written.nd rfl (.inl rfl) (pv 3)))))
(pss_one
(ps_ret (pv 1))))), ?_⟩)
  · obtain ⟨a, gs, rfl, _⟩ := h
    rfl
  · obtain ⟨a, gs, rfl, hS, hl, hQ⟩ := h
    refine ⟨by show 2 ≤ sizeLine; rw [sizeLine_eq]; decide, fun p np => ?_⟩
    refine ⟨p, _, rfl, SqT.of upd_same, rfl, _, _, rfl, _, _, rfl, rfl, ?_⟩
    have e0 : Same H (upd H p (.tup [.str (Str.ofString ""), .str (Str.ofString "(")])) := upd_ext np
    refine ⟨_, rfl, a, rfl, ⟨_, SqL.ext e0 hS⟩, ?_⟩
    refine for_list (K := K) (xs := gs.map vS) (fun i σ H' => Same H H' ∧ ∃ (row last : G) (x : Option V), σ = [some (.ref a), some (vS row), some (vS last), x] ∧ row ++ wr last (gs.drop i) = wr (cp "(") gs) ⟨e0, [], cp "(", none, ?_, rfl⟩ (fun i σ H' _ h => SqL.ext h.1 hS) ?_ ?_
    · show [_, some (V.str (Str.ofString "")), some (V.str (Str.ofString "(")), _] = _
      rw [of_cp, of_cp]
      rfl
    · rintro i y σ H' hy ⟨e1, row, last, x, rfl, e2⟩
      obtain ⟨g, hg, rfl⟩ : ∃ g, gs[i]? = some g ∧ vS g = y := by
        rw [List.getElem?_map] at hy
        cases q : gs[i]? with
        | none =>
          rw [q] at hy
          cases hy
        | some g =>
          rw [q] at hy
          exact ⟨g, rfl, Option.some.inj hy⟩
      have hd := drop_at hg
      rw [hd] at e2
      have e2 : row ++ (wsep last g ++ g ++ wr g (gs.drop (i + 1))) = wr (cp "(") gs := e2
      have hlen : row.length + (wsep last g).length + g.length ≤ sizeLine := by
        have z := congrArg List.length e2
        simp only [List.length_append] at z
        omega
      refine ⟨_, rfl, ?_⟩
      refine ⟨_, rfl, by show 2 ≤ sizeLine; rw [sizeLine_eq]; decide, fun p np => ?_⟩
      have e3 := Same.trans e1 (upd_ext (o := .tup [.str (Str.ofString "("), .str (Str.ofString "-")]) np)
      refine ⟨p, _, rfl, .inr (SqT.of upd_same), rfl, rfl, _, rfl, ?_⟩
      rw [if_neg Bool.false_ne_true, inV_two]
      refine if_b (fun c1 => ?_) fun c1 => ?_
      · have es : wsep last g = cp "" := by
          unfold wsep
          rw [show OPENS.contains last = true from c1]
          rfl
        rw [es] at hlen e2
        refine ⟨_, rfl, S (cp ""), S g, by rw [of_cp], rfl, ?_, S row, S (cp "" ++ g), rfl, by rw [S_app], ?_, _, rfl, e3, row ++ (cp "" ++ g), g, some (vS g), ?_, ?_⟩
        · rw [S_len, S_len]
          have z : (cp "").length ≤ sizeLine := by omega
          omega
        · rw [S_len, S_len, List.length_append]
          omega
        · rw [S_app]
          rfl
        · rw [← e2]
          simp [List.append_assoc]
      have c1' : OPENS.contains last = false := c1
      refine ⟨_, rfl, by show 3 ≤ sizeLine; rw [sizeLine_eq]; decide, fun p2 np2 => ?_⟩
      have e4 := Same.trans e3 (upd_ext (o := .tup [.str (Str.ofString ":"), .str (Str.ofString ","), .str (Str.ofString ")")]) np2)
      refine ⟨p2, _, rfl, .inr (SqT.of upd_same), rfl, rfl, _, rfl, ?_⟩
      rw [if_neg Bool.false_ne_true, inV_three]
      refine if_b (fun c2 => ?_) fun c2 => ?_
      · have es : wsep last g = cp "" := by
          unfold wsep
          rw [show CLOSES.contains g = true from c2, Bool.or_true]
          rfl
        rw [es] at hlen e2
        refine ⟨_, rfl, S (cp ""), S g, by rw [of_cp], rfl, ?_, S row, S (cp "" ++ g), rfl, by rw [S_app], ?_, _, rfl, e4, row ++ (cp "" ++ g), g, some (vS g), ?_, ?_⟩
        · rw [S_len, S_len]
          have z : (cp "").length ≤ sizeLine := by omega
          omega
        · rw [S_len, S_len, List.length_append]
          omega
        · rw [S_app]
          rfl
        · rw [← e2]
          simp [List.append_assoc]
      · have es : wsep last g = cp " " := by
          unfold wsep
          rw [show CLOSES.contains g = false from c2, c1']
          rfl
        rw [es] at hlen e2
        refine ⟨_, rfl, S (cp " "), S g, by rw [of_cp], rfl, ?_, S row, S (cp " " ++ g), rfl, by rw [S_app], ?_, _, rfl, e4, row ++ (cp " " ++ g), g, some (vS g), ?_, ?_⟩
        · rw [S_len, S_len]
          have z : (cp " ").length ≤ sizeLine := by omega
          omega
        · rw [S_len, S_len, List.length_append]
          omega
        · rw [S_app]
          rfl
        · rw [← e2]
          simp [List.append_assoc]
    · rintro σ H' ⟨e1, row, last, x, rfl, e2⟩
      rw [show (gs.map vS).length = gs.length from List.length_map ..] at e2
      rw [List.drop_length] at e2
      have e2 : row = wr (cp "(") gs := by simpa [wr] using e2
      subst e2
      exact ⟨_, rfl, hQ _ e1⟩
end K85

set_option Elab.async false
set_option linter.all false
set_option maxRecDepth 100000
set_option maxHeartbeats 2000000
namespace K85
open PySem PySem.Spec PyProof.Rows L2 LamX Ey
variable {P : Program} {w : World} {K : PySem.W.Frag} {mg : Str → Option Value} {base : Heap}
def isLong : G → Bool
  | [] => false
  | c :: r => decide ((c :: r).length > if inB FIG c then 4 else 12)
def sp_is_long : Sp := fun vs H Q _ => ∃ g : G, vs = [vS g] ∧ g.length ≤ sizeLine ∧ Q (.bl (isLong g)) H
theorem cut1 (g : G) : cutS (S g) none (some 1) = S (g.take 1) := by
  unfold cutS
  rw [show (some (1 : Int)) = some ((1 : Nat) : Int) from rfl, HT.sIx_nat, S_len, S_cps]
  show S ((g.drop 0).take (min 1 g.length - 0)) = S (g.take 1)
  congr 1
  cases g with
  | nil => rfl
  | cons c r =>
    have e : min 1 (c :: r).length - 0 = 1 := by
      simp only [List.length_cons]
      omega
    rw [e]
    rfl
theorem dec_vS (a b : G) : decide (vS a = vS b) = decide (a = b) := by
  rw [Bool.eq_iff_iff, decide_eq_true_iff, decide_eq_true_iff]
  exact vS_eq_iff
theorem ok_is_long (T : T P K mg) : FnOk P w K mg base C8.CX0 1 (He.ga K "is_long") (fdAt K d_is_long) ["group"] sp_is_long := by
  refine FunD.ok T.f_is_long sc_is_long (fun vs H Q E h => ?_) (fun cdv A outer s H vs Q E hr h => ⟨_, PSs.nox (pss_cons
(ps_if (pt_cmpR op_eq (pe_slice sl_str (pv 0) po_none (po_some pe_int)) pe_str (nomark _)) (pss_one
(ps_ret pe_bl)) pss_nil)
(pss_one
(ps_ret (pe_cmpR op_gt (pe_callB call_len_str (by rfl) T.b_len (by decide +kernel) (pa_cons (pv 0) pa_nil)) (pe_ifExp (pt_cmpR op_in_sign (pe_ix ix_str (pv 0) pe_int (fun _ _ => rfl)) (pk_str T.k_FIGURES) (by rfl)) (pk_int T.k_MOST_FIGURES) (pk_int T.k_MOST_LETTERS)) (nomark _))))), ?_⟩)
  · obtain ⟨g, rfl, _⟩ := h
    rfl
  · obtain ⟨g, rfl, hl, hQ⟩ := h
    have hl' : (S g).length ≤ sizeLine := by rw [S_len]; exact hl
    refine ⟨_, rfl, _, rfl, _, rfl, hl', rfl, _, rfl, ?_⟩
    rw [cut1, of_cp "", dec_vS]
    cases g with
    | nil => exact if_t rfl hQ
    | cons c r =>
      refine if_f rfl ?_
      refine ⟨_, rfl, _, rfl, hl', ?_⟩
      refine ⟨_, rfl, _, _, c, rfl, rfl, hl', by rw [S_cps]; exact atI_nat (j := 0) rfl, c, _, rfl, rfl, _, rfl, ?_⟩
      rw [lit_FIG, S_cps]
      have hQ : Q (.bl (decide ((c :: r).length > if inB FIG c then 4 else 12))) H := hQ
      refine if_b (fun c1 => ?_) fun c1 => ?_
      · have c1 : inB FIG c = true := c1
        rw [if_pos c1] at hQ
        refine ⟨_, _, rfl, rfl, ?_⟩
        rw [S_len]
        have e : decide (((4 : Int)) < (((c :: r).length : Nat) : Int)) = decide ((c :: r).length > 4) := by
          rw [Bool.eq_iff_iff, decide_eq_true_iff, decide_eq_true_iff]
          omega
        exact q_bl e hQ
      · have c1 : inB FIG c = false := c1
        rw [if_neg (by rw [c1]; simp)] at hQ
        refine ⟨_, _, rfl, rfl, ?_⟩
        rw [S_len]
        have e : decide (((12 : Int)) < (((c :: r).length : Nat) : Int)) = decide ((c :: r).length > 12) := by
          rw [Bool.eq_iff_iff, decide_eq_true_iff, decide_eq_true_iff]
          omega
        exact q_bl e hQ
/-! ### the reader -/
def nowG (gs : List G) (a : Nat) : G := gs.getD a []
def rdFs (tp ow : Addr) (a : Nat) : List (Str × V) := [("groups", .ref tp), ("at", .int a), ("own", .ref ow)]
def RdS (K : PySem.W.Frag) (H : Hp) (r : Addr) (gs : List G) (a : Nat) : Prop :=
  ∃ dx tp ow, H r = some (.ins (He.ga K "Reading") dx (rdFs tp ow a)) ∧ SqT K H tp (gs.map vS) ∧ SqT K H ow [] ∧ (∀ g ∈ gs, g.length ≤ 60000) ∧ gs.length ≤ 4000
def sp_now (K : PySem.W.Frag) : Sp := fun vs H Q _ => ∃ (r : Addr) (gs : List G) (a : Nat), vs = [.ref r] ∧ RdS K H r gs a ∧ Q (vS (nowG gs a)) H
theorem ok_Reading_now (T : T P K mg) : FnOk P w K mg base C8.CX0 1 (He.ma K (He.ga K "Reading") "now") (fdAt K d_Reading_now) ["self"] (sp_now K) := by
  refine FunD.ok T.f_Reading_now sc_Reading_now (fun vs H Q E h => ?_) (fun cdv A outer s H vs Q E hr h => ⟨_, PSs.nox (pss_one
(ps_ret (pe_ifExp (pt_cmpR op_lt (pe_fld (pv 0) rfl) (pe_callB call_len_seq (by rfl) T.b_len (by decide +kernel) (pa_cons (pe_fld (pv 0) rfl) pa_nil)) (nomark _)) (pe_ix ix_tup (pe_fld (pv 0) rfl) (pe_fld (pv 0) rfl) (fun _ _ => rfl)) pe_str))), ?_⟩)
  · obtain ⟨r, gs, a, rfl, _⟩ := h
    rfl
  · obtain ⟨r, gs, a, rfl, ⟨dx, tp, ow, hr, hg, ho, hs, hn⟩, hQ⟩ := h
    refine ⟨_, rfl, r, _, dx, _, _, rfl, hr, T.c_Reading, T.a_Reading_at, rfl, ?_⟩
    refine ⟨_, rfl, r, _, dx, _, _, rfl, hr, T.c_Reading, T.a_Reading_groups, rfl, tp, _, rfl, .inr hg, _, _, rfl, rfl, _, rfl, ?_⟩
    rw [List.length_map]
    unfold nowG at hQ
    refine if_b (fun c1 => ?_) fun c1 => ?_
    · have c1 : a < gs.length := by
        have z := of_decide_eq_true c1
        omega
      have e : gs[a]? = some gs[a] := List.getElem?_eq_getElem c1
      rw [List.getD_eq_getElem?_getD, e] at hQ
      refine ⟨_, rfl, r, _, dx, _, _, rfl, hr, T.c_Reading, T.a_Reading_groups, rfl, _, rfl, r, _, dx, _, _, rfl, hr, T.c_Reading, T.a_Reading_at, rfl, tp, _, _, _, rfl, rfl, hg, atI_nat (by rw [List.getElem?_map, e]; rfl), hQ⟩
    · have c1 : gs[a]? = none := by
        have z := of_decide_eq_false c1
        exact List.getElem?_eq_none (by omega)
      rw [List.getD_eq_getElem?_getD, c1] at hQ
      rw [show V.str (Str.ofString "") = vS [] from by rw [of_cp]; rfl]
      exact hQ
theorem b0_wrong (F : FnAs K d_Reading_wrong) : ∃ ds, Vals [V.int 4] ds ∧ Binds K (fdAt K d_Reading_wrong) ["self", "why"] ds :=
  FunD.binds1 (ps := ["self", "why"]) F 1 0 (by simp [He.DefD.dvs, d_Reading_wrong]) rfl fun T kV doc pm an cdv ct us its hu hi =>
    match us, its, hu, hi with
    | [u], [i], _, _ => ⟨_, rfl, rfl⟩
theorem b1_wrong (F : FnAs K d_Reading_wrong) : ∃ ds, Vals ([] : List V) ds ∧ Binds K (fdAt K d_Reading_wrong) ["self", "why"] ds :=
  FunD.binds1 (ps := ["self", "why"]) F 2 1 (by simp [He.DefD.dvs, d_Reading_wrong]) rfl fun T kV doc pm an cdv ct us its hu hi =>
    match us, its, hu, hi with
    | [u, u'], [i], _, _ => ⟨_, rfl, rfl⟩
theorem nowG_len {gs : List G} (h : ∀ g ∈ gs, g.length ≤ 60000) (a : Nat) : (nowG gs a).length ≤ sizeLine := by
  unfold nowG
  rw [List.getD_eq_getElem?_getD, sizeLine_eq]
  cases e : gs[a]? with
  | none => exact Nat.zero_le _
  | some g =>
    have z := h g (List.mem_of_getElem? e)
    show g.length ≤ _
    omega
theorem ET.atB {E : XK} {H0 H : Hp} {r : Addr} {a y : Int} (h : ET K E (ExB r H0) a y) (e : ExB r H0 H) : ∀ d, H d = none → E (.ref (He.ga K "InvalidText")) (some d) (upd H d (.xd ([("at" : Str), "why"].zip [.int a, .int y]))) :=
  fun d hd => h _ d (e.trans (Same.exb r (upd_ext hd))) upd_same
theorem ET.up {E : XK} {H0 H : Hp} {r : Addr} {a y : Int} (h : ET K E (ExB r H0) a y) (e : ExB r H0 H) : ET K E (ExB r H) a y := fun H' dd e' hd => h H' dd (e.trans e') hd
def wy (gs : List G) (a : Nat) (y : Int) : Int := if isLong (nowG gs a) then 3 else y
def sp_wrong (K : PySem.W.Frag) : Sp := fun vs H Q E => ∃ (r : Addr) (gs : List G) (a : Nat) (y : Int), vs = [.ref r, .int y] ∧ RdS K H r gs a ∧ ET K E (ExB r H) a (wy gs a y)
theorem ok_Reading_wrong (T : T P K mg) : FnOk P w K mg base (L2.CX P w) 2 (He.ma K (He.ga K "Reading") "wrong") (fdAt K d_Reading_wrong) ["self", "why"] (sp_wrong K) := by
  refine FunD.ok T.f_Reading_wrong sc_Reading_wrong (fun vs H Q E h => ?_) (fun cdv A outer s H vs Q E hr h => ⟨_, (pss_one
(ps_raiseM rfl (em_InvalidText T) T.g_InvalidText T.e_InvalidText.cls.kC T.e_InvalidText.cls.exC T.e_InvalidText.cls.tyC hr (by decide) rT (pa_cons (pe_fld (pv 0) rfl) (pa_cons (pe_ifExp (pt_val (pe_call (ok_is_long T) (hr.mono (by first | decide | omega | (simp only [Nat.add_eq]; omega))) rfl T.g_is_long T.f_is_long.kp (bn_is_long T.f_is_long) .nil (C8.pass0 (E := C8.E0)) (pa_cons (pe_meth0 (pv 0) T.c_Reading T.m_Reading_now (ok_Reading_now T) (hr.mono (by first | decide | omega | (simp only [Nat.add_eq]; omega))) (bn_Reading_now T.f_Reading_now) .nil (C8.pass0 (E := C8.E0))) pa_nil))) pe_int (pv 1)) pa_nil)))), ?_⟩)
  · obtain ⟨r, gs, a, y, rfl, _⟩ := h
    rfl
  · obtain ⟨r, gs, a, y, rfl, R, hQ⟩ := h
    obtain ⟨dx, tp, ow, hr, hg, ho, hs, hn⟩ := id R
    refine ⟨_, rfl, r, _, dx, _, _, rfl, hr, T.c_Reading, T.a_Reading_at, rfl, ?_⟩
    refine ⟨_, rfl, r, dx, _, rfl, hr, rfl, r, gs, a, rfl, R, _, rfl, nowG_len hs a, _, rfl, ?_⟩
    unfold wy at hQ
    refine if_b (fun c1 => ?_) fun c1 => ?_
    · rw [if_pos c1] at hQ
      exact ⟨rfl, hQ.atB (ExB.refl r H)⟩
    · rw [if_neg (by rw [c1]; simp)] at hQ
      exact ⟨_, rfl, rfl, hQ.atB (ExB.refl r H)⟩
/-- a tuple of words -/
def sp_begins (K : PySem.W.Frag) : Sp := fun vs H Q _ => ∃ (r wa : Addr) (gs ws : List G) (a : Nat), vs = [.ref r, .ref wa] ∧ RdS K H r gs a ∧ SqT K H wa (ws.map vS) ∧ Q (.bl (ws.contains (nowG gs a))) H
theorem inV_vS (g : G) : ∀ ws : List G, inV (vS g) (ws.map vS) = ws.contains g
  | [] => rfl
  | x :: r => by
    have z := inV_vS g r
    unfold inV at z ⊢
    rw [List.map_cons, List.any_cons, z, List.contains_cons]
    congr 1
    show (S x == S g) = (g == x)
    rw [Bool.eq_iff_iff, beq_iff_eq, beq_iff_eq]
    exact ⟨fun h => (S_inj h).symm, fun h => by rw [h]⟩
theorem flat_vS (ws : List G) : (ws.map vS).all flatV = true := by
  rw [List.all_eq_true]
  intro x hx
  obtain ⟨g, _, rfl⟩ := List.mem_map.mp hx
  rfl
theorem ok_Reading_begins (T : T P K mg) : FnOk P w K mg base C8.CX0 2 (He.ma K (He.ga K "Reading") "begins") (fdAt K d_Reading_begins) ["self", "words"] (sp_begins K) := by
  refine FunD.ok T.f_Reading_begins sc_Reading_begins (fun vs H Q E h => ?_) (fun cdv A outer s H vs Q E hr h => ⟨_, PSs.nox (pss_one
(ps_ret (pe_cmpR op_in_seq (pe_meth0 (pv 0) T.c_Reading T.m_Reading_now (ok_Reading_now T) (hr.mono (by first | decide | omega | (simp only [Nat.add_eq]; omega))) (bn_Reading_now T.f_Reading_now) .nil (C8.pass0 (E := C8.E0))) (pv 1) (by rfl)))), ?_⟩)
  · obtain ⟨r, wa, gs, ws, a, rfl, _⟩ := h
    rfl
  · obtain ⟨r, wa, gs, ws, a, rfl, R, hw, hQ⟩ := h
    obtain ⟨dx, tp, ow, hr, hg, ho, hs, hn⟩ := id R
    refine ⟨_, rfl, r, dx, _, rfl, hr, rfl, r, gs, a, rfl, R, _, rfl, wa, _, rfl, .inr hw, rfl, flat_vS ws, ?_⟩
    rw [if_neg Bool.false_ne_true, inV_vS]
    exact hQ
theorem RdS.step {H : Hp} {r : Addr} {gs : List G} {a b : Nat} {dx tp ow : Addr} (h1 : H r = some (.ins (He.ga K "Reading") dx (rdFs tp ow a))) (hg : SqT K H tp (gs.map vS)) (ho : SqT K H ow []) (hs : ∀ g ∈ gs, g.length ≤ 60000) (hn : gs.length ≤ 4000) :
    RdS K (upd H r (.ins (He.ga K "Reading") dx (rdFs tp ow b))) r gs b := by
  have e : TEx H (upd H r (.ins (He.ga K "Reading") dx (rdFs tp ow b))) := ExB.tex upd_exb (fun xs z => by rw [h1] at z; cases z) fun o xs z => by rw [h1] at z; cases z
  exact ⟨dx, tp, ow, upd_same, SqT.tex e hg, SqT.tex e ho, hs, hn⟩
theorem RdS.ext {H H' : Hp} {r : Addr} {gs : List G} {a : Nat} (h : RdS K H r gs a) (e : Same H H') : RdS K H' r gs a := by
  obtain ⟨dx, tp, ow, h1, h2, h3, h4, h5⟩ := h
  exact ⟨dx, tp, ow, e _ _ h1, SqT.ext e h2, SqT.ext e h3, h4, h5⟩
def sp_taken (K : PySem.W.Frag) : Sp := fun vs H Q E => ∃ (r : Addr) (gs : List G) (a : Nat) (g : G), vs = [.ref r] ∧ RdS K H r gs a ∧ gs[a]? = some g ∧ (isLong g = true → ET K E (ExB r H) a 3) ∧
  (isLong g = false → ∀ H', ExB r H H' → RdS K H' r gs (a + 1) → Q (vS g) H')
theorem nowG_at {gs : List G} {a : Nat} {g : G} (h : gs[a]? = some g) : nowG gs a = g := by
  unfold nowG
  rw [List.getD_eq_getElem?_getD, h]
  rfl
theorem ok_Reading_taken (T : T P K mg) : FnOk P w K mg base (L2.CX P w) 3 (He.ma K (He.ga K "Reading") "taken") (fdAt K d_Reading_taken) ["self"] (sp_taken K) := by
  refine FunD.ok T.f_Reading_taken sc_Reading_taken (fun vs H Q E h => ?_) (fun cdv A outer s H vs Q E hr h => ⟨_, (pss_cons
(ps_if (pt_val (pe_call (ok_is_long T) (hr.mono (by first | decide | omega | (simp only [Nat.add_eq]; omega))) rfl T.g_is_long T.f_is_long.kp (bn_is_long T.f_is_long) .nil (C8.pass0 (E := C8.E0)) (pa_cons (pe_meth0 (pv 0) T.c_Reading T.m_Reading_now (ok_Reading_now T) (hr.mono (by first | decide | omega | (simp only [Nat.add_eq]; omega))) (bn_Reading_now T.f_Reading_now) .nil (C8.pass0 (E := C8.E0))) pa_nil))) (pss_one
(ps_expr (pe_meth0 (pv 0) T.c_Reading T.m_Reading_wrong (ok_Reading_wrong T) (hr.mono (by first | decide | omega | (simp only [Nat.add_eq]; omega))) (b0_wrong T.f_Reading_wrong).choose_spec.2 (b0_wrong T.f_Reading_wrong).choose_spec.1 (passes_call rT (fun _ _ _ _ h => h))))) pss_nil)
(pss_cons
(ps_fldaug (pv 0) pe_int in_add)
(pss_one
(ps_ret (pe_ix ix_tup (pe_fld (pv 0) rfl) (pe_op op_sub (pe_fld (pv 0) rfl) pe_int) (fun _ _ => rfl)))))), ?_⟩)
  · obtain ⟨r, gs, a, g, rfl, _⟩ := h
    rfl
  · obtain ⟨r, gs, a, g, rfl, R, hg, hE, hQ⟩ := h
    obtain ⟨dx, tp, ow, hr, hgs, ho, hs, hn⟩ := id R
    have hnow := nowG_at hg
    refine ⟨_, rfl, r, dx, _, rfl, hr, rfl, r, gs, a, rfl, R, _, rfl, nowG_len hs a, _, rfl, ?_⟩
    rw [hnow]
    refine if_b (fun c1 => ?_) fun c1 => ?_
    · refine ⟨_, rfl, r, dx, _, rfl, hr, rfl, r, gs, a, 4, rfl, R, ?_⟩
      unfold wy
      rw [hnow, if_pos c1]
      exact hE c1
    · refine ⟨_, rfl, r, _, dx, _, _, rfl, hr, T.c_Reading, T.a_Reading_at, rfl, _, _, rfl, rfl, dx, _, hr, (by show 3 < 1000; decide), ?_⟩
      have R' : RdS K (upd H r (.ins (He.ga K "Reading") dx (rdFs tp ow (a + 1)))) r gs (a + 1) := RdS.step hr hgs ho hs hn
      obtain ⟨dx', tp', ow', hr', hgs', _⟩ := id R'
      refine ⟨_, rfl, r, _, dx', _, _, rfl, hr', T.c_Reading, T.a_Reading_groups, rfl, ?_⟩
      refine ⟨_, rfl, r, _, dx', _, _, rfl, hr', T.c_Reading, T.a_Reading_at, rfl, _, _, rfl, rfl, tp', _, _, _, rfl, rfl, hgs', ?_, hQ c1 _ upd_exb R'⟩
      have e : (((a + 1 : Nat) : Int) - 1) = ((a : Nat) : Int) := by omega
      rw [e]
      exact atI_nat (by rw [List.getElem?_map, hg]; rfl)
end K85

set_option Elab.async false
set_option linter.all false
set_option maxRecDepth 100000
set_option maxHeartbeats 2000000
namespace K85
open PySem PySem.Spec PyProof.Rows L2 LamX Ey
variable {P : Program} {w : World} {K : PySem.W.Frag} {mg : Str → Option Value} {base : Heap}
def sp_took (K : PySem.W.Frag) : Sp := fun vs H Q E => ∃ (r wa : Addr) (gs ws : List G) (a : Nat), vs = [.ref r, .ref wa] ∧ RdS K H r gs a ∧ SqT K H wa (ws.map vS) ∧ ([] : G) ∉ ws ∧ (∀ g ∈ ws, isLong g = false) ∧
  (ws.contains (nowG gs a) = false → ET K E (ExB r H) a (wy gs a 4)) ∧ (ws.contains (nowG gs a) = true → ∀ H', ExB r H H' → RdS K H' r gs (a + 1) → Q (vS (nowG gs a)) H')
theorem now_some {gs : List G} {a : Nat} (h : nowG gs a ≠ []) : gs[a]? = some (nowG gs a) := by
  unfold nowG at h ⊢
  rw [List.getD_eq_getElem?_getD] at h ⊢
  cases e : gs[a]? with
  | none =>
    rw [e] at h
    exact absurd rfl h
  | some g => rfl
theorem ok_Reading_took (T : T P K mg) : FnOk P w K mg base (L2.CX P w) 4 (He.ma K (He.ga K "Reading") "took") (fdAt K d_Reading_took) ["self", "words"] (sp_took K) := by
  refine FunD.ok T.f_Reading_took sc_Reading_took (fun vs H Q E h => ?_) (fun cdv A outer s H vs Q E hr h => ⟨_, (pss_cons
(ps_if (pt_not (pt_val (pe_meth (pv 0) T.c_Reading T.m_Reading_begins (ok_Reading_begins T) (hr.mono (by first | decide | omega | (simp only [Nat.add_eq]; omega))) (bn_Reading_begins T.f_Reading_begins) .nil (C8.pass0 (E := C8.E0)) (pa_cons (pv 1) pa_nil)))) (pss_one
(ps_expr (pe_meth0 (pv 0) T.c_Reading T.m_Reading_wrong (ok_Reading_wrong T) (hr.mono (by first | decide | omega | (simp only [Nat.add_eq]; omega))) (b0_wrong T.f_Reading_wrong).choose_spec.2 (b0_wrong T.f_Reading_wrong).choose_spec.1 (passes_call rT (fun _ _ _ _ h => h))))) pss_nil)
(pss_one
(ps_ret (pe_meth0 (pv 0) T.c_Reading T.m_Reading_taken (ok_Reading_taken T) (hr.mono (by first | decide | omega | (simp only [Nat.add_eq]; omega))) (bn_Reading_taken T.f_Reading_taken) .nil (passes_call rT (fun _ _ _ _ h => h)))))), ?_⟩)
  · obtain ⟨r, wa, gs, ws, a, rfl, _⟩ := h
    rfl
  · obtain ⟨r, wa, gs, ws, a, rfl, R, hw, hne, hlg, hE, hQ⟩ := h
    obtain ⟨dx, tp, ow, hr, hgs, ho, hs, hn⟩ := id R
    refine ⟨_, rfl, r, dx, _, rfl, hr, rfl, _, rfl, r, wa, gs, ws, a, rfl, R, hw, _, rfl, ?_⟩
    cases c1 : ws.contains (nowG gs a) with
    | false =>
      refine if_t rfl ?_
      exact ⟨_, rfl, r, dx, _, rfl, hr, rfl, r, gs, a, 4, rfl, R, hE c1⟩
    | true =>
      refine if_f rfl ?_
      have hm : nowG gs a ∈ ws := by simpa using c1
      have hnn : nowG gs a ≠ [] := fun z => hne (z ▸ hm)
      exact ⟨_, rfl, r, dx, _, rfl, hr, rfl, r, gs, a, nowG gs a, rfl, R, now_some hnn, fun z => absurd z (by rw [hlg _ hm]; simp), fun _ H' e R' => hQ c1 H' e R'⟩
def sp_passes (K : PySem.W.Frag) : Sp := fun vs H Q E => ∃ (r wa : Addr) (gs ws : List G) (a : Nat), vs = [.ref r, .ref wa] ∧ RdS K H r gs a ∧ SqT K H wa (ws.map vS) ∧
  (ws.contains (nowG gs a) = false → Q (.bl false) H) ∧ (ws.contains (nowG gs a) = true → ∀ H', ExB r H H' → RdS K H' r gs (a + 1) → Q (.bl true) H')
theorem ok_Reading_passes (T : T P K mg) : FnOk P w K mg base C8.CX0 3 (He.ma K (He.ga K "Reading") "passes") (fdAt K d_Reading_passes) ["self", "words"] (sp_passes K) := by
  refine FunD.ok T.f_Reading_passes sc_Reading_passes (fun vs H Q E h => ?_) (fun cdv A outer s H vs Q E hr h => ⟨_, PSs.nox (pss_cons
(ps_if (pt_not (pt_val (pe_meth (pv 0) T.c_Reading T.m_Reading_begins (ok_Reading_begins T) (hr.mono (by first | decide | omega | (simp only [Nat.add_eq]; omega))) (bn_Reading_begins T.f_Reading_begins) .nil (C8.pass0 (E := C8.E0)) (pa_cons (pv 1) pa_nil)))) (pss_one
(ps_ret pe_bl)) pss_nil)
(pss_cons
(ps_fldaug (pv 0) pe_int in_add)
(pss_one
(ps_ret pe_bl)))), ?_⟩)
  · obtain ⟨r, wa, gs, ws, a, rfl, _⟩ := h
    rfl
  · obtain ⟨r, wa, gs, ws, a, rfl, R, hw, h1, h2⟩ := h
    obtain ⟨dx, tp, ow, hr, hgs, ho, hs, hn⟩ := id R
    refine ⟨_, rfl, r, dx, _, rfl, hr, rfl, _, rfl, r, wa, gs, ws, a, rfl, R, hw, _, rfl, ?_⟩
    cases c1 : ws.contains (nowG gs a) with
    | false => exact if_t rfl (h1 c1)
    | true =>
      refine if_f rfl ?_
      refine ⟨_, rfl, r, _, dx, _, _, rfl, hr, T.c_Reading, T.a_Reading_at, rfl, _, _, rfl, rfl, dx, _, hr, (by show 3 < 1000; decide), ?_⟩
      exact h2 c1 _ upd_exb (RdS.step hr hgs ho hs hn)
def isNum : G → Bool
  | [] => false
  | c :: _ => inB FIG c
def isName : G → Bool
  | [] => false
  | c :: _ => inB LET c
def sp_isnum (K : PySem.W.Frag) : Sp := fun vs H Q _ => ∃ (r : Addr) (gs : List G) (a : Nat), vs = [.ref r] ∧ RdS K H r gs a ∧ Q (.bl (isNum (nowG gs a))) H
theorem ok_Reading_at_number (T : T P K mg) : FnOk P w K mg base C8.CX0 2 (He.ma K (He.ga K "Reading") "at_number") (fdAt K d_Reading_at_number) ["self"] (sp_isnum K) := by
  refine FunD.ok T.f_Reading_at_number sc_Reading_at_number (fun vs H Q E h => ?_) (fun cdv A outer s H vs Q E hr h => ⟨_, PSs.nox (pss_one
(ps_ret (pe_and (pe_cmpR op_ne (pe_meth0 (pv 0) T.c_Reading T.m_Reading_now (ok_Reading_now T) (hr.mono (by first | decide | omega | (simp only [Nat.add_eq]; omega))) (bn_Reading_now T.f_Reading_now) .nil (C8.pass0 (E := C8.E0))) pe_str (nomark _)) (pe_one (pe_cmpR op_in_sign (pe_ix ix_str (pe_meth0 (pv 0) T.c_Reading T.m_Reading_now (ok_Reading_now T) (hr.mono (by first | decide | omega | (simp only [Nat.add_eq]; omega))) (bn_Reading_now T.f_Reading_now) .nil (C8.pass0 (E := C8.E0))) pe_int (fun _ _ => rfl)) (pk_str T.k_FIGURES) (by rfl)))))), ?_⟩)
  · obtain ⟨r, gs, a, rfl, _⟩ := h
    rfl
  · obtain ⟨r, gs, a, rfl, R, hQ⟩ := h
    obtain ⟨dx, tp, ow, hr, hgs, ho, hs, hn⟩ := id R
    have hl : (S (nowG gs a)).length ≤ sizeLine := by rw [S_len]; exact nowG_len hs a
    refine ⟨_, rfl, r, dx, _, rfl, hr, rfl, r, gs, a, rfl, R, rfl, _, rfl, ?_⟩
    rw [of_cp "", dec_vS]
    cases e : nowG gs a with
    | nil =>
      rw [e] at hQ
      exact if_f rfl hQ
    | cons c t =>
      refine if_t rfl ?_
      refine ⟨_, rfl, r, dx, _, rfl, hr, rfl, r, gs, a, rfl, R, _, _, c, rfl, rfl, hl, by rw [S_cps, e]; exact atI_nat (j := 0) rfl, c, _, rfl, rfl, ?_⟩
      rw [lit_FIG, S_cps]
      rw [e] at hQ
      exact hQ
def sp_isname (K : PySem.W.Frag) : Sp := fun vs H Q _ => ∃ (r : Addr) (gs : List G) (a : Nat), vs = [.ref r] ∧ RdS K H r gs a ∧ Q (.bl (isName (nowG gs a))) H
theorem ok_Reading_at_name (T : T P K mg) : FnOk P w K mg base C8.CX0 2 (He.ma K (He.ga K "Reading") "at_name") (fdAt K d_Reading_at_name) ["self"] (sp_isname K) := by
  refine FunD.ok T.f_Reading_at_name sc_Reading_at_name (fun vs H Q E h => ?_) (fun cdv A outer s H vs Q E hr h => ⟨_, PSs.nox (pss_one
(ps_ret (pe_and (pe_cmpR op_ne (pe_meth0 (pv 0) T.c_Reading T.m_Reading_now (ok_Reading_now T) (hr.mono (by first | decide | omega | (simp only [Nat.add_eq]; omega))) (bn_Reading_now T.f_Reading_now) .nil (C8.pass0 (E := C8.E0))) pe_str (nomark _)) (pe_and (pe_cmpR op_in_sign (pe_ix ix_str (pe_meth0 (pv 0) T.c_Reading T.m_Reading_now (ok_Reading_now T) (hr.mono (by first | decide | omega | (simp only [Nat.add_eq]; omega))) (bn_Reading_now T.f_Reading_now) .nil (C8.pass0 (E := C8.E0))) pe_int (fun _ _ => rfl)) (pk_str T.k_LETTERS) (by rfl)) (pe_one (pe_cmpR op_notIn_seq (pe_meth0 (pv 0) T.c_Reading T.m_Reading_now (ok_Reading_now T) (hr.mono (by first | decide | omega | (simp only [Nat.add_eq]; omega))) (bn_Reading_now T.f_Reading_now) .nil (C8.pass0 (E := C8.E0))) (pe_fld (pv 0) rfl) (by rfl))))))), ?_⟩)
  · obtain ⟨r, gs, a, rfl, _⟩ := h
    rfl
  · obtain ⟨r, gs, a, rfl, R, hQ⟩ := h
    obtain ⟨dx, tp, ow, hr, hgs, ho, hs, hn⟩ := id R
    have hl : (S (nowG gs a)).length ≤ sizeLine := by rw [S_len]; exact nowG_len hs a
    refine ⟨_, rfl, r, dx, _, rfl, hr, rfl, r, gs, a, rfl, R, rfl, _, rfl, ?_⟩
    rw [of_cp "", dec_vS]
    cases e : nowG gs a with
    | nil =>
      rw [e] at hQ
      exact if_f rfl hQ
    | cons c t =>
      refine if_t rfl ?_
      refine ⟨_, rfl, r, dx, _, rfl, hr, rfl, r, gs, a, rfl, R, _, _, c, rfl, rfl, hl, by rw [S_cps, e]; exact atI_nat (j := 0) rfl, c, _, rfl, rfl, _, rfl, ?_⟩
      rw [lit_LET, S_cps]
      rw [e] at hQ
      have hQ : Q (.bl (inB LET c)) H := hQ
      refine if_b (fun c1 => ?_) fun c1 => ?_
      · have c1 : inB LET c = true := c1
        rw [c1] at hQ
        refine ⟨_, rfl, r, dx, _, rfl, hr, rfl, r, gs, a, rfl, R, _, rfl, r, _, dx, _, _, rfl, hr, T.c_Reading, T.a_Reading_own, rfl, ow, _, rfl, .inr ho, rfl, rfl, ?_⟩
        exact hQ
      · have c1 : inB LET c = false := c1
        rw [c1] at hQ
        exact hQ
def sp_name (K : PySem.W.Frag) : Sp := fun vs H Q E => ∃ (r : Addr) (gs : List G) (a : Nat), vs = [.ref r] ∧ RdS K H r gs a ∧ isName (nowG gs a) = true ∧ (isLong (nowG gs a) = true → ET K E (ExB r H) a 3) ∧
  (isLong (nowG gs a) = false → ∀ H', ExB r H H' → RdS K H' r gs (a + 1) → Q (vS (nowG gs a)) H')
theorem ok_Reading_name (T : T P K mg) : FnOk P w K mg base (L2.CX P w) 4 (He.ma K (He.ga K "Reading") "name") (fdAt K d_Reading_name) ["self"] (sp_name K) := by
  refine FunD.ok T.f_Reading_name sc_Reading_name (fun vs H Q E h => ?_) (fun cdv A outer s H vs Q E hr h => ⟨_, (pss_cons
(ps_if (pt_not (pt_val (pe_meth0 (pv 0) T.c_Reading T.m_Reading_at_name (ok_Reading_at_name T) (hr.mono (by first | decide | omega | (simp only [Nat.add_eq]; omega))) (bn_Reading_at_name T.f_Reading_at_name) .nil (C8.pass0 (E := C8.E0))))) (pss_one
(ps_expr (pe_meth0 (pv 0) T.c_Reading T.m_Reading_wrong (ok_Reading_wrong T) (hr.mono (by first | decide | omega | (simp only [Nat.add_eq]; omega))) (b0_wrong T.f_Reading_wrong).choose_spec.2 (b0_wrong T.f_Reading_wrong).choose_spec.1 (passes_call rT (fun _ _ _ _ h => h))))) pss_nil)
(pss_one
(ps_ret (pe_meth0 (pv 0) T.c_Reading T.m_Reading_taken (ok_Reading_taken T) (hr.mono (by first | decide | omega | (simp only [Nat.add_eq]; omega))) (bn_Reading_taken T.f_Reading_taken) .nil (passes_call rT (fun _ _ _ _ h => h)))))), ?_⟩)
  · obtain ⟨r, gs, a, rfl, _⟩ := h
    rfl
  · obtain ⟨r, gs, a, rfl, R, hnm, hE, hQ⟩ := h
    obtain ⟨dx, tp, ow, hr, hgs, ho, hs, hn⟩ := id R
    refine ⟨_, rfl, r, dx, _, rfl, hr, rfl, r, gs, a, rfl, R, _, rfl, ?_⟩
    refine if_f (by rw [hnm]; rfl) ?_
    have hnn : nowG gs a ≠ [] := fun z => by
      rw [z] at hnm
      cases hnm
    exact ⟨_, rfl, r, dx, _, rfl, hr, rfl, r, gs, a, nowG gs a, rfl, R, now_some hnn, hE, hQ⟩
def digits (g : G) : Prop := NumText.AllDigits g
def valG (g : G) : Int := ((NumText.digitsVal g : Nat) : Int)
def sp_number (K : PySem.W.Frag) : Sp := fun vs H Q E => ∃ (r : Addr) (gs : List G) (a : Nat), vs = [.ref r] ∧ RdS K H r gs a ∧ (isNum (nowG gs a) = true → NumText.AllDigits (nowG gs a)) ∧ (isNum (nowG gs a) = false → ET K E (ExB r H) a (wy gs a 4)) ∧
  (isNum (nowG gs a) = true → isLong (nowG gs a) = true → ET K E (ExB r H) a 3) ∧
  (isNum (nowG gs a) = true → isLong (nowG gs a) = false → ∀ H', ExB r H H' → RdS K H' r gs (a + 1) → Q (.int (valG (nowG gs a))) H')
theorem short4 {g : G} (h : isNum g = true) (hl : isLong g = false) : g.length ≤ 4 := by
  cases g with
  | nil => cases h
  | cons c r =>
    have h : inB FIG c = true := h
    have hl : decide ((c :: r).length > if inB FIG c then 4 else 12) = false := hl
    rw [if_pos h] at hl
    have z := of_decide_eq_false hl
    omega
theorem ok_Reading_number (T : T P K mg) : FnOk P w K mg base (L2.CX P w) 4 (He.ma K (He.ga K "Reading") "number") (fdAt K d_Reading_number) ["self"] (sp_number K) := by
  refine FunD.ok T.f_Reading_number sc_Reading_number (fun vs H Q E h => ?_) (fun cdv A outer s H vs Q E hr h => ⟨_, (pss_cons
(ps_if (pt_not (pt_val (pe_meth0 (pv 0) T.c_Reading T.m_Reading_at_number (ok_Reading_at_number T) (hr.mono (by first | decide | omega | (simp only [Nat.add_eq]; omega))) (bn_Reading_at_number T.f_Reading_at_number) .nil (C8.pass0 (E := C8.E0))))) (pss_one
(ps_expr (pe_meth0 (pv 0) T.c_Reading T.m_Reading_wrong (ok_Reading_wrong T) (hr.mono (by first | decide | omega | (simp only [Nat.add_eq]; omega))) (b0_wrong T.f_Reading_wrong).choose_spec.2 (b0_wrong T.f_Reading_wrong).choose_spec.1 (passes_call rT (fun _ _ _ _ h => h))))) pss_nil)
(pss_one
(ps_ret (pe_callTy call_int_str (by rfl) T.b_int (by decide +kernel) (pa_cons (pe_meth0 (pv 0) T.c_Reading T.m_Reading_taken (ok_Reading_taken T) (hr.mono (by first | decide | omega | (simp only [Nat.add_eq]; omega))) (bn_Reading_taken T.f_Reading_taken) .nil (passes_call rT (fun _ _ _ _ h => h))) pa_nil))))), ?_⟩)
  · obtain ⟨r, gs, a, rfl, _⟩ := h
    rfl
  · obtain ⟨r, gs, a, rfl, R, hdg, h1, h2, h3⟩ := h
    obtain ⟨dx, tp, ow, hr, hgs, ho, hs, hn⟩ := id R
    refine ⟨_, rfl, r, dx, _, rfl, hr, rfl, r, gs, a, rfl, R, _, rfl, ?_⟩
    cases c1 : isNum (nowG gs a) with
    | false =>
      refine if_t rfl ?_
      exact ⟨_, rfl, r, dx, _, rfl, hr, rfl, r, gs, a, 4, rfl, R, h1 c1⟩
    | true =>
      refine if_f rfl ?_
      have hnn : nowG gs a ≠ [] := fun z => by
        rw [z] at c1
        cases c1
      refine ⟨_, rfl, r, dx, _, rfl, hr, rfl, r, gs, a, nowG gs a, rfl, R, now_some hnn, h2 c1, fun c2 H' e R' => ?_⟩
      have h4 := short4 c1 c2
      refine ⟨S (nowG gs a), _, rfl, intText_digits (by rw [S_cps]; exact hdg c1) (by rw [S_cps]; exact hnn) (by rw [S_len]; omega), by rw [S_len]; omega, ?_⟩
      rw [S_cps]
      exact h3 c1 c2 H' e R'
def sp_deeper (K : PySem.W.Frag) : Sp := fun vs H Q E => ∃ (r : Addr) (gs : List G) (a d : Nat), vs = [.ref r, .int d] ∧ RdS K H r gs a ∧ (d = 12 → ET K E (ExB r H) a (wy gs a 5)) ∧ (d ≠ 12 → Q (.int ((d + 1 : Nat) : Int)) H)
theorem ok_Reading_deeper (T : T P K mg) : FnOk P w K mg base (L2.CX P w) 3 (He.ma K (He.ga K "Reading") "deeper") (fdAt K d_Reading_deeper) ["self", "deep"] (sp_deeper K) := by
  refine FunD.ok T.f_Reading_deeper sc_Reading_deeper (fun vs H Q E h => ?_) (fun cdv A outer s H vs Q E hr h => ⟨_, (pss_cons
(ps_if (pt_cmpR op_eq (pv 1) (pk_int T.k_MOST_DEEP) (nomark _)) (pss_one
(ps_expr (pe_meth (pv 0) T.c_Reading T.m_Reading_wrong (ok_Reading_wrong T) (hr.mono (by first | decide | omega | (simp only [Nat.add_eq]; omega))) (b1_wrong T.f_Reading_wrong).choose_spec.2 (b1_wrong T.f_Reading_wrong).choose_spec.1 (passes_call rT (fun _ _ _ _ h => h)) (pa_cons pe_int pa_nil)))) pss_nil)
(pss_one
(ps_ret (pe_op op_add (pv 1) pe_int)))), ?_⟩)
  · obtain ⟨r, gs, a, d, rfl, _⟩ := h
    rfl
  · obtain ⟨r, gs, a, d, rfl, R, h1, h2⟩ := h
    obtain ⟨dx, tp, ow, hr, hgs, ho, hs, hn⟩ := id R
    refine ⟨_, rfl, rfl, _, rfl, ?_⟩
    by_cases c1 : d = 12
    · refine if_t (by rw [c1]; rfl) ?_
      exact ⟨_, rfl, r, dx, _, rfl, hr, rfl, r, gs, a, 5, rfl, R, h1 c1⟩
    · refine if_f (decide_eq_false fun z => c1 (by have z := V.int.inj z; omega)) ?_
      exact ⟨_, rfl, _, _, rfl, rfl, h2 c1⟩
def sp_at_end (K : PySem.W.Frag) : Sp := fun vs H Q E => ∃ (r : Addr) (gs : List G) (a : Nat), vs = [.ref r] ∧ RdS K H r gs a ∧ (a < gs.length → ET K E (ExB r H) a (wy gs a 4)) ∧ (¬ a < gs.length → Q .non H)
theorem ok_Reading_at_end (T : T P K mg) : FnOk P w K mg base (L2.CX P w) 3 (He.ma K (He.ga K "Reading") "at_end") (fdAt K d_Reading_at_end) ["self"] (sp_at_end K) := by
  refine FunD.ok T.f_Reading_at_end sc_Reading_at_end (fun vs H Q E h => ?_) (fun cdv A outer s H vs Q E hr h => ⟨_, (pss_one
(ps_if (pt_cmpR op_lt (pe_fld (pv 0) rfl) (pe_callB call_len_seq (by rfl) T.b_len (by decide +kernel) (pa_cons (pe_fld (pv 0) rfl) pa_nil)) (nomark _)) (pss_one
(ps_expr (pe_meth0 (pv 0) T.c_Reading T.m_Reading_wrong (ok_Reading_wrong T) (hr.mono (by first | decide | omega | (simp only [Nat.add_eq]; omega))) (b0_wrong T.f_Reading_wrong).choose_spec.2 (b0_wrong T.f_Reading_wrong).choose_spec.1 (passes_call rT (fun _ _ _ _ h => h))))) pss_nil)), ?_⟩)
  · obtain ⟨r, gs, a, rfl, _⟩ := h
    rfl
  · obtain ⟨r, gs, a, rfl, R, h1, h2⟩ := h
    obtain ⟨dx, tp, ow, hr, hgs, ho, hs, hn⟩ := id R
    refine ⟨_, rfl, r, _, dx, _, _, rfl, hr, T.c_Reading, T.a_Reading_at, rfl, ?_⟩
    refine ⟨_, rfl, r, _, dx, _, _, rfl, hr, T.c_Reading, T.a_Reading_groups, rfl, tp, _, rfl, .inr hgs, _, _, rfl, rfl, _, rfl, ?_⟩
    rw [List.length_map]
    refine if_b (fun c1 => ?_) fun c1 => ?_
    · have c1 := of_decide_eq_true c1
      exact ⟨_, rfl, r, dx, _, rfl, hr, rfl, r, gs, a, 4, rfl, R, h1 (by omega)⟩
    · have c1 := of_decide_eq_false c1
      exact h2 (by omega)
end K85

set_option Elab.async false
set_option linter.all false
set_option maxRecDepth 100000
set_option maxHeartbeats 2000000
namespace K85
open PySem PySem.Spec PyProof.Rows L2 LamX Ey
variable {P : Program} {w : World} {K : PySem.W.Frag} {mg : Str → Option Value} {base : Heap}
/-! ### a text cut -/
def CutG (K : PySem.W.Frag) (E : XK) (H : Hp) (ok : List G → Prop) (d : PyData) : Prop :=
  match d with
  | .str s => if s.length > 60000 then ET K E (Same H) (-1) 0 else
      match badFrom 0 s.cps.toList with
      | some i => ET K E (Same H) i 1
      | none => if (toks s.cps.toList).length > 4000 then ET K E (Same H) (-1) 2 else ok (toks s.cps.toList)
  | _ => ET K E (Same H) (-1) 0
theorem cutG_W {K : PySem.W.Frag} {E : XK} {H : Hp} {Q : VK} {d : PyData} (h : CutG K E H (fun gs => ∀ H' p, Same H H' → H' p = some (.tup (gs.map vS)) → Q (.ref p) H') d) : CutW K H Q E d := by
  cases d <;> exact h
theorem toks_ind {p : G → Prop} (l : G) (h0 : ∀ c, p [c]) (h1 : ∀ (c : Nat) (r : G), inB LET c = true → p (c :: r.takeWhile (inB LET))) (h2 : ∀ (c : Nat) (r : G), inB FIG c = true → p (c :: r.takeWhile (inB FIG))) : ∀ g ∈ toks l, p g := by
  induction hn : l.length using Nat.strongRecOn generalizing l with
  | ind n ih =>
    cases l with
    | nil =>
      intro g hg
      rw [toks_nil] at hg
      cases hg
    | cons c r =>
      intro g hg
      rw [toks_cons] at hg
      subst hn
      have d1 := (List.dropWhile_suffix (l := r) (inB LET)).length_le
      have d2 := (List.dropWhile_suffix (l := r) (inB FIG)).length_le
      split at hg
      · exact ih r.length (by simp) r rfl g hg
      · split at hg
        · rcases List.mem_cons.mp hg with rfl | hg
          · exact h1 c r ‹_›
          · exact ih (r.dropWhile (inB LET)).length (by simp only [List.length_cons]; omega) _ rfl g hg
        · split at hg
          · rcases List.mem_cons.mp hg with rfl | hg
            · exact h2 c r ‹_›
            · exact ih (r.dropWhile (inB FIG)).length (by simp only [List.length_cons]; omega) _ rfl g hg
          · rcases List.mem_cons.mp hg with rfl | hg
            · exact h0 c
            · exact ih r.length (by simp) r rfl g hg
theorem toks_len (l : G) : ∀ g ∈ toks l, g.length ≤ l.length := by
  induction hn : l.length using Nat.strongRecOn generalizing l with
  | ind n ih =>
    cases l with
    | nil =>
      intro g hg
      rw [toks_nil] at hg
      cases hg
    | cons c r =>
      intro g hg
      rw [toks_cons] at hg
      subst hn
      have d1 := (List.dropWhile_suffix (l := r) (inB LET)).length_le
      have d2 := (List.dropWhile_suffix (l := r) (inB FIG)).length_le
      have e1 := (List.takeWhile_prefix (l := r) (inB LET)).length_le
      have e2 := (List.takeWhile_prefix (l := r) (inB FIG)).length_le
      simp only [List.length_cons]
      split at hg
      · have z := ih r.length (by simp) r rfl g hg
        omega
      · split at hg
        · rcases List.mem_cons.mp hg with rfl | hg
          · simp only [List.length_cons]
            omega
          · have z := ih (r.dropWhile (inB LET)).length (by simp only [List.length_cons]; omega) _ rfl g hg
            omega
        · split at hg
          · rcases List.mem_cons.mp hg with rfl | hg
            · simp only [List.length_cons]
              omega
            · have z := ih (r.dropWhile (inB FIG)).length (by simp only [List.length_cons]; omega) _ rfl g hg
              omega
          · rcases List.mem_cons.mp hg with rfl | hg
            · simp
            · have z := ih r.length (by simp) r rfl g hg
              omega
theorem fig_dig {c : Nat} (h : inB FIG c = true) : 48 ≤ c ∧ c ≤ 57 := by
  have z : ∀ x ∈ FIG, 48 ≤ x ∧ x ≤ 57 := by decide +kernel
  exact z c (of_decide_eq_true h)
def Digs (gs : List G) : Prop := ∀ g ∈ gs, isNum g = true → NumText.AllDigits g
theorem takeWhile_all {α : Type} (p : α → Bool) : ∀ (l : List α) (x : α), x ∈ l.takeWhile p → p x = true
  | [], x, h => by cases h
  | a :: l, x, h => by
    rw [List.takeWhile_cons] at h
    split at h
    · rcases List.mem_cons.mp h with rfl | h
      · assumption
      · exact takeWhile_all p l x h
    · cases h
theorem toks_digs (l : G) : Digs (toks l) := toks_ind l (p := fun g => isNum g = true → NumText.AllDigits g)
  (fun c h x hx => by
    rw [List.mem_singleton.mp hx]
    exact fig_dig h)
  (fun c r hc h => by
    have h : inB FIG c = true := h
    have z : ∀ x ∈ LET, inB FIG x = false := by decide +kernel
    rw [z c (of_decide_eq_true hc)] at h
    cases h)
  (fun c r hc h x hx => by
    rcases List.mem_cons.mp hx with rfl | hx
    · exact fig_dig hc
    · exact fig_dig (takeWhile_all _ r x hx))
def sp_init (K : PySem.W.Frag) : Sp := fun vs H Q E => ∃ (r dx ow : Addr) (x : V) (d : PyData), vs = [.ref r, x, .ref ow] ∧ H r = some (.ins (He.ga K "Reading") dx []) ∧ SqT K H ow [] ∧ Dp K H x d ∧ (∀ s, d = .str s → s.length ≤ sizeLine) ∧
  CutG K E H (fun gs => ∀ H', ExB r H H' → RdS K H' r gs 0 → Q .non H') d
theorem ok_Reading___init__ (T : T P K mg) : FnOk P w K mg base (L2.CX P w) 5 (He.ma K (He.ga K "Reading") "__init__") (fdAt K d_Reading___init__) ["self", "text", "own"] (sp_init K) := by
  refine FunD.ok T.f_Reading___init__ sc_Reading___init__ (fun vs H Q E h => ?_) (fun cdv A outer s H vs Q E hr h => ⟨_, (pss_one
(ps_asg (pe_tup (pa_cons (pe_call (ok_cut_groups T) (hr.mono (by first | decide | omega | (simp only [Nat.add_eq]; omega))) rfl T.g_cut_groups T.f_cut_groups.kp (bn_cut_groups T.f_cut_groups) .nil (passes_call rT (fun _ _ _ _ h => h)) (pa_cons (pv 1) pa_nil)) (pa_cons pe_int (pa_cons (pv 2) pa_nil)))) (pg_tup rfl (pgs_cons (Ey.pg_fld (pv 0)) (pgs_cons (Ey.pg_fld (pv 0)) (pgs_cons (Ey.pg_fld (pv 0)) pgs_nil)))))), ?_⟩)
  · obtain ⟨r, dx, ow, x, d, rfl, _⟩ := h
    rfl
  · obtain ⟨r, dx, ow, x, d, rfl, hr, ho, hd, hsz, hC⟩ := h
    refine ⟨_, rfl, x, d, rfl, hd, hsz, cutG_W ?_⟩
    cases d with
    | str s =>
      show CutG K E H _ (.str s)
      unfold CutG at hC ⊢
      dsimp only at hC ⊢
      by_cases hl : s.length > 60000
      · rw [if_pos hl] at hC ⊢
        exact hC
      · rw [if_neg hl] at hC ⊢
        cases hb : badFrom 0 s.cps.toList with
        | some i =>
          rw [hb] at hC
          exact hC
        | none =>
          rw [hb] at hC
          dsimp only at hC ⊢
          by_cases hm : (toks s.cps.toList).length > 4000
          · rw [if_pos hm] at hC ⊢
            exact hC
          · rw [if_neg hm] at hC ⊢
            intro H1 p e1 hp
            refine ⟨_, rfl, ⟨by show 3 ≤ sizeLine; rw [sizeLine_eq]; decide, fun q nq => ?_⟩⟩
            have ho1 := SqT.ext e1 ho
            have hr1 := e1 _ _ hr
            have hp1 : SqT K H1 p ((toks s.cps.toList).map vS) := SqT.of hp
            have eq1 := upd_ext (o := .tup [.ref p, .int 0, .ref ow]) nq
            refine ⟨q, _, rfl, SqT.of upd_same, rfl, ?_⟩
            have h0 : upd H1 q (.tup [.ref p, .int 0, .ref ow]) r = some (.ins (He.ga K "Reading") dx []) := eq1 _ _ hr1
            refine ⟨_, _, rfl, _, rfl, r, _, dx, _, rfl, h0, T.c_Reading, T.a_Reading_groups, (by show 0 < 1000; decide), ?_⟩
            refine ⟨_, _, rfl, _, rfl, r, _, dx, _, rfl, upd_same, T.c_Reading, T.a_Reading_at, (by show 1 < 1000; decide), ?_⟩
            refine ⟨_, _, rfl, _, rfl, r, _, dx, _, rfl, upd_same, T.c_Reading, T.a_Reading_own, (by show 2 < 1000; decide), rfl, ?_⟩
            have tx : ∀ (o : HO) (Hx : Hp) (C : Addr) (fs : List (Str × V)), Hx r = some (.ins C dx fs) → TEx Hx (upd Hx r o) := fun o Hx C fs h => ExB.tex upd_exb (fun xs z => by rw [h] at z; cases z) fun o' xs z => by rw [h] at z; cases z
            refine hC _ ?_ ⟨dx, p, ow, upd_same, ?_, ?_, fun g hg => ?_, by omega⟩
            · exact ExB.trans (Same.exb r (Same.trans e1 eq1)) (ExB.trans upd_exb (ExB.trans upd_exb upd_exb))
            · exact SqT.tex (tx _ _ _ _ upd_same) (SqT.tex (tx _ _ _ _ upd_same) (SqT.tex (tx _ _ _ _ h0) (SqT.ext eq1 hp1)))
            · exact SqT.tex (tx _ _ _ _ upd_same) (SqT.tex (tx _ _ _ _ upd_same) (SqT.tex (tx _ _ _ _ h0) (SqT.ext eq1 ho1)))
            · have z := toks_len _ g hg
              have e : s.length = s.cps.toList.length := by simp [Str.length]
              omega
    | _ => exact hC
end K85

set_option Elab.async false
set_option linter.all false
set_option maxRecDepth 100000
set_option maxHeartbeats 2000000
namespace K85
open PySem PySem.Spec PyProof.Rows L2 LamX Ey
variable {P : Program} {w : World} {K : PySem.W.Frag} {mg : Str → Option Value} {base : Heap}
/-! ### what is read -/
inductive Res where
  | ok (d : PyData) (a : Nat)
  | err (a : Nat) (y : Int)
inductive Mode where
  | part (a deep : Nat)
  | seq (a deep : Nat) (told : List PyData)
  | after (a deep : Nat) (told : List PyData)
def word (g : G) : PyData := if g = cp "none" then .none else .str (S g)
inductive Pr (gs : List G) : Mode → Res → Prop
  | nameL {a deep} : isName (nowG gs a) = true → isLong (nowG gs a) = true → Pr gs (.part a deep) (.err a 3)
  | name {a deep} : isName (nowG gs a) = true → isLong (nowG gs a) = false → Pr gs (.part a deep) (.ok (word (nowG gs a)) (a + 1))
  | numL {a deep} : isNum (nowG gs a) = true → isLong (nowG gs a) = true → Pr gs (.part a deep) (.err a 3)
  | num {a deep} : isNum (nowG gs a) = true → isLong (nowG gs a) = false → Pr gs (.part a deep) (.ok (.int (valG (nowG gs a))) (a + 1))
  | negN {a deep} : nowG gs a = cp "-" → isNum (nowG gs (a + 1)) = false → Pr gs (.part a deep) (.err (a + 1) (wy gs (a + 1) 4))
  | negL {a deep} : nowG gs a = cp "-" → isNum (nowG gs (a + 1)) = true → isLong (nowG gs (a + 1)) = true → Pr gs (.part a deep) (.err (a + 1) 3)
  | neg {a deep} : nowG gs a = cp "-" → isNum (nowG gs (a + 1)) = true → isLong (nowG gs (a + 1)) = false → Pr gs (.part a deep) (.ok (.int (-valG (nowG gs (a + 1)))) (a + 2))
  | no {a deep} : isName (nowG gs a) = false → isNum (nowG gs a) = false → nowG gs a ≠ cp "-" → nowG gs a ≠ cp "(" → Pr gs (.part a deep) (.err a (wy gs a 4))
  | deep {a} : nowG gs a = cp "(" → Pr gs (.part a 12) (.err a 5)
  | nil {a deep} : nowG gs a = cp "(" → deep ≠ 12 → nowG gs (a + 1) = cp ")" → Pr gs (.part a deep) (.ok (.tuple []) (a + 2))
  | tup {a deep r} : nowG gs a = cp "(" → deep ≠ 12 → nowG gs (a + 1) ≠ cp ")" → Pr gs (.seq (a + 1) (deep + 1) []) r → Pr gs (.part a deep) r
  | sE {a deep told b y} : Pr gs (.part a deep) (.err b y) → Pr gs (.seq a deep told) (.err b y)
  | sO {a deep told d b r} : Pr gs (.part a deep) (.ok d b) → Pr gs (.after b deep (told ++ [d])) r → Pr gs (.seq a deep told) r
  | aC {a deep told r} : nowG gs a = cp "," → Pr gs (.seq (a + 1) deep told) r → Pr gs (.after a deep told) r
  | aE {a deep told} : nowG gs a = cp ")" → Pr gs (.after a deep told) (.ok (.tuple told) (a + 1))
  | aN {a deep told} : nowG gs a ≠ cp "," → nowG gs a ≠ cp ")" → Pr gs (.after a deep told) (.err a (wy gs a 4))
def posOf : Mode → Nat
  | .part a _ => a
  | .seq a _ _ => a
  | .after a _ _ => a
theorem Pr.gt {gs : List G} {m : Mode} {r : Res} (h : Pr gs m r) : ∀ d b, r = .ok d b → posOf m < b := by
  induction h with
  | nameL => intro d b e; cases e
  | name => intro d b e; cases e; exact Nat.lt_succ_self _
  | numL => intro d b e; cases e
  | num => intro d b e; cases e; exact Nat.lt_succ_self _
  | negN => intro d b e; cases e
  | negL => intro d b e; cases e
  | neg => intro d b e; cases e; show _ < _ + 2; simp [posOf]
  | no => intro d b e; cases e
  | deep => intro d b e; cases e
  | nil => intro d b e; cases e; show _ < _ + 2; simp [posOf]
  | tup _ _ _ _ ih => intro d b e; have z := ih d b e; simp only [posOf] at z ⊢; omega
  | sE => intro d b e; cases e
  | sO _ _ ih1 ih2 => intro d b e; have z1 := ih1 _ _ rfl; have z2 := ih2 d b e; simp only [posOf] at z1 z2 ⊢; omega
  | aC _ _ ih => intro d b e; have z := ih d b e; simp only [posOf] at z ⊢; omega
  | aE => intro d b e; cases e; exact Nat.lt_succ_self _
  | aN => intro d b e; cases e
theorem noL_word (g : G) : NoL (word g) := by
  unfold word
  split
  · exact .none
  · exact .str _
theorem Pr.noL {gs : List G} {m : Mode} {r : Res} (h : Pr gs m r) : ∀ d b, r = .ok d b → (match m with | .part _ _ => True | .seq _ _ t => ∀ x ∈ t, NoL x | .after _ _ t => ∀ x ∈ t, NoL x) → NoL d := by
  induction h with
  | nameL => intro d b e; cases e
  | name => intro d b e _; cases e; exact noL_word _
  | numL => intro d b e; cases e
  | num => intro d b e _; cases e; exact .int _
  | negN => intro d b e; cases e
  | negL => intro d b e; cases e
  | neg => intro d b e _; cases e; exact .int _
  | no => intro d b e; cases e
  | deep => intro d b e; cases e
  | nil => intro d b e _; cases e; exact .tuple (fun _ h => by cases h)
  | tup _ _ _ _ ih => intro d b e _; exact ih d b e (fun _ h => by cases h)
  | sE => intro d b e; cases e
  | sO _ _ ih1 ih2 =>
    intro d b e ht
    exact ih2 d b e (fun x hx => by
      rcases List.mem_append.mp hx with hx | hx
      · exact ht x hx
      · rw [List.mem_singleton.mp hx]
        exact ih1 _ _ rfl True.intro)
  | aC _ _ ih => intro d b e ht; exact ih d b e ht
  | aE => intro d b e ht; cases e; exact .tuple ht
  | aN => intro d b e; cases e
theorem Pr.noLp {gs : List G} {a deep b : Nat} {d : PyData} (h : Pr gs (.part a deep) (.ok d b)) : NoL d := h.noL d b rfl True.intro
/-- what follows from a result -/
def OutR (K : PySem.W.Frag) (H : Hp) (r : Addr) (gs : List G) (Q : VK) (E : XK) : Res → Prop
  | .ok d b => ∀ v H', ExB r H H' → RdS K H' r gs b → Dp K H' v d → Q v H'
  | .err b y => ET K E (ExB r H) b y
theorem OutR.up {H H1 : Hp} {r : Addr} {gs : List G} {Q : VK} {E : XK} {x : Res} (h : OutR K H r gs Q E x) (e : ExB r H H1) : OutR K H1 r gs Q E x := by
  cases x with
  | ok d b => exact fun v H' e' => h v H' (e.trans e')
  | err b y => exact ET.up h e
def sp_read_part (K : PySem.W.Frag) (n : Nat) : Sp := fun vs H Q E => ∃ (r : Addr) (gs : List G) (a deep : Nat), vs = [.ref r, .int deep] ∧ RdS K H r gs a ∧ Digs gs ∧ deep ≤ 12 ∧ 13 ≤ deep + n ∧ ∀ res, Pr gs (.part a deep) res → OutR K H r gs Q E res
theorem digs_now {gs : List G} (h : Digs gs) (a : Nat) : isNum (nowG gs a) = true → NumText.AllDigits (nowG gs a) := fun z => by
  have hnn : nowG gs a ≠ [] := fun q => by
    rw [q] at z
    cases z
  exact h _ (List.mem_of_getElem? (now_some hnn)) z
theorem ExB.over {H H1 H2 : Hp} {r l : Addr} {o : HO} (e1 : ExB r H H1) (nl : H1 l = none) (e2 : ExB r H H2) : ExB r H (upd H2 l o) := fun b u n hb => by
  have n : b ≠ l := fun z => by
    have q := e1 b u n hb
    rw [z, nl] at q
    cases q
  rw [upd_ne n]
  exact e2 b u ‹_› hb
theorem RdS.over {H : Hp} {r l : Addr} {gs : List G} {a : Nat} {o : HO} {vs : List V} (h : RdS K H r gs a) (n : r ≠ l) (hl : H l = some (.lst vs)) : RdS K (upd H l o) r gs a := by
  obtain ⟨dx, tp, ow, h1, h2, h3, h4, h5⟩ := h
  have e : TEx H (upd H l o) := ExB.tex upd_exb (fun xs z => by rw [hl] at z; cases z) fun o xs z => by rw [hl] at z; cases z
  exact ⟨dx, tp, ow, by rw [upd_ne n]; exact h1, SqT.tex e h2, SqT.tex e h3, h4, h5⟩
theorem RdS.tex {H H' : Hp} {r : Addr} {gs : List G} {a : Nat} (h : RdS K H r gs a) (e : ExB r H H') : TEx H H' := by
  obtain ⟨dx, tp, ow, h1, _⟩ := h
  exact ExB.tex e (fun xs z => by rw [h1] at z; cases z) fun o xs z => by rw [h1] at z; cases z
theorem lst_tex {H : Hp} {l : Addr} {vs : List V} {o : HO} (hl : H l = some (.lst vs)) : TEx H (upd H l o) := ExB.tex upd_exb (fun xs z => by rw [hl] at z; cases z) fun o xs z => by rw [hl] at z; cases z
theorem tup1 {H : Hp} {p : Addr} (s : String) : SqT K (upd H p (.tup [.str (Str.ofString s)])) p ([cp s].map vS) := by
  rw [of_cp]
  exact SqT.of upd_same
theorem one_line : 1 ≤ sizeLine := by
  rw [sizeLine_eq]
  decide
theorem has1 (g x : G) : [x].contains g = decide (g = x) := by
  rw [Bool.eq_iff_iff]
  simp
theorem ok_read_part (T : T P K mg) : ∀ n : Nat, FnOk P w K mg base (L2.CX P w) (6 + n) (He.ga K "read_part") (fdAt K d_read_part) ["reading", "deep"] (sp_read_part K n)
  | 0 => by
    refine ⟨fun vs H Q E h => ?_, fun A outer s H args us vs Q E hr e0 hb hv h => ?_⟩
    · obtain ⟨r, gs, a, deep, rfl, _⟩ := h
      rfl
    · obtain ⟨r, gs, a, deep, _, _, _, h1, h2, _⟩ := h
      omega
  | n + 1 => by
    have ok_read_part := fun (_ : K85.T P K mg) => ok_read_part T n
    refine FunD.ok T.f_read_part sc_read_part (fun vs H Q E h => ?_) (fun cdv A outer s H vs Q E hr h => ⟨_, (pss_cons
(ps_if (pt_val (pe_meth0 (pv 0) T.c_Reading T.m_Reading_at_name (ok_Reading_at_name T) (hr.mono (by first | decide | omega | (simp only [Nat.add_eq]; omega))) (bn_Reading_at_name T.f_Reading_at_name) .nil (C8.pass0 (E := C8.E0)))) (pss_cons
(ps_set (i := 2) sc_read_part.nd rfl (.inl rfl) (pe_meth0 (pv 0) T.c_Reading T.m_Reading_name (ok_Reading_name T) (hr.mono (by first | decide | omega | (simp only [Nat.add_eq]; omega))) (bn_Reading_name T.f_Reading_name) .nil (passes_call rT (fun _ _ _ _ h => h))))
(pss_one
(ps_ret (pe_ifExp (pt_cmpR op_eq (pv 2) (pk_str T.k_NO_THING) (nomark _)) pe_non (pv 2))))) pss_nil)
(pss_cons
(ps_if (pt_val (pe_meth0 (pv 0) T.c_Reading T.m_Reading_at_number (ok_Reading_at_number T) (hr.mono (by first | decide | omega | (simp only [Nat.add_eq]; omega))) (bn_Reading_at_number T.f_Reading_at_number) .nil (C8.pass0 (E := C8.E0)))) (pss_one
(ps_ret (pe_meth0 (pv 0) T.c_Reading T.m_Reading_number (ok_Reading_number T) (hr.mono (by first | decide | omega | (simp only [Nat.add_eq]; omega))) (bn_Reading_number T.f_Reading_number) .nil (passes_call rT (fun _ _ _ _ h => h))))) pss_nil)
(pss_cons
(ps_if (pt_val (pe_meth (pv 0) T.c_Reading T.m_Reading_passes (ok_Reading_passes T) (hr.mono (by first | decide | omega | (simp only [Nat.add_eq]; omega))) (bn_Reading_passes T.f_Reading_passes) .nil (C8.pass0 (E := C8.E0)) (pa_cons (pe_tup (pa_cons pe_str pa_nil)) pa_nil))) (pss_one
(ps_ret (pe_un un_neg (pe_meth0 (pv 0) T.c_Reading T.m_Reading_number (ok_Reading_number T) (hr.mono (by first | decide | omega | (simp only [Nat.add_eq]; omega))) (bn_Reading_number T.f_Reading_number) .nil (passes_call rT (fun _ _ _ _ h => h)))))) pss_nil)
(pss_cons
(ps_if (pt_not (pt_val (pe_meth (pv 0) T.c_Reading T.m_Reading_begins (ok_Reading_begins T) (hr.mono (by first | decide | omega | (simp only [Nat.add_eq]; omega))) (bn_Reading_begins T.f_Reading_begins) .nil (C8.pass0 (E := C8.E0)) (pa_cons (pe_tup (pa_cons pe_str pa_nil)) pa_nil)))) (pss_one
(ps_expr (pe_meth0 (pv 0) T.c_Reading T.m_Reading_wrong (ok_Reading_wrong T) (hr.mono (by first | decide | omega | (simp only [Nat.add_eq]; omega))) (b0_wrong T.f_Reading_wrong).choose_spec.2 (b0_wrong T.f_Reading_wrong).choose_spec.1 (passes_call rT (fun _ _ _ _ h => h))))) pss_nil)
(pss_cons
(ps_set (i := 3) sc_read_part.nd rfl (.inl rfl) (pe_meth (pv 0) T.c_Reading T.m_Reading_deeper (ok_Reading_deeper T) (hr.mono (by first | decide | omega | (simp only [Nat.add_eq]; omega))) (bn_Reading_deeper T.f_Reading_deeper) .nil (passes_call rT (fun _ _ _ _ h => h)) (pa_cons (pv 1) pa_nil)))
(pss_cons
(ps_expr (pe_meth0 (pv 0) T.c_Reading T.m_Reading_taken (ok_Reading_taken T) (hr.mono (by first | decide | omega | (simp only [Nat.add_eq]; omega))) (bn_Reading_taken T.f_Reading_taken) .nil (passes_call rT (fun _ _ _ _ h => h))))
(pss_cons
(ps_set (i := 4) sc_read_part.nd rfl (.inl rfl) (pe_lst pa_nil))
(pss_cons
(ps_if (pt_not (pt_val (pe_meth (pv 0) T.c_Reading T.m_Reading_begins (ok_Reading_begins T) (hr.mono (by first | decide | omega | (simp only [Nat.add_eq]; omega))) (bn_Reading_begins T.f_Reading_begins) .nil (C8.pass0 (E := C8.E0)) (pa_cons (pe_tup (pa_cons pe_str pa_nil)) pa_nil)))) (pss_cons
(ps_expr (pe_bm PySem.F.plainAttrs_list PySem.F.slot_list_append PySem.F.type_list_append mt_append (pv 4) (pa_cons (pe_call (ok_read_part T) (hr.mono (by first | decide | omega | (simp only [Nat.add_eq]; omega))) rfl T.g_read_part T.f_read_part.kp (bn_read_part T.f_read_part) .nil (passes_call rT (fun _ _ _ _ h => h)) (pa_cons (pv 0) (pa_cons (pv 3) pa_nil))) pa_nil)))
(pss_one
(ps_while (passes_of rfl) (pt_val (pe_meth (pv 0) T.c_Reading T.m_Reading_passes (ok_Reading_passes T) (hr.mono (by first | decide | omega | (simp only [Nat.add_eq]; omega))) (bn_Reading_passes T.f_Reading_passes) .nil (C8.pass0 (E := C8.E0)) (pa_cons (pe_tup (pa_cons pe_str pa_nil)) pa_nil))) (pss_one
(ps_expr (pe_bm PySem.F.plainAttrs_list PySem.F.slot_list_append PySem.F.type_list_append mt_append (pv 4) (pa_cons (pe_call (ok_read_part T) (hr.mono (by first | decide | omega | (simp only [Nat.add_eq]; omega))) rfl T.g_read_part T.f_read_part.kp (bn_read_part T.f_read_part) .nil (passes_call rT (fun _ _ _ _ h => h)) (pa_cons (pv 0) (pa_cons (pv 3) pa_nil))) pa_nil))))))) pss_nil)
(pss_cons
(ps_expr (pe_meth (pv 0) T.c_Reading T.m_Reading_took (ok_Reading_took T) (hr.mono (by first | decide | omega | (simp only [Nat.add_eq]; omega))) (bn_Reading_took T.f_Reading_took) .nil (passes_call rT (fun _ _ _ _ h => h)) (pa_cons (pe_tup (pa_cons pe_str pa_nil)) pa_nil)))
(pss_one
(ps_ret (pe_callTy call_tuple_of (by rfl) T.b_tuple (by decide +kernel) (pa_cons (pv 4) pa_nil))))))))))))), ?_⟩)
    · obtain ⟨r, gs, a, deep, rfl, _⟩ := h
      rfl
    · obtain ⟨r, gs, a, deep, rfl, R, hdg, hd1, hd2, hO⟩ := h
      obtain ⟨dx, tp, ow, hr0, hgs, ho, hs, hn⟩ := id R
      refine ⟨_, rfl, r, dx, _, rfl, hr0, rfl, r, gs, a, rfl, R, _, rfl, ?_⟩
      cases c1 : isName (nowG gs a) with
      | true =>
        refine if_t rfl ?_
        refine ⟨_, rfl, r, dx, _, rfl, hr0, rfl, r, gs, a, rfl, R, c1, fun c2 => ?_, fun c2 H1 e1 R1 => ?_⟩
        · exact hO _ (.nameL c1 c2)
        · have z := hO _ (.name c1 c2)
          refine ⟨_, rfl, rfl, _, rfl, ?_⟩
          rw [show Str.ofString "none" = S (cp "none") from of_cp _, dec_vS]
          refine if_b (fun c3 => ?_) fun c3 => ?_
          · have c3 := of_decide_eq_true c3
            refine z _ _ e1 R1 ?_
            unfold word
            rw [if_pos c3]
            exact .non
          · have c3 := of_decide_eq_false c3
            refine ⟨_, rfl, z _ _ e1 R1 ?_⟩
            unfold word
            rw [if_neg c3]
            exact .str _
      | false =>
        refine if_f rfl ?_
        refine ⟨_, rfl, r, dx, _, rfl, hr0, rfl, r, gs, a, rfl, R, _, rfl, ?_⟩
        cases c2 : isNum (nowG gs a) with
        | true =>
          refine if_t rfl ?_
          refine ⟨_, rfl, r, dx, _, rfl, hr0, rfl, r, gs, a, rfl, R, digs_now hdg a, fun z => absurd z (by rw [c2]; simp), fun _ c3 => hO _ (.numL c2 c3), fun _ c3 H1 e1 R1 => ?_⟩
          exact hO _ (.num c2 c3) _ _ e1 R1 (.int _)
        | false =>
          refine if_f rfl ?_
          refine ⟨_, rfl, r, dx, _, rfl, hr0, rfl, one_line, fun p np => ?_⟩
          have e1 := upd_ext (o := .tup [.str (Str.ofString "-")]) np
          have R1 := R.ext e1
          have b1 := Same.exb r e1
          refine ⟨r, p, gs, [cp "-"], a, rfl, R1, tup1 "-", fun c3 => ?_, fun c3 H2 e2 R2 => ?_⟩
          rotate_left
          · -- a minus
            rw [has1] at c3
            have c3 := of_decide_eq_true c3
            refine ⟨_, rfl, if_t rfl ?_⟩
            obtain ⟨dx2, tp2, ow2, hr2, _⟩ := id R2
            have b2 := ExB.trans b1 e2
            refine ⟨_, rfl, r, dx2, _, rfl, hr2, rfl, r, gs, a + 1, rfl, R2, digs_now hdg _, fun c4 => ?_, fun c4 c5 => ?_, fun c4 c5 H3 e3 R3 => ?_⟩
            · exact (hO _ (.negN c3 c4)).up b2
            · exact (hO _ (.negL c3 c4 c5)).up b2
            · exact ⟨_, rfl, hO _ (.neg c3 c4 c5) _ _ (ExB.trans b2 e3) R3 (.int _)⟩
          rw [has1] at c3
          have c3 := of_decide_eq_false c3
          refine ⟨_, rfl, if_f rfl ?_⟩
          obtain ⟨dx1, tp1, ow1, hr1, _⟩ := id R1
          refine ⟨_, rfl, r, dx1, _, rfl, hr1, rfl, one_line, fun p2 np2 => ?_⟩
          have e2 := upd_ext (o := .tup [.str (Str.ofString "(")]) np2
          have R2 := R1.ext e2
          have b2 := ExB.trans b1 (Same.exb r e2)
          refine ⟨r, p2, gs, [cp "("], a, rfl, R2, tup1 "(", _, rfl, ?_⟩
          rw [has1]
          obtain ⟨dx2, tp2, ow2, hr2, _⟩ := id R2
          by_cases c4 : nowG gs a = cp "("
          rotate_left
          · refine if_t (by rw [decide_eq_false c4]; rfl) ?_
            exact ⟨_, rfl, r, dx2, _, rfl, hr2, rfl, r, gs, a, 4, rfl, R2, ET.up (hO _ (.no c1 c2 c3 c4)) b2⟩
          refine if_f (by rw [decide_eq_true c4]; rfl) ?_
          have hnl : isLong (cp "(") = false := by decide +kernel
          have hne : cp "(" ≠ [] := by decide +kernel
          have hx : gs[a]? = some (cp "(") := by
            rw [← c4]
            exact now_some (by rw [c4]; exact hne)
          refine ⟨_, rfl, r, dx2, _, rfl, hr2, rfl, _, rfl, r, gs, a, deep, rfl, R2, fun c5 => ?_, fun c5 => ?_⟩
          · have z := hO (.err a 5) (by rw [c5]; exact .deep c4)
            have q : wy gs a 5 = 5 := by
              unfold wy
              rw [c4, hnl]
              rfl
            rw [q]
            exact ET.up z b2
          refine ⟨_, rfl, r, dx2, _, rfl, hr2, rfl, r, gs, a, cp "(", rfl, R2, hx, fun z => absurd z (by rw [hnl]; simp), fun _ H3 e3 R3 => ?_⟩
          have b3 := ExB.trans b2 e3
          refine ⟨Nat.zero_le _, fun l nl => ?_⟩
          have e4 := upd_ext (o := .lst []) nl
          have R4 := R3.ext e4
          have b4 := ExB.trans b3 (Same.exb r e4)
          obtain ⟨dx4, tp4, ow4, hr4, _⟩ := id R4
          have nlr : l ≠ r := fun z => by
            obtain ⟨_, _, _, z3, _⟩ := id R3
            rw [← z, nl] at z3
            cases z3
          have hl4 : upd H3 l (.lst []) l = some (.lst []) := upd_same
          -- is it empty?
          refine ⟨_, rfl, r, dx4, _, rfl, hr4, rfl, one_line, fun p5 np5 => ?_⟩
          have e5 := upd_ext (o := .tup [.str (Str.ofString ")")]) np5
          have R5 := R4.ext e5
          have b5 := ExB.trans b4 (Same.exb r e5)
          have hl5 := e5 l _ hl4
          obtain ⟨dx5, tp5, ow5, hr5, _⟩ := id R5
          refine ⟨r, p5, gs, [cp ")"], a + 1, rfl, R5, tup1 ")", _, rfl, ?_⟩
          rw [has1]
          have cl1 : isLong (cp ")") = false := by decide +kernel
          have cl2 : cp ")" ≠ [] := by decide +kernel
          have cl3 : cp ")" ≠ cp "," := by decide +kernel
          by_cases c6 : nowG gs (a + 1) = cp ")"
          · refine if_f (by rw [decide_eq_true c6]; rfl) ?_
            refine ⟨_, rfl, r, dx5, _, rfl, hr5, rfl, one_line, fun p6 np6 => ?_⟩
            have e6 := upd_ext (o := .tup [.str (Str.ofString ")")]) np6
            have R6 := R5.ext e6
            have b6 := ExB.trans b5 (Same.exb r e6)
            have hl6 := e6 l _ hl5
            refine ⟨r, p6, gs, [cp ")"], a + 1, rfl, R6, tup1 ")", fun z => cl2 (List.mem_singleton.mp z).symm, fun g hg => by rw [List.mem_singleton.mp hg]; exact cl1, fun z => absurd z (by rw [has1, decide_eq_true c6]; simp), fun _ H7 e7 R7 => ?_⟩
            have hl7 := e7 l _ nlr hl6
            refine ⟨_, rfl, l, _, rfl, .inl ⟨SqL.of hl7, fun t nt => ?_⟩⟩
            have e8 := upd_ext (o := .tup []) nt
            exact hO _ (.nil c4 c5 c6) _ _ (ExB.trans (ExB.trans b6 e7) (Same.exb r e8)) (R7.ext e8) (.tup (SqT.of upd_same) .nil)
          refine if_t (by rw [decide_eq_false c6]; rfl) ?_
          have hS : ∀ res, Pr gs (.seq (a + 1) (deep + 1) []) res → OutR K H r gs Q E res := fun res h => hO res (.tup c4 c5 c6 h)
          have alt : a < gs.length := (List.getElem?_eq_some_iff.mp hx).1
          -- the first part
          refine ⟨_, rfl, .inl ⟨rfl, _, SqL.of hl5⟩, _, rfl, _, rfl, r, gs, a + 1, deep + 1, rfl, R5, hdg, by omega, by omega, fun res hres => ?_⟩
          cases res with
          | err b y => exact ET.up (hS _ (.sE hres)) b5
          | ok d b =>
          intro v H6 e6 R6 hv
          have hl6 := e6 l _ nlr hl5
          refine ⟨l, _, _, rfl, rfl, hl6, by show 0 < sizeLine; rw [sizeLine_eq]; decide, ?_⟩
          have hb6 := ExB.trans b5 e6
          refine ⟨fun m σ Hc => ∃ (b : Nat) (ds : List PyData) (vs : List V), m = gs.length - b ∧ vs.length ≤ b ∧ σ = [some (.ref r), some (.int deep), none, some (.int ((deep + 1 : Nat) : Int)), some (.ref l)] ∧ ExB r H Hc ∧ RdS K Hc r gs b ∧ Hc l = some (.lst vs) ∧ DpAll K Hc vs ds ∧ (∀ d ∈ ds, NoL d) ∧ (∀ res, Pr gs (.after b (deep + 1) ds) res → OutR K H r gs Q E res),
            ⟨_, b, [d], [] ++ [v], rfl, ?_, rfl, ExB.over b3 nl hb6, R6.over (Ne.symm nlr) hl6, upd_same, .cons (Dp.tex (lst_tex hl6) _ _ hres.noLp hv) .nil, fun x hx => by rw [List.mem_singleton.mp hx]; exact hres.noLp, fun res h => hS res (.sO hres h)⟩, ?_⟩
          · have z := hres.gt _ _ rfl
            simp only [posOf] at z
            simp only [List.nil_append, List.length_singleton]
            omega
          rintro m σ Hc ⟨b, ds, vs, rfl, hvb, rfl, bc, Rc, hlc, hds, hnl, hA⟩
          obtain ⟨dxc, tpc, owc, hrc, _⟩ := id Rc
          refine ⟨_, rfl, r, dxc, _, rfl, hrc, rfl, one_line, fun p7 np7 => ?_⟩
          have e7 := upd_ext (o := .tup [.str (Str.ofString ",")]) np7
          have R7 := Rc.ext e7
          have b7 := ExB.trans bc (Same.exb r e7)
          have hl7 := e7 l _ hlc
          refine ⟨r, p7, gs, [cp ","], b, rfl, R7, tup1 ",", fun c7 => ?_, fun c7 H8 e8 R8 => ?_⟩
          · -- no comma
            rw [has1] at c7
            have c7 := of_decide_eq_false c7
            refine ⟨_, rfl, if_f rfl ?_⟩
            obtain ⟨dx7, tp7, ow7, hr7, _⟩ := id R7
            refine ⟨_, rfl, r, dx7, _, rfl, hr7, rfl, one_line, fun p8 np8 => ?_⟩
            have e8 := upd_ext (o := .tup [.str (Str.ofString ")")]) np8
            have R8 := R7.ext e8
            have b8 := ExB.trans b7 (Same.exb r e8)
            have hl8 := e8 l _ hl7
            refine ⟨r, p8, gs, [cp ")"], b, rfl, R8, tup1 ")", fun z => cl2 (List.mem_singleton.mp z).symm, fun g hg => by rw [List.mem_singleton.mp hg]; exact cl1, fun z => ?_, fun z H9 e9 R9 => ?_⟩
            · rw [has1] at z
              exact ET.up (hA _ (.aN c7 (of_decide_eq_false z))) b8
            · rw [has1] at z
              have z := of_decide_eq_true z
              have hl9 := e9 l _ nlr hl8
              refine ⟨_, rfl, l, _, rfl, .inl ⟨SqL.of hl9, fun t nt => ?_⟩⟩
              have e10 := upd_ext (o := .tup vs) nt
              refine hA _ (.aE z) _ _ (ExB.trans (ExB.trans b8 e9) (Same.exb r e10)) (R9.ext e10) (.tup (SqT.of upd_same) ?_)
              refine Dp.extAll e10 _ _ (Dp.texAll (R8.tex e9) _ _ hnl (Dp.extAll e8 _ _ (Dp.extAll e7 _ _ hds)))
          · -- a comma
            rw [has1] at c7
            have c7 := of_decide_eq_true c7
            refine ⟨_, rfl, if_t rfl ?_⟩
            have hbl : b < gs.length := (List.getElem?_eq_some_iff.mp (now_some (by rw [c7]; decide +kernel))).1
            have hl8 := e8 l _ nlr hl7
            have b8 := ExB.trans b7 e8
            have hS : ∀ res, Pr gs (.seq (b + 1) (deep + 1) ds) res → OutR K H r gs Q E res := fun res h => hA res (.aC c7 h)
            refine ⟨_, fun σ' H'' q => q, ?_⟩
            refine ⟨_, rfl, .inl ⟨rfl, _, SqL.of hl8⟩, _, rfl, _, rfl, r, gs, b + 1, deep + 1, rfl, R8, hdg, by omega, by omega, fun res hres => ?_⟩
            cases res with
            | err b y => exact ET.up (hS _ (.sE hres)) b8
            | ok d b' =>
            intro v H9 e9 R9 hv
            have hl9 := e9 l _ nlr hl8
            have zgt := hres.gt _ _ rfl
            simp only [posOf] at zgt
            refine ⟨l, _, _, rfl, rfl, hl9, by rw [sizeLine_eq]; omega, ?_⟩
            refine ⟨_, ?_, b', ds ++ [d], vs ++ [v], rfl, ?_, rfl, ExB.over b3 nl (ExB.trans b8 e9), R9.over (Ne.symm nlr) hl9, upd_same, ?_, ?_, fun res h => hS res (.sO hres h)⟩
            · omega
            · rw [List.length_append, List.length_singleton]
              omega
            · have t8 := Dp.texAll (R7.tex e8) _ _ hnl (Dp.extAll e7 _ _ hds)
              have t9 := Dp.texAll (R8.tex e9) _ _ hnl t8
              exact DpAll.append (Dp.texAll (lst_tex hl9) _ _ hnl t9) (.cons (Dp.tex (lst_tex hl9) _ _ hres.noLp hv) .nil)
            · intro x hx
              rcases List.mem_append.mp hx with hx | hx
              · exact hnl x hx
              · rw [List.mem_singleton.mp hx]
                exact hres.noLp
end K85

set_option Elab.async false
set_option linter.all false
set_option maxRecDepth 100000
set_option maxHeartbeats 2000000
namespace K85
open PySem PySem.Spec PyProof.Rows L2 LamX Ey
variable {P : Program} {w : World} {K : PySem.W.Frag} {mg : Str → Option Value} {base : Heap}
/-! ### read_thing -/
theorem ET.upN {E : XK} {H H1 : Hp} {a y : Int} (h : ET K E (Same H) a y) (e : Same H H1) : ET K E (Same H1) a y := fun H' dd e' hd => h H' dd (Same.trans e e') hd
theorem CutG.imp {E : XK} {H H1 : Hp} {ok ok' : List G → Prop} {d : PyData} (e : Same H H1) (h : ∀ t, d = .str (S t) → (toks t).length ≤ 4000 → ok (toks t) → ok' (toks t)) (c : CutG K E H ok d) : CutG K E H1 ok' d := by
  cases d with
  | str s =>
    unfold CutG at c ⊢
    dsimp only at c ⊢
    split at c
    · rw [if_pos ‹_›]
      exact c.upN e
    · rw [if_neg ‹_›]
      split at c
      · rename_i i hi
        exact c.upN e
      · rename_i hi
        split at c
        · rw [if_pos ‹_›]
          exact c.upN e
        · rw [if_neg ‹_›]
          exact h s.cps.toList (by rw [S_self]) (by omega) c
  | _ => exact ET.upN c e
def Whole (gs : List G) (res : Res) : Prop :=
  (∃ b y, Pr gs (.part 0 0) (.err b y) ∧ res = .err b y) ∨ (∃ d b, Pr gs (.part 0 0) (.ok d b) ∧ b < gs.length ∧ res = .err b (wy gs b 4)) ∨ ∃ d b, Pr gs (.part 0 0) (.ok d b) ∧ ¬ b < gs.length ∧ res = .ok d b
def OutT (K : PySem.W.Frag) (H : Hp) (Q : VK) (E : XK) : Res → Prop
  | .ok d _ => ∀ v H', Same H H' → Dp K H' v d → Q v H'
  | .err b y => ET K E (Same H) b y
def sp_read_thing (K : PySem.W.Frag) : Sp := fun vs H Q E => ∃ x d, vs = [x] ∧ Dp K H x d ∧ (∀ s, d = .str s → s.length ≤ sizeLine) ∧ CutG K E H (fun gs => ∀ res, Whole gs res → OutT K H Q E res) d
theorem ok_read_thing (T : T P K mg) : FnOk P w K mg base (L2.CX P w) 20 (He.ga K "read_thing") (fdAt K d_read_thing) ["text"] (sp_read_thing K) := by
  have ok_read_part := fun (T : K85.T P K mg) => ok_read_part (w := w) (base := base) T 13
  refine FunD.ok T.f_read_thing sc_read_thing (fun vs H Q E h => ?_) (fun cdv A outer s H vs Q E hr h => ⟨_, (pss_cons
(ps_set (i := 1) sc_read_thing.nd rfl (.inl rfl) (pe_make T.m_Reading (ok_Reading___init__ T) (hr.mono (by first | decide | omega | (simp only [Nat.add_eq]; omega))) rfl T.g_Reading (bn_Reading___init__ T.f_Reading___init__) .nil (passes_call rT (fun _ _ _ _ h => h)) (pa_cons (pv 0) (pa_cons (pe_tup pa_nil) pa_nil))))
(pss_cons
(ps_set (i := 2) sc_read_thing.nd rfl (.inl rfl) (pe_call (ok_read_part T) (hr.mono (by first | decide | omega | (simp only [Nat.add_eq]; omega))) rfl T.g_read_part T.f_read_part.kp (bn_read_part T.f_read_part) .nil (passes_call rT (fun _ _ _ _ h => h)) (pa_cons (pv 1) (pa_cons pe_int pa_nil))))
(pss_cons
(ps_expr (pe_meth0 (pv 1) T.c_Reading T.m_Reading_at_end (ok_Reading_at_end T) (hr.mono (by first | decide | omega | (simp only [Nat.add_eq]; omega))) (bn_Reading_at_end T.f_Reading_at_end) .nil (passes_call rT (fun _ _ _ _ h => h))))
(pss_one
(ps_ret (pv 2)))))), ?_⟩)
  · obtain ⟨x, d, rfl, _⟩ := h
    rfl
  · obtain ⟨x, d, rfl, hd, hsz, hC⟩ := h
    refine ⟨_, rfl, Nat.zero_le _, fun ow now r dx nr ndx ne => ?_⟩
    have e0 := upd_ext (o := .tup []) now
    have e1 : Same H (upd (upd (upd H ow (.tup [])) dx (.own r)) r (.ins (He.ga K "Reading") dx [])) := fun b o hb => by
      have q := e0 b o hb
      rw [upd_ne (ne_of_none q nr), upd_ne (ne_of_none q ndx)]
      exact q
    have hr : upd (upd (upd H ow (.tup [])) dx (.own r)) r (.ins (He.ga K "Reading") dx []) r = some (.ins (He.ga K "Reading") dx []) := upd_same
    have over : ∀ H3, ExB r (upd (upd (upd H ow (.tup [])) dx (.own r)) r (.ins (He.ga K "Reading") dx [])) H3 → Same H H3 := fun H3 e b o hb => by
      have q := e0 b o hb
      exact e b o (ne_of_none q nr) (e1 b o hb)
    have ho : SqT K (upd (upd (upd H ow (.tup [])) dx (.own r)) r (.ins (He.ga K "Reading") dx [])) ow [] := by
      refine SqT.of ?_
      have q : upd H ow (.tup []) ow = some (.tup []) := upd_same
      rw [upd_ne (ne_of_none q nr), upd_ne (ne_of_none q ndx)]
      exact q
    refine ⟨r, dx, ow, x, d, rfl, hr, ho, Dp.ext e1 _ _ hd, hsz, CutG.imp e1 (fun t ht hm ok H2 b2 R2 => ⟨rfl, ?_⟩) hC⟩
    have e2 := over _ b2
    have hnl : ∀ {H3 b y}, ExB r H2 H3 → Whole (toks t) (.err b y) → ET K E (ExB r H3) b y := fun b3 hw => by
      have z := ok _ hw
      exact fun H' dd e' hd => z H' dd (over _ (ExB.trans b2 (ExB.trans b3 e'))) hd
    refine ⟨_, rfl, r, toks t, 0, 0, rfl, R2, toks_digs t, by omega, by omega, fun res hres => ?_⟩
    cases res with
    | err b y => exact hnl (ExB.refl r H2) (.inl ⟨b, y, hres, rfl⟩)
    | ok d b =>
    intro v H3 b3 R3 hv
    obtain ⟨dx3, tp3, ow3, hr3, _⟩ := id R3
    refine ⟨_, rfl, r, dx3, _, rfl, hr3, rfl, r, toks t, b, rfl, R3, fun c => hnl b3 (.inr (.inl ⟨d, b, hres, c, rfl⟩)), fun c => ?_⟩
    exact ⟨_, rfl, ok _ (.inr (.inr ⟨d, b, hres, c, rfl⟩)) v H3 (over _ (ExB.trans b2 b3)) hv⟩
/-! ### which values are things -/
def isInt : PyData → Bool
  | .int _ => true
  | _ => false
def sp_is_integer (K : PySem.W.Frag) : Sp := fun vs H Q _ => ∃ v d, vs = [v] ∧ Dp K H v d ∧ Q (.bl (isInt d)) H
theorem ok_is_integer (T : T P K mg) : FnOk P w K mg base C8.CX0 1 (He.ga K "is_integer") (fdAt K d_is_integer) ["value"] (sp_is_integer K) := by
  refine FunD.ok T.f_is_integer sc_is_integer (fun vs H Q E h => ?_) (fun cdv A outer s H vs Q E hr h => ⟨_, PSs.nox (pss_one
(ps_ret (pe_and (pe_callB call_isD (by rfl) T.b_isinstance (by decide +kernel) (pa_cons (pv 0) (pa_cons (pe_bltn (v := .ty "int") (by rfl) T.b_int (by decide +kernel) rfl) pa_nil))) (pe_one (pe_not (pe_callB call_isD (by rfl) T.b_isinstance (by decide +kernel) (pa_cons (pv 0) (pa_cons (pe_bltn (v := .ty "bool") (by rfl) T.b_bool (by decide +kernel) rfl) pa_nil)))))))), ?_⟩)
  · obtain ⟨v, d, rfl, _⟩ := h
    rfl
  · obtain ⟨v, d, rfl, hd, hQ⟩ := h
    refine ⟨_, rfl, v, "int", d, rfl, by simp [tyNames], hd, _, rfl, ?_⟩
    rw [ty_int]
    refine if_b (fun c1 => ?_) fun c1 => ?_
    · refine ⟨_, rfl, v, "bool", d, rfl, by simp [tyNames], hd, _, rfl, ?_⟩
      rw [ty_bool]
      cases d <;> first | exact hQ | cases c1
    · cases d <;> first | exact hQ | cases c1
def btw (lo hi : Int) : PyData → Bool
  | .int i => decide (lo ≤ i) && decide (i ≤ hi)
  | _ => false
def sp_is_between (K : PySem.W.Frag) : Sp := fun vs H Q _ => ∃ v d lo hi, vs = [v, .int lo, .int hi] ∧ Dp K H v d ∧ Q (.bl (btw lo hi d)) H
theorem ok_is_between (T : T P K mg) : FnOk P w K mg base C8.CX0 2 (He.ga K "is_between") (fdAt K d_is_between) ["value", "least", "most"] (sp_is_between K) := by
  refine FunD.ok T.f_is_between sc_is_between (fun vs H Q E h => ?_) (fun cdv A outer s H vs Q E hr h => ⟨_, PSs.nox (pss_one
(ps_ret (pe_and (pe_call (ok_is_integer T) (hr.mono (by first | decide | omega | (simp only [Nat.add_eq]; omega))) rfl T.g_is_integer T.f_is_integer.kp (bn_is_integer T.f_is_integer) .nil (C8.pass0 (E := C8.E0)) (pa_cons (pv 0) pa_nil)) (pe_one (pe_chain op_le op_le (pv 1) (pv 0) (pv 2)))))), ?_⟩)
  · obtain ⟨v, d, lo, hi, rfl, _⟩ := h
    rfl
  · obtain ⟨v, d, lo, hi, rfl, hd, hQ⟩ := h
    refine ⟨_, rfl, v, d, rfl, hd, _, rfl, ?_⟩
    cases d with
    | int i =>
      cases hd
      refine if_t rfl ?_
      refine ⟨_, rfl, _, rfl, _, _, rfl, rfl, _, rfl, ?_⟩
      have hQ : Q (.bl (decide (lo ≤ i) && decide (i ≤ hi))) H := hQ
      refine if_b (fun c => ?_) fun c => ?_
      · rw [c] at hQ
        exact ⟨_, rfl, _, _, rfl, rfl, hQ⟩
      · rw [c] at hQ
        exact hQ
    | _ => exact if_f rfl hQ
def wordB (s : Str) : Bool := decide (1 ≤ s.length) && (decide (s.length ≤ 12) && (!decide (s = S (cp "none")) && s.cps.toList.all (inB LET)))
def isWord : PyData → Bool
  | .str s => wordB s
  | _ => false
def sp_is_thing_word (K : PySem.W.Frag) : Sp := fun vs H Q _ => ∃ v d, vs = [v] ∧ Dp K H v d ∧ (∀ s, d = .str s → s.length ≤ sizeLine) ∧ ∀ H', Same H H' → Q (.bl (isWord d)) H'
theorem ok_is_thing_word (T : T P K mg) : FnOk P w K mg base C8.CX0 1 (He.ga K "is_thing_word") (fdAt K d_is_thing_word) ["value"] (sp_is_thing_word K) := by
  refine FunD.ok T.f_is_thing_word sc_is_thing_word (fun vs H Q E h => ?_) (fun cdv A outer s H vs Q E hr h => ⟨_, PSs.nox (pss_cons
(ps_if (PW.pt (pw_or (pt_not (pt_val (pe_callB call_isD (by rfl) T.b_isinstance (by decide +kernel) (pa_cons (pv 0) (pa_cons (pe_bltn (v := .ty "str") (by rfl) T.b_str (by decide +kernel) rfl) pa_nil))))) (pw_or (pt_not (pt_chain op_le op_le pe_int (pe_callB call_len_str (by rfl) T.b_len (by decide +kernel) (pa_cons (pv 0) pa_nil)) (pk_int T.k_MOST_LETTERS))) (pw_or1 (pt_cmpR op_eq (pv 0) (pk_str T.k_NO_THING) (nomark _)))))) (pss_one
(ps_ret pe_bl)) pss_nil)
(pss_one
(ps_ret (pe_callB (cr_all rfl) (by rfl) T.b_all (by decide +kernel) (pa_cons (pe_lc (own := [("sign", 1)]) (g := gName 1) (tt := tYes) rfl sc_is_thing_word.nd (pi_str (pv 0)) (blkOk_by (own := [("sign", 1)]) (N := N_is_thing_word) (sc := defScope s_is_thing_word) (by decide +kernel)) (fun _ _ _ _ _ => (pg_name (i := 1) sc_is_thing_word.nd rfl (.inl rfl))) (fun _ _ _ _ _ => pts_nil) (fun _ _ _ _ _ => (pe_cmpR op_in_sign (pv 1) (pk_str T.k_LETTERS) (by rfl)))) pa_nil))))), ?_⟩)
  · obtain ⟨v, d, rfl, _⟩ := h
    rfl
  · obtain ⟨v, d, rfl, hd, hsz, hQ⟩ := h
    refine ⟨_, rfl, v, "str", d, rfl, by simp [tyNames], hd, _, rfl, ?_⟩
    rw [ty_str]
    cases d with
    | str s =>
      cases hd
      refine if_f rfl ?_
      have hl := hsz s rfl
      have hQ : ∀ H', Same H H' → Q (.bl (decide (1 ≤ s.length) && (decide (s.length ≤ 12) && (!decide (s = S (cp "none")) && s.cps.toList.all (inB LET))))) H' := hQ
      have dec : ∀ a b : Nat, decide ((a : Int) ≤ (b : Int)) = decide (a ≤ b) := fun a b => by
        rw [Bool.eq_iff_iff, decide_eq_true_iff, decide_eq_true_iff]
        omega
      refine ⟨_, rfl, _, rfl, hl, _, _, rfl, rfl, _, rfl, ?_⟩
      have d1 : decide ((1 : Int) ≤ ((s.length : Nat) : Int)) = decide (1 ≤ s.length) := dec 1 _
      have d2 : decide (((s.length : Nat) : Int) ≤ 12) = decide (s.length ≤ 12) := dec _ 12
      refine if_b (fun c1 => ?_) fun c1 => ?_
      rotate_left
      · rw [← d1, c1] at hQ
        exact ⟨_, rfl, if_t rfl (hQ H (Same.refl H))⟩
      rw [← d1, c1] at hQ
      refine ⟨_, _, rfl, rfl, _, rfl, ?_⟩
      by_cases c2 : s.length ≤ 12
      rotate_left
      · rw [decide_eq_false c2] at hQ
        exact if_t (by rw [d2, decide_eq_false c2]; rfl) (hQ H (Same.refl H))
      rw [decide_eq_true c2] at hQ
      refine if_f (by rw [d2, decide_eq_true c2]; rfl) ?_
      refine ⟨_, rfl, rfl, _, rfl, ?_⟩
      rw [show Str.ofString "none" = S (cp "none") from of_cp _]
      have d3 : decide (V.str s = V.str (S (cp "none"))) = decide (s = S (cp "none")) := by
        rw [Bool.eq_iff_iff, decide_eq_true_iff, decide_eq_true_iff]
        exact ⟨V.str.inj, congrArg _⟩
      rw [d3]
      refine if_b (fun c3 => ?_) fun c3 => ?_
      · rw [c3] at hQ
        exact hQ H (Same.refl H)
      rw [c3] at hQ
      refine ⟨_, rfl, s, rfl, fun D hD => ?_⟩
      refine lc_str (fun i H' => Same H H' ∧ H' D = some (.lst ((s.cps.toList.take i).map fun c => .bl (inB LET c)))) ⟨upd_ext hD, upd_same⟩ ?_ ?_
      · rintro i c H' hc ⟨e1, hL⟩
        refine ⟨rfl, _, rfl, c, _, rfl, rfl, _, hL, ?_, ?_, ?_⟩
        · rw [List.length_map, List.length_take, sizeLine_eq]
          have : s.cps.toList.length = s.length := by simp [Str.length]
          omega
        · exact Same.over (Same.refl H) hD e1
        · have hc' : s.cps.toList[i]? = some c := by simpa using hc
          rw [upd_same, List.take_add_one, hc', List.map_append, lit_LET, S_cps]
          rfl
      · rintro H' ⟨e1, hL⟩
        refine ⟨D, (s.cps.toList.take s.cps.size).map (inB LET), rfl, SqL.of ?_, ?_⟩
        · rw [hL, List.map_map]
          rfl
        · have z : s.cps.toList.take s.cps.size = s.cps.toList := by
            rw [List.take_of_length_le]
            simp
          rw [z]
          refine q_bl ?_ (hQ H' e1)
          rw [List.all_map]
          rfl
    | _ => exact if_t rfl (hQ H (Same.refl H))
end K85

set_option Elab.async false
set_option linter.all false
set_option maxRecDepth 100000
set_option maxHeartbeats 2000000
namespace K85
open PySem PySem.Spec PyProof.Rows L2 LamX Ey
variable {P : Program} {w : World} {K : PySem.W.Frag} {mg : Str → Option Value} {base : Heap}
/-- no text in it is longer than the line -/
inductive SzOk : PyData → Prop
  | none : SzOk .none
  | bool (b : Bool) : SzOk (.bool b)
  | int (i : Int) : SzOk (.int i)
  | str {s : Str} (h : s.length ≤ sizeLine) : SzOk (.str s)
  | list (ds : List PyData) : SzOk (.list ds)
  | tuple {ds : List PyData} (hl : ds.length ≤ sizeLine) (h : ∀ d ∈ ds, SzOk d) : SzOk (.tuple ds)
theorem SzOk.text {d : PyData} (h : SzOk d) : ∀ s, d = .str s → s.length ≤ sizeLine := by
  intro s e
  subst e
  cases h
  assumption
theorem SzOk.mem {ds : List PyData} (h : SzOk (.tuple ds)) : ∀ d ∈ ds, SzOk d := by
  cases h
  assumption
theorem SzOk.len {ds : List PyData} (h : SzOk (.tuple ds)) : ds.length ≤ sizeLine := by
  cases h
  assumption
def thingB : Nat → PyData → Bool
  | _, .none => true
  | _, .str s => wordB s
  | _, .int i => decide (-9999 ≤ i) && decide (i ≤ 9999)
  | k + 1, .tuple ds => ds.all (thingB k)
  | _, _ => false
def sp_within (K : PySem.W.Frag) (n : Nat) : Sp := fun vs H Q _ => ∃ v d k, vs = [v, .int ((k : Nat) : Int)] ∧ Dp K H v d ∧ SzOk d ∧ k < n ∧ ∀ H', Same H H' → Q (.bl (thingB k d)) H'
theorem ok_is_thing_within (T : T P K mg) : ∀ n : Nat, FnOk P w K mg base C8.CX0 (3 + n) (He.ga K "is_thing_within") (fdAt K d_is_thing_within) ["value", "deep"] (sp_within K n)
  | 0 => by
    refine ⟨fun vs H Q E h => ?_, fun A outer s H args us vs Q E hr e0 hb hv h => ?_⟩
    · obtain ⟨v, d, k, _, _, _, h, _⟩ := h
      omega
    · obtain ⟨v, d, k, _, _, _, h, _⟩ := h
      omega
  | n + 1 => by
    have ok_is_thing_within := fun (_ : K85.T P K mg) => ok_is_thing_within T n
    refine FunD.ok T.f_is_thing_within sc_is_thing_within (fun vs H Q E h => ?_) (fun cdv A outer s H vs Q E hr h => ⟨_, PSs.nox (pss_cons
(ps_if (PW.pt (pw_or (pt_cmpR op_isN (pv 0) pe_non (nomark _)) (pw_or1 (pt_val (pe_call (ok_is_thing_word T) (hr.mono (by first | decide | omega | (simp only [Nat.add_eq]; omega))) rfl T.g_is_thing_word T.f_is_thing_word.kp (bn_is_thing_word T.f_is_thing_word) .nil (C8.pass0 (E := C8.E0)) (pa_cons (pv 0) pa_nil)))))) (pss_one
(ps_ret pe_bl)) pss_nil)
(pss_cons
(ps_if (pt_val (pe_call (ok_is_integer T) (hr.mono (by first | decide | omega | (simp only [Nat.add_eq]; omega))) rfl T.g_is_integer T.f_is_integer.kp (bn_is_integer T.f_is_integer) .nil (C8.pass0 (E := C8.E0)) (pa_cons (pv 0) pa_nil))) (pss_one
(ps_ret (pe_call (ok_is_between T) (hr.mono (by first | decide | omega | (simp only [Nat.add_eq]; omega))) rfl T.g_is_between T.f_is_between.kp (bn_is_between T.f_is_between) .nil (C8.pass0 (E := C8.E0)) (pa_cons (pv 0) (pa_cons (pe_un un_neg (pk_int T.k_GREATEST)) (pa_cons (pk_int T.k_GREATEST) pa_nil)))))) pss_nil)
(pss_one
(ps_ret (pe_and (pe_callB call_isD (by rfl) T.b_isinstance (by decide +kernel) (pa_cons (pv 0) (pa_cons (pe_bltn (v := .ty "tuple") (by rfl) T.b_tuple (by decide +kernel) rfl) pa_nil))) (pe_and (pe_cmpR op_gt (pv 1) pe_int (nomark _)) (pe_one (pe_callB (cr_all rfl) (by rfl) T.b_all (by decide +kernel) (pa_cons (pe_lc (own := [("part", 2)]) (g := gName 2) (tt := tYes) rfl sc_is_thing_within.nd (pi_tup (pv 0)) (blkOk_by (own := [("part", 2)]) (N := N_is_thing_within) (sc := defScope s_is_thing_within) (by decide +kernel)) (fun _ _ _ _ _ => (pg_name (i := 2) sc_is_thing_within.nd rfl (.inl rfl))) (fun _ _ _ _ _ => pts_nil) (fun _ _ _ _ _ => (pe_call (ok_is_thing_within T) (hr.mono (by first | decide | omega | (simp only [Nat.add_eq]; omega))) rfl T.g_is_thing_within T.f_is_thing_within.kp (bn_is_thing_within T.f_is_thing_within) .nil (C8.pass0 (E := C8.E0)) (pa_cons (pv 2) (pa_cons (pe_op op_sub (pv 1) pe_int) pa_nil))))) pa_nil))))))))), ?_⟩)
    · obtain ⟨v, d, k, rfl, _⟩ := h
      rfl
    · obtain ⟨v, d, k, rfl, hd, hz, hk, hQ⟩ := h
      refine ⟨_, rfl, rfl, _, rfl, ?_⟩
      by_cases hn : d = .none
      · subst hn
        cases hd
        exact if_t rfl (q_bl (by cases k <;> rfl) (hQ H (Same.refl H)))
      have vn : v ≠ .non := fun z => by
        subst z
        cases hd
        exact hn rfl
      refine if_f (decide_eq_false vn) ?_
      refine ⟨_, rfl, v, d, rfl, hd, hz.text, fun H1 e1 => ⟨_, rfl, ?_⟩⟩
      have hd1 := Dp.ext e1 _ _ hd
      by_cases hw : isWord d = true
      · refine if_t hw ?_
        cases d <;> first | exact absurd rfl hn | exact (Bool.false_ne_true hw).elim | exact q_bl (by rw [← hw]; cases k <;> rfl) (hQ H1 e1)
      have hw : isWord d = false := by simpa using hw
      refine if_f hw ?_
      refine ⟨_, rfl, v, d, rfl, hd1, _, rfl, ?_⟩
      cases d with
      | none => exact absurd rfl hn
      | int i =>
        refine if_t rfl ?_
        refine ⟨_, rfl, _, rfl, v, _, _, _, rfl, hd1, ?_⟩
        have z : thingB k (.int i) = (decide (-9999 ≤ i) && decide (i ≤ 9999)) := by cases k <;> rfl
        exact q_bl z.symm (hQ H1 e1)
      | str s =>
        refine if_f rfl ?_
        refine ⟨_, rfl, v, "tuple", _, rfl, by simp [tyNames], hd1, _, rfl, ?_⟩
        refine if_f (by rw [ty_tup]) ?_
        have z : thingB k (.str s) = false := by
          rw [← hw]
          cases k <;> rfl
        exact q_bl z.symm (hQ H1 e1)
      | bool b =>
        refine if_f rfl ?_
        refine ⟨_, rfl, v, "tuple", _, rfl, by simp [tyNames], hd1, _, rfl, ?_⟩
        refine if_f (by rw [ty_tup]) ?_
        have z : thingB k (.bool b) = false := by cases k <;> rfl
        exact q_bl z.symm (hQ H1 e1)
      | list ds =>
        refine if_f rfl ?_
        refine ⟨_, rfl, v, "tuple", _, rfl, by simp [tyNames], hd1, _, rfl, ?_⟩
        refine if_f (by rw [ty_tup]) ?_
        have z : thingB k (.list ds) = false := by cases k <;> rfl
        exact q_bl z.symm (hQ H1 e1)
      | dict ds => cases hd
      | tuple ds =>
        refine if_f rfl ?_
        refine ⟨_, rfl, v, "tuple", _, rfl, by simp [tyNames], hd1, _, rfl, ?_⟩
        refine if_t (by rw [ty_tup]) ?_
        refine ⟨_, rfl, _, _, rfl, rfl, _, rfl, ?_⟩
        cases k with
        | zero => exact if_f rfl (hQ H1 e1)
        | succ k =>
          refine if_t (decide_eq_true (by omega)) ?_
          obtain ⟨a, xs, rfl, hs, ha⟩ := Ey.Dp.tupOf hd1
          refine ⟨_, rfl, a, rfl, ⟨_, hs⟩, fun D hD => ?_⟩
          refine lc_tup (K := K) (xs := xs) (fun i H' => Same H1 H' ∧ H' D = some (.lst ((ds.take i).map fun d => .bl (thingB k d)))) ⟨upd_ext hD, upd_same⟩ (fun i H' _ h => SqT.ext h.1 hs) ?_ ?_
          · rintro i x H' hx ⟨e2, hL⟩
            obtain ⟨d, hd, hxd⟩ := Ey.DpAll.get ha hx
            refine ⟨rfl, _, rfl, _, rfl, _, _, rfl, rfl, x, d, k, ?_, Dp.ext e2 _ _ hxd, hz.mem d (List.mem_of_getElem? hd), by omega, fun H3 e3 => ?_⟩
            · have e : (((k + 1 : Nat) : Int) - 1) = ((k : Nat) : Int) := by omega
              show [x, V.int (((k + 1 : Nat) : Int) - 1)] = _
              rw [e]
            · have hL3 := e3 D _ hL
              refine ⟨_, hL3, ?_, ?_, ?_⟩
              · have hlen : i < xs.length := (List.getElem?_eq_some_iff.mp hx).1
                have z1 := (Ey.DpAll.length ha)
                have z2 := hz.len
                rw [List.length_map, List.length_take]
                omega
              · exact Same.over (Same.refl H1) hD (Same.trans e2 e3)
              · rw [upd_same, List.take_add_one, hd, List.map_append]
                rfl
          · rintro H' ⟨e2, hL⟩
            refine ⟨D, ds.map (thingB k), rfl, SqL.of ?_, ?_⟩
            · rw [hL, List.map_map, (Ey.DpAll.length ha), List.take_length]
              rfl
            · refine q_bl ?_ (hQ H' (Same.trans e1 e2))
              rw [List.all_map]
              rfl
end K85

set_option Elab.async false
set_option linter.all false
set_option maxRecDepth 100000
set_option maxHeartbeats 2000000
namespace K85
open PySem PySem.Spec PyProof.Rows L2 LamX Ey
variable {P : Program} {w : World} {K : PySem.W.Frag} {mg : Str → Option Value} {base : Heap}
theorem em_InvalidThing (t : T P K mg) : EM P w K mg (He.ga K "InvalidThing") ["at"] := fun base M => by
  refine made_of t.e_InvalidThing.cls M fun A s x t0 us R hl kb hx hxK hroom hq => ?_
  match us, hl with
  | [v], _ =>
    exact init1 (f := "at") t.e_InvalidThing.cls (is1 e_InvalidThing (by decide +kernel)) (by simp [e_InvalidThing]) (by decide +kernel) (by decide) (by decide)
      (fun L => rfl) (fun L => rfl) (fun s kV doc pm an ct => .of_eq rfl) M kb hx hxK hroom fun h' tk dx I => hq h' tk dx _ I fun y => lookup1 y
theorem em_InvalidSize (t : T P K mg) : EM P w K mg (He.ga K "InvalidSize") ["word"] := fun base M => by
  refine made_of t.e_InvalidSize.cls M fun A s x t0 us R hl kb hx hxK hroom hq => ?_
  match us, hl with
  | [v], _ =>
    exact init1 (f := "word") t.e_InvalidSize.cls (is1 e_InvalidSize (by decide +kernel)) (by simp [e_InvalidSize]) (by decide +kernel) (by decide) (by decide)
      (fun L => rfl) (fun L => rfl) (fun s kV doc pm an ct => .of_eq rfl) M kb hx hxK hroom fun h' tk dx I => hq h' tk dx _ I fun y => lookup1 y
def sp_is_thing (K : PySem.W.Frag) : Sp := fun vs H Q _ => ∃ v d, vs = [v] ∧ Dp K H v d ∧ SzOk d ∧ ∀ H', Same H H' → Q (.bl (thingB 12 d)) H'
theorem ok_is_thing (T : T P K mg) : FnOk P w K mg base C8.CX0 17 (He.ga K "is_thing") (fdAt K d_is_thing) ["value"] (sp_is_thing K) := by
  have ok_is_thing_within := fun (T : K85.T P K mg) => ok_is_thing_within (w := w) (base := base) T 13
  refine FunD.ok T.f_is_thing sc_is_thing (fun vs H Q E h => ?_) (fun cdv A outer s H vs Q E hr h => ⟨_, PSs.nox (pss_one
(ps_ret (pe_call (ok_is_thing_within T) (hr.mono (by first | decide | omega | (simp only [Nat.add_eq]; omega))) rfl T.g_is_thing_within T.f_is_thing_within.kp (bn_is_thing_within T.f_is_thing_within) .nil (C8.pass0 (E := C8.E0)) (pa_cons (pv 0) (pa_cons (pk_int T.k_MOST_DEEP) pa_nil))))), ?_⟩)
  · obtain ⟨v, d, rfl, _⟩ := h
    rfl
  · obtain ⟨v, d, rfl, hd, hz, hQ⟩ := h
    exact ⟨_, rfl, v, d, 12, rfl, hd, hz, by omega, hQ⟩
/-! ### the groups of a thing -/
mutual
def grp : PyData → List G
  | .none => [cp "none"]
  | .str s => [s.cps.toList]
  | .int i => if i < 0 then [cp "-", TL.numL i.natAbs] else [TL.numL i.natAbs]
  | .tuple ds => cp "(" :: (grpJ ds ++ [cp ")"])
  | .bool _ => []
  | .list _ => []
  | .dict _ => []
def grpJ : List PyData → List G
  | [] => []
  | d :: ds => grp d ++ grpK ds
def grpK : List PyData → List G
  | [] => []
  | d :: ds => cp "," :: (grp d ++ grpK ds)
end
theorem grpK_app : ∀ a b : List PyData, grpK (a ++ b) = grpK a ++ grpK b
  | [], b => rfl
  | d :: a, b => by
    show cp "," :: (grp d ++ grpK (a ++ b)) = (cp "," :: (grp d ++ grpK a)) ++ grpK b
    rw [grpK_app a b]
    simp
theorem grpJ_snoc (a : List PyData) (d : PyData) : grpJ (a ++ [d]) = grpJ a ++ ((if a = [] then [] else [cp ","]) ++ grp d) := by
  cases a with
  | nil =>
    show grp d ++ [] = [] ++ ([] ++ grp d)
    simp
  | cons x a =>
    show grp x ++ grpK (a ++ [d]) = (grp x ++ grpK a) ++ _
    rw [grpK_app, if_neg (by simp)]
    show _ ++ (_ ++ (cp "," :: (grp d ++ []))) = _
    simp
theorem grp_ne {k : Nat} : ∀ d, thingB k d = true → grp d ≠ []
  | .none, _ => by simp [grp]
  | .str s, _ => by simp [grp]
  | .int i, _ => by
    rw [grp]
    split <;> simp
  | .tuple ds, _ => by simp [grp]
  | .bool b, h => by cases k <;> cases h
  | .list b, h => by cases k <;> cases h
  | .dict b, h => by cases k <;> cases h
theorem S_num (n : Nat) : Str.ofString (toString ((n : Nat) : Int)) = S (TL.numL n) := by
  have e : (Str.ofString (toString ((n : Nat) : Int))).cps.toList = TL.numL n := TL.tl_num n
  rw [← e, S_self]
theorem log_small {n : Nat} (h : n ≤ 9999) : n.log2 < 1920 := by
  by_cases z : n = 0
  · subst z
    decide
  · have q : n.log2 < 14 := (Nat.log2_lt z).mpr (by omega)
    omega
theorem abs_nat (i : Int) : (if i < 0 then -i else i) = ((i.natAbs : Nat) : Int) := by
  split <;> omega
def sp_groups (K : PySem.W.Frag) (n : Nat) : Sp := fun vs H Q _ => ∃ v d k, vs = [v] ∧ Dp K H v d ∧ thingB k d = true ∧ k < n ∧ (grp d).length ≤ sizeLine ∧ ∀ H' l, Same H H' → H' l = some (.lst ((grp d).map vS)) → Q (.ref l) H'
theorem ok_thing_groups (T : T P K mg) : ∀ n : Nat, FnOk P w K mg base C8.CX0 (3 + n) (He.ga K "thing_groups") (fdAt K d_thing_groups) ["value"] (sp_groups K n)
  | 0 => by
    refine ⟨fun vs H Q E h => ?_, fun A outer s H args us vs Q E hr e0 hb hv h => ?_⟩
    · obtain ⟨v, d, k, _, _, _, h, _⟩ := h
      omega
    · obtain ⟨v, d, k, _, _, _, h, _⟩ := h
      omega
  | n + 1 => by
    have ok_thing_groups := fun (_ : K85.T P K mg) => ok_thing_groups T n
    refine FunD.ok T.f_thing_groups sc_thing_groups (fun vs H Q E h => ?_) (fun cdv A outer s H vs Q E hr h => ⟨_, PSs.nox (pss_cons
(ps_if (pt_cmpR op_isN (pv 0) pe_non (nomark _)) (pss_one
(ps_ret (pe_lst (pa_cons (pk_str T.k_NO_THING) pa_nil)))) pss_nil)
(pss_cons
(ps_if (pt_val (pe_callB call_isD (by rfl) T.b_isinstance (by decide +kernel) (pa_cons (pv 0) (pa_cons (pe_bltn (v := .ty "str") (by rfl) T.b_str (by decide +kernel) rfl) pa_nil)))) (pss_one
(ps_ret (pe_lst (pa_cons (pv 0) pa_nil)))) pss_nil)
(pss_cons
(ps_if (pt_val (pe_call (ok_is_integer T) (hr.mono (by first | decide | omega | (simp only [Nat.add_eq]; omega))) rfl T.g_is_integer T.f_is_integer.kp (bn_is_integer T.f_is_integer) .nil (C8.pass0 (E := C8.E0)) (pa_cons (pv 0) pa_nil))) (pss_one
(ps_ret (pe_op op_cat (pe_ifExp (pt_cmpR op_lt (pv 0) pe_int (nomark _)) (pe_lst (pa_cons pe_str pa_nil)) (pe_lst pa_nil)) (pe_lst (pa_cons (pe_callTy call_str_int (by rfl) T.b_str (by decide +kernel) (pa_cons (pe_callB call_abs (by rfl) T.b_abs (by decide +kernel) (pa_cons (pv 0) pa_nil)) pa_nil)) pa_nil))))) pss_nil)
(pss_cons
(ps_set (i := 1) sc_thing_groups.nd rfl (.inl rfl) (pe_lst (pa_cons pe_str pa_nil)))
(pss_cons
(ps_for PassesOwn.never rfl (pi_tup (pv 0)) (pg_name (i := 2) sc_thing_groups.nd rfl (.inl rfl)) (pss_one
(ps_aug (i := 1) sc_thing_groups.nd rfl (.inl rfl) (pe_op op_cat (pe_ifExp (pt_cmpR op_gt (pe_callB call_len_seq (by rfl) T.b_len (by decide +kernel) (pa_cons (pv 1) pa_nil)) pe_int (nomark _)) (pe_lst (pa_cons pe_str pa_nil)) (pe_lst pa_nil)) (pe_call (ok_thing_groups T) (hr.mono (by first | decide | omega | (simp only [Nat.add_eq]; omega))) rfl T.g_thing_groups T.f_thing_groups.kp (bn_thing_groups T.f_thing_groups) .nil (C8.pass0 (E := C8.E0)) (pa_cons (pv 2) pa_nil))) iop_ext)))
(pss_one
(ps_ret (pe_op op_cat (pv 1) (pe_lst (pa_cons pe_str pa_nil)))))))))), ?_⟩)
    · obtain ⟨v, d, k, rfl, _⟩ := h
      rfl
    · obtain ⟨v, d, k, rfl, hd, ht, hk, hl, hQ⟩ := h
      refine ⟨_, rfl, rfl, _, rfl, ?_⟩
      by_cases hn : d = .none
      · subst hn
        cases hd
        refine if_t rfl ⟨one_line, fun l nl => hQ _ l (upd_ext nl) ?_⟩
        rw [upd_same, of_cp]
        rfl
      have vn : v ≠ .non := fun z => by
        subst z
        cases hd
        exact hn rfl
      refine if_f (decide_eq_false vn) ?_
      refine ⟨_, rfl, v, "str", d, rfl, by simp [tyNames], hd, _, rfl, ?_⟩
      rw [ty_str]
      cases d with
      | none => exact absurd rfl hn
      | bool b => cases k <;> cases ht
      | list b => cases k <;> cases ht
      | dict b => cases k <;> cases ht
      | str s =>
        cases hd
        refine if_t rfl ⟨_, rfl, one_line, fun l nl => hQ _ l (upd_ext nl) ?_⟩
        rw [upd_same]
        show _ = some (HO.lst [vS s.cps.toList])
        rw [vS, S_self]
      | int i =>
        cases hd
        refine if_f rfl ?_
        refine ⟨_, rfl, _, _, rfl, .int i, _, rfl, ?_⟩
        refine if_t rfl ?_
        have hi : -9999 ≤ i ∧ i ≤ 9999 := by
          have z : (decide (-9999 ≤ i) && decide (i ≤ 9999)) = true := by
            rw [← ht]
            cases k <;> rfl
          simpa using z
        have hs : (if i < 0 then -i else i).natAbs.log2 < 1920 := by
          rw [abs_nat]
          exact log_small (by omega)
        refine ⟨_, rfl, _, _, rfl, rfl, _, rfl, ?_⟩
        have two : ∀ n, n ≤ 2 → n ≤ sizeLine := fun n h => by
          rw [sizeLine_eq]
          omega
        by_cases hneg : i < 0
        · refine if_t (decide_eq_true hneg) ⟨one_line, fun p np => ?_⟩
          refine ⟨_, rfl, i, rfl, _, rfl, hs, one_line, fun q nq => ?_⟩
          have e1 := upd_ext (o := .lst [.str (Str.ofString "-")]) np
          have hp : upd H p (.lst [.str (Str.ofString "-")]) p = some (.lst [.str (Str.ofString "-")]) := upd_same
          refine ⟨p, q, [.str (Str.ofString "-")], _, rfl, rfl, by rw [upd_ne (ne_of_none hp nq)]; exact hp, upd_same, two _ (Nat.le_refl 2), fun t nt => ?_⟩
          have e2 := Same.trans e1 (Same.trans (upd_ext nq) (upd_ext (o := .lst ([.str (Str.ofString "-")] ++ [.str (Str.ofString (toString (if i < 0 then -i else i)))])) nt))
          have nH : H t = none := by
            cases z : H t with
            | none => rfl
            | some o =>
              have q1 : upd H p (.lst [.str (Str.ofString "-")]) t = some o := by rw [upd_ne (ne_of_none z np)]; exact z
              rw [upd_ne (ne_of_none q1 nq)] at nt
              rw [q1] at nt
              cases nt
          refine hQ _ t e2 ?_
          rw [upd_same, abs_nat, S_num, of_cp, grp, if_pos hneg]
          rfl
        · refine if_f (decide_eq_false hneg) ⟨Nat.zero_le _, fun p np => ?_⟩
          refine ⟨_, rfl, i, rfl, _, rfl, hs, one_line, fun q nq => ?_⟩
          have e1 := upd_ext (o := .lst []) np
          have hp : upd H p (.lst []) p = some (.lst []) := upd_same
          refine ⟨p, q, [], _, rfl, rfl, by rw [upd_ne (ne_of_none hp nq)]; exact hp, upd_same, two 1 (by decide), fun t nt => ?_⟩
          have e2 := Same.trans e1 (Same.trans (upd_ext nq) (upd_ext (o := .lst ([] ++ [.str (Str.ofString (toString (if i < 0 then -i else i)))])) nt))
          have nH : H t = none := by
            cases z : H t with
            | none => rfl
            | some o =>
              have q1 : upd H p (.lst []) t = some o := by rw [upd_ne (ne_of_none z np)]; exact z
              rw [upd_ne (ne_of_none q1 nq)] at nt
              rw [q1] at nt
              cases nt
          refine hQ _ t e2 ?_
          rw [upd_same, abs_nat, S_num, grp, if_neg hneg]
          rfl
      | tuple ds =>
        refine if_f rfl ?_
        refine ⟨_, rfl, v, _, rfl, hd, _, rfl, ?_⟩
        refine if_f rfl ?_
        cases k with
        | zero => cases ht
        | succ k =>
        have ht : ds.all (thingB k) = true := ht
        obtain ⟨a, xs, rfl, hs, ha⟩ := Ey.Dp.tupOf hd
        refine ⟨one_line, fun l nl => ?_⟩
        have e1 := upd_ext (o := .lst [.str (Str.ofString "(")]) nl
        refine ⟨_, rfl, a, rfl, ⟨_, SqT.ext e1 hs⟩, ?_⟩
        refine for_tup (K := K) (xs := xs) (fun i σ H' => Same H H' ∧ H' l = some (.lst ((cp "(" :: grpJ (ds.take i)).map vS)) ∧ ∃ x, σ = [some (.ref a), some (.ref l), x]) ⟨e1, ?_, _, rfl⟩ (fun i σ H' _ h => SqT.ext h.1 hs) ?_ ?_
        · rw [upd_same, of_cp]
          rfl
        · rintro i x σ H' hx ⟨e2, hL, y, rfl⟩
          obtain ⟨d, hd, hxd⟩ := Ey.DpAll.get ha hx
          have htd : thingB k d = true := List.all_eq_true.mp ht d (List.mem_of_getElem? hd)
          have hsn := grpJ_snoc (ds.take i) d
          have htk : ds.take (i + 1) = ds.take i ++ [d] := by rw [List.take_add_one, hd]; rfl
          -- all together are not too many
          have hall : (cp "(" :: grpJ (ds.take (i + 1))).length ≤ sizeLine := by
            have z : (grp (.tuple ds)).length = (cp "(" :: (grpJ ds ++ [cp ")"])).length := by rw [grp]
            rw [z] at hl
            have z2 : (grpJ (ds.take (i + 1))).length ≤ (grpJ ds).length := by
              have key : ∀ a b : List PyData, (grpJ a).length ≤ (grpJ (a ++ b)).length := fun a b => by
                cases a with
                | nil => exact Nat.zero_le _
                | cons x a =>
                  show (grp x ++ grpK a).length ≤ (grp x ++ grpK (a ++ b)).length
                  rw [grpK_app]
                  simp only [List.length_append]
                  omega
              have z3 := key (ds.take (i + 1)) (ds.drop (i + 1))
              rw [List.take_append_drop] at z3
              exact z3
            simp only [List.length_cons, List.length_append] at hl ⊢
            omega
          rw [htk, hsn] at hall
          simp only [List.length_cons, List.length_append] at hall
          refine ⟨_, rfl, ?_⟩
          refine ⟨_, rfl, l, _, rfl, .inl (SqL.of hL), _, _, rfl, rfl, _, rfl, ?_⟩
          have hlen : (((cp "(" :: grpJ (ds.take i)).map vS).length : Int) = ((grpJ (ds.take i)).length : Int) + 1 := by
            rw [List.length_map, List.length_cons]
            omega
          have hnil : grpJ (ds.take i) = [] ↔ ds.take i = [] := by
            constructor
            · intro z
              cases q : ds.take i with
              | nil => rfl
              | cons b r =>
                rw [q] at z
                have z : grp b ++ grpK r = [] := z
                have hb : b ∈ ds := List.mem_of_mem_take (by rw [q]; exact List.mem_cons_self ..)
                exact absurd (List.append_eq_nil_iff.mp z).1 (grp_ne b (List.all_eq_true.mp ht b hb))
            · intro z
              rw [z]
              rfl
          have fin : ∀ (sep : List G) (H2 : Hp) (p : Addr), Same H' H2 → H' p = none → H2 p = some (.lst (sep.map vS)) → sep = (if ds.take i = [] then [] else [cp ","]) →
              sp_groups K n [x] H2 (fun v H3 => ∃ l2 b2 xs2 zs2, V.ref p = .ref l2 ∧ v = .ref b2 ∧ H3 l2 = some (.lst xs2) ∧ H3 b2 = some (.lst zs2) ∧ xs2.length + zs2.length ≤ sizeLine ∧ ∀ t, H3 t = none → (∃ l3 b3 xs3 zs3, V.ref l = .ref l3 ∧ V.ref t = .ref b3 ∧ (upd H3 t (.lst (xs2 ++ zs2))) l3 = some (.lst xs3) ∧ (upd H3 t (.lst (xs2 ++ zs2))) b3 = some (.lst zs3) ∧ xs3.length + zs3.length ≤ sizeLine ∧
                (Same H (upd (upd H3 t (.lst (xs2 ++ zs2))) l3 (.lst (xs3 ++ zs3))) ∧ (upd (upd H3 t (.lst (xs2 ++ zs2))) l3 (.lst (xs3 ++ zs3))) l = some (.lst ((cp "(" :: grpJ (ds.take (i + 1))).map vS)) ∧ ∃ y', [some (V.ref a), some (V.ref l3), some x] = [some (V.ref a), some (V.ref l), y']))) C8.E0 := by
            intro sep H2 p e3 np hp es
            have hsl : sep.length + (grp d).length ≤ sizeLine := by
              rw [← es] at hall
              omega
            refine ⟨x, d, k, rfl, Dp.ext e3 _ _ (Dp.ext e2 _ _ hxd), htd, by omega, by omega, fun H3 b e4 hb => ?_⟩
            have hp3 := e4 p _ hp
            refine ⟨p, b, _, _, rfl, rfl, hp3, hb, by rw [List.length_map, List.length_map]; exact hsl, fun t nt => ?_⟩
            have e5 := Same.trans e3 e4
            have hl3 := Same.trans e5 (upd_ext (o := .lst (sep.map vS ++ (grp d).map vS)) nt) l _ hL
            refine ⟨l, t, _, _, rfl, rfl, hl3, upd_same, ?_, ?_, ?_, _, rfl⟩
            · simp only [List.length_map, List.length_append, List.length_cons]
              rw [← es] at hall
              omega
            · exact Same.over (Same.refl H) nl (Same.trans e2 (Same.trans e5 (upd_ext nt)))
            · rw [upd_same, htk, hsn, ← es]
              simp only [List.map_append, List.map_cons, List.cons_append, List.append_assoc]
          by_cases hz : ds.take i = []
          · refine if_f ?_ ⟨Nat.zero_le _, fun p np => ?_⟩
            · rw [hlen, hnil.mpr hz]
              rfl
            · exact ⟨_, rfl, fin [] _ p (upd_ext np) np upd_same (by rw [if_pos hz])⟩
          · have hz' : grpJ (ds.take i) ≠ [] := fun z => hz (hnil.mp z)
            refine if_t ?_ ⟨one_line, fun p np => ?_⟩
            · rw [hlen]
              have q : 0 < (grpJ (ds.take i)).length := List.length_pos_iff.mpr hz'
              exact decide_eq_true (by omega)
            · exact ⟨_, rfl, fin [cp ","] _ p (upd_ext np) np (by rw [upd_same, of_cp]; rfl) (by rw [if_neg hz])⟩
        · rintro σ H' ⟨e2, hL, y, rfl⟩
          refine ⟨_, rfl, one_line, fun q nq => ?_⟩
          have e3 := upd_ext (o := .lst [.str (Str.ofString ")")]) nq
          have hL2 := e3 l _ hL
          have hfull : ds.take xs.length = ds := by rw [Ey.DpAll.length ha, List.take_length]
          rw [hfull] at hL2
          have hg : grp (.tuple ds) = cp "(" :: grpJ ds ++ [cp ")"] := by rw [grp]; rfl
          refine ⟨l, q, _, _, rfl, rfl, hL2, upd_same, ?_, fun t nt => ?_⟩
          · rw [hg] at hl
            simp only [List.length_map, List.length_append, List.length_cons, List.length_nil] at hl ⊢
            omega
          · refine hQ _ t (Same.trans e2 (Same.trans e3 (upd_ext nt))) ?_
            rw [upd_same, hg, List.map_append, of_cp]
            rfl
end K85

set_option Elab.async false
set_option linter.all false
set_option maxRecDepth 100000
set_option maxHeartbeats 2000000
namespace K85
open PySem PySem.Spec PyProof.Rows L2 LamX Ey
variable {P : Program} {w : World} {K : PySem.W.Frag} {mg : Str → Option Value} {base : Heap}
/-- an error of class C, its fields fs, that leaves a heap of which R holds -/
def EX (C : Addr) (E : XK) (R : Hp → Prop) (fs : List (Str × V)) : Prop := ∀ H' dd, R H' → H' dd = some (.xd fs) → E (.ref C) (some dd) H'
def txt (d : PyData) : G := wr (cp "(") (grp d)
def TextO (K : PySem.W.Frag) (H : Hp) (Q : VK) (E : XK) (d : PyData) : Prop :=
  if thingB 12 d = true then
    if (grp d).length > 4000 then EX (He.ga K "InvalidSize") E (Same H) [("word", .str (Str.ofString "text"))] else ∀ H', Same H H' → Q (vS (txt d)) H'
  else EX (He.ga K "InvalidThing") E (Same H) [("at", .int (-1))]
def sp_thing_text (K : PySem.W.Frag) : Sp := fun vs H Q E => ∃ v d, vs = [v] ∧ Dp K H v d ∧ SzOk d ∧ (thingB 12 d = true → (grp d).length ≤ sizeLine ∧ ((grp d).length ≤ 4000 → (txt d).length ≤ sizeLine)) ∧ TextO K H Q E d
theorem ok_thing_text (T : T P K mg) : FnOk P w K mg base (L2.CX P w) 18 (He.ga K "thing_text") (fdAt K d_thing_text) ["value"] (sp_thing_text K) := by
  have ok_thing_groups := fun (T : K85.T P K mg) => ok_thing_groups (w := w) (base := base) T 13
  refine FunD.ok T.f_thing_text sc_thing_text (fun vs H Q E h => ?_) (fun cdv A outer s H vs Q E hr h => ⟨_, (pss_cons
(ps_if (pt_not (pt_val (pe_call (ok_is_thing T) (hr.mono (by first | decide | omega | (simp only [Nat.add_eq]; omega))) rfl T.g_is_thing T.f_is_thing.kp (bn_is_thing T.f_is_thing) .nil (C8.pass0 (E := C8.E0)) (pa_cons (pv 0) pa_nil)))) (pss_one
(ps_raiseM rfl (em_InvalidThing T) T.g_InvalidThing T.e_InvalidThing.cls.kC T.e_InvalidThing.cls.exC T.e_InvalidThing.cls.tyC hr (by decide) rT (pa_cons (pe_un un_neg pe_int) pa_nil))) pss_nil)
(pss_cons
(ps_set (i := 1) sc_thing_text.nd rfl (.inl rfl) (pe_call (ok_thing_groups T) (hr.mono (by first | decide | omega | (simp only [Nat.add_eq]; omega))) rfl T.g_thing_groups T.f_thing_groups.kp (bn_thing_groups T.f_thing_groups) .nil (C8.pass0 (E := C8.E0)) (pa_cons (pv 0) pa_nil)))
(pss_cons
(ps_if (pt_cmpR op_gt (pe_callB call_len_seq (by rfl) T.b_len (by decide +kernel) (pa_cons (pv 1) pa_nil)) (pk_int T.k_MOST_GROUPS) (nomark _)) (pss_one
(ps_raiseM rfl (em_InvalidSize T) T.g_InvalidSize T.e_InvalidSize.cls.kC T.e_InvalidSize.cls.exC T.e_InvalidSize.cls.tyC hr (by decide) rT (pa_cons pe_str pa_nil))) pss_nil)
(pss_one
(ps_ret (pe_call (ok_written T) (hr.mono (by first | decide | omega | (simp only [Nat.add_eq]; omega))) rfl T.g_written T.f_written.kp (bn_written T.f_written) .nil (C8.pass0 (E := C8.E0)) (pa_cons (pv 1) pa_nil))))))), ?_⟩)
  · obtain ⟨v, d, rfl, _⟩ := h
    rfl
  · obtain ⟨v, d, rfl, hd, hz, hs, hO⟩ := h
    unfold TextO at hO
    refine ⟨_, rfl, v, d, rfl, hd, hz, fun H1 e1 => ⟨_, rfl, ?_⟩⟩
    cases c1 : thingB 12 d with
    | false =>
      rw [if_neg (by rw [c1]; simp)] at hO
      refine if_t rfl ?_
      exact ⟨_, rfl, rfl, fun dd ndd => hO _ dd (Same.trans e1 (upd_ext ndd)) upd_same⟩
    | true =>
      rw [if_pos c1] at hO
      refine if_f rfl ?_
      refine ⟨_, rfl, v, d, 12, rfl, Dp.ext e1 _ _ hd, c1, by omega, (hs c1).1, fun H2 l e2 hl => ?_⟩
      refine ⟨_, rfl, l, _, rfl, .inl (SqL.of hl), _, _, rfl, rfl, _, rfl, ?_⟩
      rw [List.length_map]
      by_cases c2 : (grp d).length > 4000
      · rw [if_pos c2] at hO
        refine if_t (decide_eq_true (by omega)) ?_
        exact ⟨rfl, fun dd ndd => hO _ dd (Same.trans e1 (Same.trans e2 (upd_ext ndd))) upd_same⟩
      · rw [if_neg c2] at hO
        refine if_f (decide_eq_false (by omega)) ?_
        exact ⟨_, rfl, l, _, rfl, SqL.of hl, (hs c1).2 (by omega), fun H3 e3 => hO _ (Same.trans e1 (Same.trans e2 e3))⟩
end K85

set_option Elab.async false
set_option linter.all false
set_option maxRecDepth 100000
set_option maxHeartbeats 2000000
namespace K85
open PySem PySem.Spec PyProof.Rows L2 LamX Ey
variable {P : Program} {w : World} {K : PySem.W.Frag} {mg : Str → Option Value} {base : Heap}
/-- a loop over enumerate(list) -/
theorem for_enumL {K : PySem.W.Frag} {a : Addr} {xs : List V} {g : TG} {tb : TS} {D : Ends} {σ : L2.St} {H : Hp} (Pv : Nat → L2.St → Hp → Prop) (h0 : Pv 0 σ H) (hl : ∀ i σ H, i ≤ xs.length → Pv i σ H → SqL K H a xs)
    (hs : ∀ i x σ H, xs[i]? = some x → Pv i σ H → ∀ T, H T = none → g (.ref T) σ (upd H T (.tup [.int (i : Nat), x])) fun σ2 H2 => tb { D with nx := Pv (i + 1), ct := Pv (i + 1), bk := D.nx } σ2 H2)
    (hd : ∀ σ H, Pv xs.length σ H → D.nx σ H) :
    ∃ W : Nat → Nat → L2.St → Hp → Prop, (∃ m, W 0 m σ H) ∧ ∀ i m σ H, W i m σ H →
      (((Ite K a).stop i H ∧ D.nx σ H) ∨ ((Ite K a).go i H ∧ ∃ N : L2.St → Hp → Prop, (∀ σ' H', N σ' H' → ∃ m', m' < m ∧ W (i + 1) m' σ' H') ∧ ∀ x H', (Ite K a).yld i H x H' → g x σ H' fun σ2 H2 => tb { D with nx := N, ct := N, bk := D.nx } σ2 H2)) := by
  refine ⟨fun i m σ H => m = xs.length - i ∧ i ≤ xs.length ∧ Pv i σ H, ⟨_, rfl, Nat.zero_le _, h0⟩, ?_⟩
  rintro i m σ H ⟨rfl, hi, p⟩
  have q := hl i σ H hi p
  by_cases hlt : i < xs.length
  · obtain ⟨x, hx⟩ : ∃ x, xs[i]? = some x := ⟨_, List.getElem?_eq_getElem hlt⟩
    refine .inr ⟨⟨xs, x, q, hx⟩, Pv (i + 1), fun σ' H' p' => ⟨xs.length - (i + 1), by omega, rfl, hlt, p'⟩, fun v H' y => ?_⟩
    obtain ⟨T, x', rfl, hT, rfl, hx'⟩ := y
    have e := hx' xs q
    rw [hx] at e
    cases e
    exact hs i x σ H hx p T hT
  · have e : i = xs.length := by omega
    subst e
    exact .inl ⟨⟨xs, q, Nat.le_refl _⟩, hd _ _ p⟩
/-! ### the box of drawn numbers -/
def Box (H : Hp) (b : Addr) : Prop := ∃ (r : Addr) (st : Int) (rs : List Int), H b = some (.lst [.ref r, .int st]) ∧ H r = some (.lst (rs.map V.int)) ∧ rs.length ≤ 64 ∧ 0 ≤ st ∧ st < 4294967296
theorem Box.ext {H H' : Hp} {b : Addr} (h : Box H b) (e : Same H H') : Box H' b := by
  obtain ⟨r, st, rs, h1, h2, h3⟩ := h
  exact ⟨r, st, rs, e _ _ h1, e _ _ h2, h3⟩
theorem Box.tex {H H' : Hp} {b : Addr} (h : Box H b) (e : ExB b H H') : TEx H H' := by
  obtain ⟨r, st, rs, h1, h2, h3⟩ := h
  exact ExB.tex e (fun xs z => by rw [h1] at z; cases z) fun o xs z => by rw [h1] at z; cases z
/-- D is not the list in the box -/
def OffB (b D : Addr) (H : Hp) : Prop := ∀ r v, H b = some (.lst [.ref r, v]) → r ≠ D
/-- only the box has been drawn from -/
structure BTo (b : Addr) (H H' : Hp) : Prop where
  ex : ExB b H H'
  box : Box H' b
  off : ∀ D xs, H D = some (.lst xs) → OffB b D H → OffB b D H'
theorem BTo.refl {b : Addr} {H : Hp} (h : Box H b) : BTo b H H := ⟨ExB.refl b H, h, fun _ _ _ h => h⟩
theorem BTo.of {b : Addr} {H H' : Hp} (h : Box H b) (e : Same H H') : BTo b H H' := ⟨Same.exb b e, h.ext e, fun D xs _ o r v hb => by
  obtain ⟨r0, st, rs, h1, _⟩ := h
  have q := e b _ h1
  rw [q] at hb
  cases hb
  exact o _ _ h1⟩
theorem BTo.trans {b : Addr} {H H1 H2 : Hp} (x : BTo b H H1) (y : BTo b H1 H2) (hb : ∀ D xs, H D = some (.lst xs) → D ≠ b → H1 D = some (.lst xs)) : BTo b H H2 := ⟨x.ex.trans y.ex, y.box, fun D xs hD o => by
  by_cases n : D = b
  · subst n
    obtain ⟨r1, st1, rs1, q1, q2, _⟩ := x.box
    exact y.off D _ q1 (x.off D xs hD o)
  · exact y.off D xs (hb D xs hD n) (x.off D xs hD o)⟩
theorem BTo.tr {b : Addr} {H H1 H2 : Hp} (x : BTo b H H1) (y : BTo b H1 H2) : BTo b H H2 := x.trans y fun D xs hD n => x.ex D _ n hD
def sp_box (K : PySem.W.Frag) : Sp := fun vs H Q _ => ∃ (a : Addr) (ns : List Int), vs = [.ref a] ∧ SqL K H a (ns.map V.int) ∧ ns.length ≤ 63 ∧ ∀ H' b, Same H H' → Box H' b → Q (.ref b) H'
theorem ok__law_box (T : T P K mg) : FnOk P w K mg base C8.CX0 1 (He.ga K "_law_box") (fdAt K d__law_box) ["script"] (sp_box K) := by
  refine FunD.ok T.f__law_box sc__law_box (fun vs H Q E h => ?_) (fun cdv A outer s H vs Q E hr h => ⟨_, PSs.nox (pss_cons
(ps_par (i := 1) (j := 2) (by rfl) sc__law_box.nd rfl rfl (by decide) rfl rfl (pa_cons (pe_lst pa_nil) (pa_cons pe_int pa_nil)) (by rfl))
(pss_cons
(ps_for PassesOwn.never rfl (pi_enum (by rfl) T.b_enumerate (pa_cons (pe_slice sl_list (pv 0) po_none (po_some pe_int)) pa_nil)) (pg_tup rfl (pgs_cons (pg_name (i := 3) sc__law_box.nd rfl (.inl rfl)) (pgs_cons (pg_name (i := 4) sc__law_box.nd rfl (.inl rfl)) pgs_nil))) (pss_cons
(ps_set (i := 5) sc__law_box.nd rfl (.inl rfl) (pe_op op_add (pe_op op_mul (pe_callB call_abs (by rfl) T.b_abs (by decide +kernel) (pa_cons (pv 4) pa_nil)) pe_int) (pe_callTy call_int1 (by rfl) T.b_int (by decide +kernel) (pa_cons (pe_cmpR op_lt (pv 4) pe_int (nomark _)) pa_nil))))
(pss_cons
(ps_if (pt_cmpR op_ge (pe_callB call_abs (by rfl) T.b_abs (by decide +kernel) (pa_cons (pv 4) pa_nil)) (pe_op op_pow pe_int pe_int) (nomark _)) (pss_one
(ps_expr (pe_bm PySem.F.plainAttrs_list PySem.F.slot_list_append PySem.F.type_list_append mt_append (pv 1) (pa_cons (pe_callB call_abs (by rfl) T.b_abs (by decide +kernel) (pa_cons (pv 4) pa_nil)) pa_nil)))) pss_nil)
(pss_one
(ps_set (i := 2) sc__law_box.nd rfl (.inl rfl) (pe_op op_add (pe_op op_mod (pe_callTy call_int1 (by rfl) T.b_int (by decide +kernel) (pa_cons (pe_op op_add (pe_op op_add (pe_op op_mul (pv 2) pe_int) (pe_op op_mul (pe_op op_mod (pe_callTy call_int1 (by rfl) T.b_int (by decide +kernel) (pa_cons (pv 5) pa_nil)) pe_int) (pe_op op_add (pe_op op_mul pe_int (pv 3)) pe_int))) pe_int) pa_nil)) pe_int) pe_int))))))
(pss_one
(ps_ret (pe_lst (pa_cons (pv 1) (pa_cons (pv 2) pa_nil))))))), ?_⟩)
  · obtain ⟨a, ns, rfl, _⟩ := h
    rfl
  · obtain ⟨a, ns, rfl, hS, hn, hQ⟩ := h
    refine ⟨Nat.zero_le _, fun l nl => ?_⟩
    refine ⟨_, _, rfl, ?_⟩
    have e1 := upd_ext (o := .lst []) nl
    refine ⟨_, rfl, _, rfl, a, _, rfl, SqL.ext e1 hS, fun c nc => ?_⟩
    have e2 := Same.trans e1 (upd_ext (o := .lst (cutV (ns.map V.int) none (some 63))) nc)
    refine ⟨c, _, rfl, SqL.of upd_same, ?_⟩
    have hcut : ∃ ms : List Int, cutV (ns.map V.int) none (some 63) = ms.map V.int ∧ ms.length ≤ 63 := by
      refine ⟨ns, ?_, hn⟩
      unfold cutV
      rw [show (some (63 : Int)) = some ((63 : Nat) : Int) from rfl, HT.sIx_nat, List.length_map]
      have e : min 63 ns.length = ns.length := by omega
      rw [e]
      show ((ns.map V.int).drop 0).take (ns.length - 0) = _
      rw [List.drop_zero, Nat.sub_zero, List.take_of_length_le (by simp)]
    obtain ⟨ms, hms, hml⟩ := hcut
    rw [hms] at e2 ⊢
    have hl2 : upd (upd H l (.lst [])) c (.lst (ms.map V.int)) l = some (.lst (([] : List Int).map V.int)) := by
      have q : upd H l (.lst []) l = some (.lst []) := upd_same
      rw [upd_ne (ne_of_none q nc)]
      exact q
    have ncl : c ≠ l := fun z => by
      rw [z] at nc
      rw [upd_same] at nc
      cases nc
    refine for_enumL (K := K) (xs := ms.map V.int) (fun i σ H' => Same H H' ∧ H' c = some (.lst (ms.map V.int)) ∧ ∃ (rs : List Int) (st : Int) (x y z : Option V), H' l = some (.lst (rs.map V.int)) ∧ rs.length ≤ i ∧ 0 ≤ st ∧ st < 2147483630 ∧ σ = [some (.ref a), some (.ref l), some (.int st), x, y, z])
      ⟨e2, upd_same, [], 51407, none, none, none, hl2, Nat.zero_le _, by decide, by decide, rfl⟩ (fun i σ H' _ h => SqL.of h.2.1) ?_ ?_
    · rintro i y σ H' hy ⟨e3, hc3, rs, st, x1, x2, x3, hl3, hrl, hs1, hs2, rfl⟩ p np
      obtain ⟨n, hn2, rfl⟩ : ∃ n, ms[i]? = some n ∧ V.int n = y := by
        rw [List.getElem?_map] at hy
        cases q : ms[i]? with
        | none =>
          rw [q] at hy
          cases hy
        | some g =>
          rw [q] at hy
          exact ⟨g, rfl, Option.some.inj hy⟩
      have hi : i < 63 := by
        have z := (List.getElem?_eq_some_iff.mp hn2).1
        omega
      have e4 := Same.trans e3 (upd_ext (o := .tup [.int (i : Nat), .int n]) np)
      have hc4 := upd_ext (o := .tup [.int (i : Nat), .int n]) np c _ hc3
      have hl4 := upd_ext (o := .tup [.int (i : Nat), .int n]) np l _ hl3
      have nlH : l ≠ c := Ne.symm ncl
      refine ⟨p, _, rfl, SqT.of upd_same, rfl, _, _, rfl, _, _, rfl, rfl, ?_⟩
      refine ⟨_, rfl, n, rfl, _, _, rfl, rfl, .inr ⟨by decide, by decide⟩, _, rfl, _, _, rfl, rfl, .inr ⟨_, rfl, _, _, rfl, rfl, ?_⟩⟩
      refine ⟨_, rfl, n, rfl, _, _, rfl, rfl, ⟨by decide, by decide, by decide⟩, _, _, rfl, rfl, _, rfl, ?_⟩
      refine if_b (fun c1 => ?_) fun c1 => ?_
      · refine ⟨_, rfl, .inl ⟨rfl, _, SqL.of hl4⟩, _, rfl, n, rfl, l, _, _, rfl, rfl, hl4, by rw [List.length_map, sizeLine_eq]; omega, ?_⟩
        refine ⟨_, rfl, _, _, rfl, rfl, .inl ⟨by omega, by omega⟩, _, rfl, .inl ⟨_, rfl, _, _, rfl, rfl, (by decide : (0 : Int) < 2147483629), _, rfl, _, _, rfl, rfl, .inl ⟨by decide, by decide⟩, _, _, rfl, rfl, _, _, rfl, rfl, .inl ⟨?_, ?_⟩, _, _, rfl, rfl, _, _, rfl, rfl, .inl ⟨_, rfl, _, _, rfl, rfl, (by decide : (0 : Int) < 2147483629), _, _, rfl, rfl, Same.over (Same.refl H) nl e4, (by rw [upd_ne ncl]; exact hc4), rs ++ [if n < 0 then -n else n], _, _, _, _, (by rw [upd_same, List.map_append]; rfl), (by rw [List.length_append, List.length_singleton]; omega), ?_, ?_, rfl⟩⟩⟩
        · have z := Int.emod_nonneg ((if n < 0 then -n else n) * 2 + (if decide (n < 0) then 1 else 0)) (by decide : (2147483629 : Int) ≠ 0)
          omega
        · have z := Int.emod_lt_of_pos ((if n < 0 then -n else n) * 2 + (if decide (n < 0) then 1 else 0)) (by decide : (0 : Int) < 2147483629)
          omega
        · have z := Int.emod_nonneg (st * 48271 + ((if n < 0 then -n else n) * 2 + (if decide (n < 0) then 1 else 0)) % 2147483629 * (2 * ((i : Nat) : Int) + 50021) + 17) (by decide : (2147483629 : Int) ≠ 0)
          omega
        · have z := Int.emod_lt_of_pos (st * 48271 + ((if n < 0 then -n else n) * 2 + (if decide (n < 0) then 1 else 0)) % 2147483629 * (2 * ((i : Nat) : Int) + 50021) + 17) (by decide : (0 : Int) < 2147483629)
          omega
      · refine ⟨_, rfl, _, _, rfl, rfl, .inl ⟨by omega, by omega⟩, _, rfl, .inl ⟨_, rfl, _, _, rfl, rfl, (by decide : (0 : Int) < 2147483629), _, rfl, _, _, rfl, rfl, .inl ⟨by decide, by decide⟩, _, _, rfl, rfl, _, _, rfl, rfl, .inl ⟨?_, ?_⟩, _, _, rfl, rfl, _, _, rfl, rfl, .inl ⟨_, rfl, _, _, rfl, rfl, (by decide : (0 : Int) < 2147483629), _, _, rfl, rfl, e4, hc4, rs, _, _, _, _, hl4, (by omega), ?_, ?_, rfl⟩⟩⟩
        · have z := Int.emod_nonneg ((if n < 0 then -n else n) * 2 + (if decide (n < 0) then 1 else 0)) (by decide : (2147483629 : Int) ≠ 0)
          omega
        · have z := Int.emod_lt_of_pos ((if n < 0 then -n else n) * 2 + (if decide (n < 0) then 1 else 0)) (by decide : (0 : Int) < 2147483629)
          omega
        · have z := Int.emod_nonneg (st * 48271 + ((if n < 0 then -n else n) * 2 + (if decide (n < 0) then 1 else 0)) % 2147483629 * (2 * ((i : Nat) : Int) + 50021) + 17) (by decide : (2147483629 : Int) ≠ 0)
          omega
        · have z := Int.emod_lt_of_pos (st * 48271 + ((if n < 0 then -n else n) * 2 + (if decide (n < 0) then 1 else 0)) % 2147483629 * (2 * ((i : Nat) : Int) + 50021) + 17) (by decide : (0 : Int) < 2147483629)
          omega
    · rintro σ H' ⟨e3, hc3, rs, st, x1, x2, x3, hl3, hrl, hs1, hs2, rfl⟩
      refine ⟨_, rfl, _, rfl, by show 2 ≤ sizeLine; rw [sizeLine_eq]; decide, fun q nq => ?_⟩
      have e4 := upd_ext (o := .lst [.ref l, .int st]) nq
      exact hQ _ q (Same.trans e3 e4) ⟨l, st, rs, upd_same, e4 l _ hl3, (by have z : rs.length ≤ 63 := Nat.le_trans hrl (by rw [List.length_map]; exact hml); omega), hs1, by omega⟩
end K85

set_option Elab.async false
set_option linter.all false
set_option maxRecDepth 100000
set_option maxHeartbeats 2000000
namespace K85
open PySem PySem.Spec PyProof.Rows L2 LamX Ey
variable {P : Program} {w : World} {K : PySem.W.Frag} {mg : Str → Option Value} {base : Heap}
def sp_take (K : PySem.W.Frag) : Sp := fun vs H Q _ => ∃ (b : Addr) (m : Nat), vs = [.ref b, .int (m : Int)] ∧ Box H b ∧ 0 < m ∧ m < 1073741824 ∧ ∀ (n : Nat) H', n < m → BTo b H H' → Q (.int (n : Int)) H'
theorem dp_ints {H : Hp} {r : Addr} {rs : List Int} (h : H r = some (.lst (rs.map V.int))) : Dp K H (.ref r) (.list (rs.map PyData.int)) := by
  refine .lst (SqL.of h) ?_
  clear h
  induction rs with
  | nil => exact .nil
  | cons n rs ih => exact .cons (.int n) ih
theorem mod_nat (x : Int) {m : Nat} (h : 0 < m) : ∃ n : Nat, x % (m : Int) = (n : Int) ∧ n < m := by
  have h1 := Int.emod_nonneg x (by omega : (m : Int) ≠ 0)
  have h2 := Int.emod_lt_of_pos x (by omega : (0 : Int) < m)
  exact ⟨(x % (m : Int)).toNat, by omega, by omega⟩
theorem cut_tail (c : Int) (rs : List Int) : cutV ((c :: rs).map V.int) (some 1) none = rs.map V.int := by
  unfold cutV
  rw [show (some (1 : Int)) = some ((1 : Nat) : Int) from rfl, HT.sIx_nat, HT.sIx_none]
  have e : min 1 ((c :: rs).map V.int).length = 1 := by
    simp only [List.length_map, List.length_cons]
    omega
  rw [e]
  show (rs.map V.int).take _ = _
  rw [List.take_of_length_le]
  simp
theorem ok__law_take (T : T P K mg) : FnOk P w K mg base C8.CX0 1 (He.ga K "_law_take") (fdAt K d__law_take) ["box", "many"] (sp_take K) := by
  refine FunD.ok T.f__law_take sc__law_take (fun vs H Q E h => ?_) (fun cdv A outer s H vs Q E hr h => ⟨_, PSs.nox (pss_cons
(ps_if (pt_cmpR (op_neD hr.units) (pe_ix ix_list (pv 0) pe_int (fun _ _ => rfl)) (pe_lst pa_nil) (nomark _)) (pss_cons
(ps_set (i := 2) sc__law_take.nd rfl (.inl rfl) (pe_ix ix_list (pe_ix ix_list (pv 0) pe_int (fun _ _ => rfl)) pe_int (fun _ _ => rfl)))
(pss_cons
(ps_asg (pe_op op_cat (pe_ifExp (pt_cmpR op_ge (pv 2) (pv 1) (nomark _)) (pe_lst (pa_cons (pe_op op_fdiv (pv 2) (pv 1)) pa_nil)) (pe_lst pa_nil)) (pe_slice sl_list (pe_ix ix_list (pv 0) pe_int (fun _ _ => rfl)) (po_some pe_int) po_none)) (pg_sub (pv 0) pe_int set_list))
(pss_one
(ps_ret (pe_op op_mod (pe_callTy call_int1 (by rfl) T.b_int (by decide +kernel) (pa_cons (pv 2) pa_nil)) (pv 1)))))) pss_nil)
(pss_cons
(ps_asg (pe_op op_mod (pe_callTy call_int1 (by rfl) T.b_int (by decide +kernel) (pa_cons (pe_op op_mul (pe_ix ix_list (pv 0) pe_int (fun _ _ => rfl)) pe_int) pa_nil)) pe_int) (pg_sub (pv 0) pe_int set_list))
(pss_one
(ps_ret (pe_op op_mod (pe_callTy call_int1 (by rfl) T.b_int (by decide +kernel) (pa_cons (pe_op op_fdiv (pe_op op_add (pe_op op_mul (pe_ix ix_list (pv 0) pe_int (fun _ _ => rfl)) pe_int) pe_int) pe_int) pa_nil)) (pv 1)))))), ?_⟩)
  · obtain ⟨b, m, rfl, _⟩ := h
    rfl
  · obtain ⟨b, m, rfl, B, hm1, hm2, hQ⟩ := h
    obtain ⟨r, st, rs, hb, hr0, hrl, hs1, hs2⟩ := id B
    have hi0 : atI [V.ref r, V.int st] 0 = some (.ref r) := atI_nat (j := 0) rfl
    have hi1 : atI [V.ref r, V.int st] 1 = some (.int st) := atI_nat (j := 1) rfl
    refine ⟨_, rfl, b, _, _, _, rfl, rfl, SqL.of hb, hi0, Nat.zero_le _, fun e ne => ?_⟩
    have e1 := upd_ext (o := .lst []) ne
    have hb1 := e1 b _ hb
    have hr1 := e1 r _ hr0
    refine ⟨.list (rs.map PyData.int), .list [], dp_ints hr1, .lst (SqL.of upd_same) .nil, PySem.W.shaped_ints rs, PySem.W.shaped_ints [], _, rfl, ?_⟩
    have nbr : b ≠ r := fun z => by
      rw [z, hr0] at hb
      cases rs with
      | nil => cases hb
      | cons n rs =>
        have q := HO.lst.inj (Option.some.inj hb)
        cases q
    cases rs with
    | cons c rs =>
      refine if_t rfl ?_
      refine ⟨_, rfl, b, _, _, _, rfl, rfl, SqL.of hb1, hi0, r, _, _, _, rfl, rfl, SqL.of hr1, atI_nat (j := 0) rfl, ?_⟩
      have done : ∀ (H2 : Hp) (t : Addr) (ms : List Int), Same H H2 → H2 t = some (.lst (ms.map V.int)) → ms.length ≤ 64 → (∀ D xs, H D = some (.lst xs) → D ≠ t) → t ≠ b →
          Q (.int (c % (m : Int))) (upd H2 b (.lst [.ref t, .int st])) := by
        intro H2 t ms e2 ht hml hnt ntb
        obtain ⟨n, en, hn⟩ := mod_nat c hm1
        rw [en]
        refine hQ n _ hn ⟨ExB.trans (Same.exb b e2) upd_exb, ⟨t, st, ms, upd_same, by rw [upd_ne ntb]; exact ht, hml, hs1, hs2⟩, fun D xs hD _ r' v' q => ?_⟩
        rw [upd_same] at q
        cases q
        exact Ne.symm (hnt D xs hD)
      have hcs : ∀ H2, Same H H2 → H2 b = some (.lst [.ref r, .int st]) := fun H2 e2 => e2 b _ hb
      have hcr : ∀ H2, Same H H2 → H2 r = some (.lst ((c :: rs).map V.int)) := fun H2 e2 => e2 r _ hr0
      have lsz : ∀ n, n ≤ 65 → n ≤ sizeLine := fun n h => by
        rw [sizeLine_eq]
        omega
      refine ⟨_, rfl, _, rfl, _, _, rfl, rfl, _, rfl, ?_⟩
      refine if_b (fun c1 => ?_) fun c1 => ?_
      · refine ⟨_, rfl, _, rfl, _, _, rfl, rfl, ⟨by omega, by omega⟩, one_line, fun p np => ?_⟩
        have e2 := Same.trans e1 (upd_ext (o := .lst [.int (c / (m : Int))]) np)
        refine ⟨_, rfl, b, _, _, _, rfl, rfl, SqL.of (hcs _ e2), hi0, 1, rfl, r, _, rfl, SqL.of (hcr _ e2), fun q nq => ?_⟩
        rw [cut_tail]
        have e3 := Same.trans e2 (upd_ext (o := .lst (rs.map V.int)) nq)
        have hp3 := upd_ext (o := .lst (rs.map V.int)) nq p (.lst [.int (c / (m : Int))]) upd_same
        refine ⟨p, q, _, _, rfl, rfl, hp3, upd_same, lsz _ (by simp only [List.length_map, List.length_cons, List.length_nil] at hrl ⊢; omega), fun t nt => ?_⟩
        have e4 := Same.trans e3 (upd_ext (o := .lst ([.int (c / (m : Int))] ++ rs.map V.int)) nt)
        have ntb : t ≠ b := fun z => by
          have q := hcs _ e3
          rw [← z, nt] at q
          cases q
        refine ⟨_, rfl, b, _, 0, 0, rfl, rfl, hcs _ e4, rfl, ?_⟩
        refine ⟨_, rfl, .inl ⟨_, rfl, _, rfl, _, _, rfl, rfl, by omega, ?_⟩⟩
        exact done _ t ((c / (m : Int)) :: rs) e4 (by rw [upd_same]; rfl) (by simp only [List.length_cons] at hrl ⊢; omega) (fun D xs hD z => by have q := e3 D _ hD; rw [z, nt] at q; cases q) ntb
      · refine ⟨Nat.zero_le _, fun p np => ?_⟩
        have e2 := Same.trans e1 (upd_ext (o := .lst []) np)
        refine ⟨_, rfl, b, _, _, _, rfl, rfl, SqL.of (hcs _ e2), hi0, 1, rfl, r, _, rfl, SqL.of (hcr _ e2), fun q nq => ?_⟩
        rw [cut_tail]
        have e3 := Same.trans e2 (upd_ext (o := .lst (rs.map V.int)) nq)
        have hp3 := upd_ext (o := .lst (rs.map V.int)) nq p (.lst []) upd_same
        refine ⟨p, q, _, _, rfl, rfl, hp3, upd_same, lsz _ (by simp only [List.length_map, List.length_cons, List.length_nil] at hrl ⊢; omega), fun t nt => ?_⟩
        have e4 := Same.trans e3 (upd_ext (o := .lst ([] ++ rs.map V.int)) nt)
        have ntb : t ≠ b := fun z => by
          have q := hcs _ e3
          rw [← z, nt] at q
          cases q
        refine ⟨_, rfl, b, _, 0, 0, rfl, rfl, hcs _ e4, rfl, ?_⟩
        refine ⟨_, rfl, .inl ⟨_, rfl, _, rfl, _, _, rfl, rfl, by omega, ?_⟩⟩
        exact done _ t rs e4 (by rw [upd_same]; rfl) (by simp only [List.length_cons] at hrl ⊢; omega) (fun D xs hD z => by have q := e3 D _ hD; rw [z, nt] at q; cases q) ntb
    | nil =>
      refine if_f rfl ?_
      have z0 := Int.emod_nonneg (st * 48271) (by decide : (2147483647 : Int) ≠ 0)
      have z1 := Int.emod_lt_of_pos (st * 48271) (by decide : (0 : Int) < 2147483647)
      refine ⟨_, rfl, b, _, _, _, rfl, rfl, SqL.of hb1, hi1, _, _, rfl, rfl, .inl ⟨by omega, by omega⟩, .inl ⟨_, rfl, _, _, rfl, rfl, (by decide : (0 : Int) < 2147483647), _, rfl, b, _, 1, 1, rfl, rfl, hb1, rfl, ?_⟩⟩
      have hb2 : upd (upd H e (.lst [])) b (.lst ([.ref r, .int st].set 1 (.int (st * 48271 % 2147483647)))) b = some (.lst [.ref r, .int (st * 48271 % 2147483647)]) := upd_same
      refine ⟨_, rfl, b, _, _, _, rfl, rfl, SqL.of hb2, atI_nat (j := 1) rfl, _, _, rfl, rfl, .inl ⟨by omega, by omega⟩, _, _, rfl, rfl, _, _, rfl, rfl, ⟨by decide, by decide⟩, .inl ⟨_, rfl, _, rfl, _, _, rfl, rfl, by omega, ?_⟩⟩
      obtain ⟨n, en, hn⟩ := mod_nat ((st * 48271 % 2147483647 * 69621 + 7) / 1013) hm1
      show Q (.int (((st * 48271 % 2147483647 * 69621 + 7) / 1013) % (m : Int))) _
      rw [en]
      refine hQ n _ hn ⟨ExB.trans (Same.exb b e1) upd_exb, ⟨r, _, [], upd_same, by rw [upd_ne (Ne.symm nbr)]; exact hr1, Nat.zero_le _, z0, by omega⟩, fun D xs hD o r' v' q => ?_⟩
      rw [upd_same] at q
      cases q
      exact o _ _ hb
end K85

set_option Elab.async false
set_option linter.all false
set_option maxRecDepth 100000
set_option maxHeartbeats 2000000
namespace K85
open PySem PySem.Spec PyProof.Rows L2 LamX Ey
variable {P : Program} {w : World} {K : PySem.W.Frag} {mg : Str → Option Value} {base : Heap}
def sp_pick (K : PySem.W.Frag) : Sp := fun vs H Q _ => ∃ (b l : Addr) (xs : List V), vs = [.ref b, .ref l] ∧ Box H b ∧ H l = some (.lst xs) ∧ l ≠ b ∧ 0 < xs.length ∧ xs.length < 1073741824 ∧ ∀ x ∈ xs, ∀ H', BTo b H H' → Q x H'
theorem ok__law_pick (T : T P K mg) : FnOk P w K mg base C8.CX0 2 (He.ga K "_law_pick") (fdAt K d__law_pick) ["box", "some"] (sp_pick K) := by
  refine FunD.ok T.f__law_pick sc__law_pick (fun vs H Q E h => ?_) (fun cdv A outer s H vs Q E hr h => ⟨_, PSs.nox (pss_one
(ps_ret (pe_ix ix_list (pv 1) (pe_call (ok__law_take T) (hr.mono (by first | decide | omega | (simp only [Nat.add_eq]; omega))) rfl T.g__law_take T.f__law_take.kp (bn__law_take T.f__law_take) .nil (C8.pass0 (E := C8.E0)) (pa_cons (pv 0) (pa_cons (pe_callB call_len_seq (by rfl) T.b_len (by decide +kernel) (pa_cons (pv 1) pa_nil)) pa_nil))) (fun _ _ => rfl)))), ?_⟩)
  · obtain ⟨b, l, xs, rfl, _⟩ := h
    rfl
  · obtain ⟨b, l, xs, rfl, B, hl, hlb, h1, h2, hQ⟩ := h
    refine ⟨_, rfl, _, rfl, _, rfl, l, _, rfl, .inl (SqL.of hl), b, xs.length, rfl, B, h1, h2, fun n H' hn e => ?_⟩
    have hx : xs[n]? = some xs[n] := List.getElem?_eq_getElem hn
    exact ⟨l, _, _, _, rfl, rfl, SqL.of (e.ex l _ hlb hl), atI_nat hx, hQ _ (List.getElem_mem hn) _ e⟩
/-- a comprehension over zip of two tuples -/
theorem lc_zipT {K : PySem.W.Frag} {a b : Addr} {xs ys : List V} {g : TG} {tt : TT} {te : TE} {vs : List Nat} {σ : L2.St} {H1 : Hp} {D : Addr} {Qd : Hp → Prop} (hxy : xs.length = ys.length) (Pv : Nat → Hp → Prop) (h0 : Pv 0 (upd H1 D (.lst [])))
    (hl : ∀ i H, i ≤ xs.length → Pv i H → SqT K H a xs ∧ SqT K H b ys)
    (hs : ∀ i x y H, xs[i]? = some x → ys[i]? = some y → Pv i H → ∀ T, H T = none → g (.ref T) (wipe σ vs) (upd H T (.tup [x, y])) fun σ2 H2 => wipe σ2 vs = wipe σ vs ∧ tt σ2 H2 fun b H3 =>
      if b = true then te σ2 H3 fun y H4 => ∃ acc, H4 D = some (.lst acc) ∧ acc.length < sizeLine ∧ Pv (i + 1) (upd H4 D (.lst (acc ++ [y]))) else Pv (i + 1) H3) (hd : ∀ H, Pv xs.length H → Qd H) :
    ∃ W : Nat → Nat → Hp → Prop, (∃ m, W 0 m (upd H1 D (.lst []))) ∧ ∀ i m H, W i m H →
      (((RZ.ItzT K a b).stop i H ∧ Qd H) ∨ ((RZ.ItzT K a b).go i H ∧ ∃ Nx : Hp → Prop, (∀ H', Nx H' → ∃ m', m' < m ∧ W (i + 1) m' H') ∧ ∀ x H', (RZ.ItzT K a b).yld i H x H' → g x (wipe σ vs) H' fun σ2 H2 => wipe σ2 vs = wipe σ vs ∧ tt σ2 H2 fun b H3 =>
        if b = true then te σ2 H3 fun y H4 => ∃ acc, H4 D = some (.lst acc) ∧ acc.length < sizeLine ∧ Nx (upd H4 D (.lst (acc ++ [y]))) else Nx H3)) := by
  refine ⟨fun i m H => m = xs.length - i ∧ i ≤ xs.length ∧ Pv i H, ⟨_, rfl, Nat.zero_le _, h0⟩, ?_⟩
  rintro i m H ⟨rfl, hi, p⟩
  obtain ⟨q1, q2⟩ := hl i H hi p
  by_cases hlt : i < xs.length
  · obtain ⟨x, hx⟩ : ∃ x, xs[i]? = some x := ⟨_, List.getElem?_eq_getElem hlt⟩
    obtain ⟨y, hy⟩ : ∃ y, ys[i]? = some y := ⟨_, List.getElem?_eq_getElem (by omega)⟩
    refine .inr ⟨⟨xs, ys, x, y, q1, q2, hx, hy⟩, Pv (i + 1), fun H' p' => ⟨xs.length - (i + 1), by omega, rfl, hlt, p'⟩, fun v H' z => ?_⟩
    obtain ⟨T, x', y', rfl, hT, rfl, hx', hy'⟩ := z
    have e1 := hx' xs q1
    have e2 := hy' ys q2
    rw [hx] at e1
    rw [hy] at e2
    cases e1
    cases e2
    exact hs i x y H hx hy p T hT
  · have e : i = xs.length := by omega
    subst e
    exact .inl ⟨⟨xs, ys, q1, q2, .inl (Nat.le_refl _)⟩, hd _ p⟩
def depB : Nat → PyData → Bool
  | k + 1, .tuple ds => ds.all (depB k)
  | 0, .tuple _ => false
  | _, _ => true
def sp_is (K : PySem.W.Frag) (n : Nat) : Sp := fun vs H Q _ => ∃ v1 v2 d k, vs = [v1, v2] ∧ Dp K H v1 d ∧ Dp K H v2 d ∧ NoL d ∧ depB k d = true ∧ k < n ∧ ∀ H', Same H H' → Q (.bl true) H'
theorem ok__law_is (T : T P K mg) : ∀ n : Nat, FnOk P w K mg base C8.CX0 n (He.ga K "_law_is") (fdAt K d__law_is) ["told", "due"] (sp_is K n)
  | 0 => by
    refine ⟨fun vs H Q E h => ?_, fun A outer s H args us vs Q E hr e0 hb hv h => ?_⟩
    · obtain ⟨v1, v2, d, k, rfl, _⟩ := h
      rfl
    · obtain ⟨v1, v2, d, k, _, _, _, _, _, h, _⟩ := h
      omega
  | n + 1 => by
    have ok__law_is := fun (_ : K85.T P K mg) => ok__law_is T n
    refine FunD.ok T.f__law_is sc__law_is (fun vs H Q E h => ?_) (fun cdv A outer s H vs Q E hr h => ⟨_, PSs.nox (pss_cons
(ps_if (pt_val (pe_callB call_isD (by rfl) T.b_isinstance (by decide +kernel) (pa_cons (pv 1) (pa_cons (pe_bltn (v := .ty "tuple") (by rfl) T.b_tuple (by decide +kernel) rfl) pa_nil)))) (pss_cons
(ps_if (PW.pt (pw_or (pt_not (pt_val (pe_callB call_isD (by rfl) T.b_isinstance (by decide +kernel) (pa_cons (pv 0) (pa_cons (pe_bltn (v := .ty "tuple") (by rfl) T.b_tuple (by decide +kernel) rfl) pa_nil))))) (pw_or1 (pt_cmpR op_ne (pe_callB call_len_seq (by rfl) T.b_len (by decide +kernel) (pa_cons (pv 0) pa_nil)) (pe_callB call_len_seq (by rfl) T.b_len (by decide +kernel) (pa_cons (pv 1) pa_nil)) (nomark _))))) (pss_one
(ps_ret pe_bl)) pss_nil)
(pss_one
(ps_ret (pe_cmpR (op_eqD hr.units) (pe_lc (own := [("one", 2), ("other", 3)]) (g := gTup K 2 (gCons (gName 2) (gCons (gName 3) gNil))) rfl sc__law_is.nd (RZ.pi_zipA (by rfl) T.b_zip (pa_cons (pv 0) (pa_cons (pv 1) pa_nil))) (blkOk_by (own := [("one", 2), ("other", 3)]) (N := N__law_is) (sc := defScope s__law_is) (by decide +kernel)) (fun _ _ _ _ _ => (pg_tup rfl (pgs_cons (pg_name (i := 2) sc__law_is.nd rfl (.inl rfl)) (pgs_cons (pg_name (i := 3) sc__law_is.nd rfl (.inl rfl)) pgs_nil)))) (fun _ _ _ _ _ => pts_one (pt_not (pt_val (pe_call (ok__law_is T) (hr.mono (by first | decide | omega | (simp only [Nat.add_eq]; omega))) rfl T.g__law_is T.f__law_is.kp (bn__law_is T.f__law_is) .nil (C8.pass0 (E := C8.E0)) (pa_cons (pv 2) (pa_cons (pv 3) pa_nil)))))) (fun _ _ _ _ _ => pe_int)) (pe_lst pa_nil) (nomark _))))) pss_nil)
(pss_cons
(ps_if (PW.pt (pw_or (pt_cmpR op_isN (pv 1) pe_non (nomark _)) (pw_or (pt_cmpR Ey.op_isBo (pv 1) pe_bl (nomark _)) (pw_or1 (pt_cmpR Ey.op_isBo (pv 1) pe_bl (nomark _)))))) (pss_one
(ps_ret (pe_ifExp (pt_cmpR op_isN (pv 1) pe_non (nomark _)) (pe_cmpR op_isN (pv 0) pe_non (nomark _)) (pe_ifExp (pt_cmpR Ey.op_isBo (pv 1) pe_bl (nomark _)) (pe_cmpR Ey.op_isBo (pv 0) pe_bl (nomark _)) (pe_cmpR Ey.op_isBo (pv 0) pe_bl (nomark _)))))) pss_nil)
(pss_cons
(ps_if (pt_val (pe_callB call_isD (by rfl) T.b_isinstance (by decide +kernel) (pa_cons (pv 1) (pa_cons (pe_bltn (v := .ty "int") (by rfl) T.b_int (by decide +kernel) rfl) pa_nil)))) (pss_one
(ps_ret (pe_and (pe_callB call_isD (by rfl) T.b_isinstance (by decide +kernel) (pa_cons (pv 0) (pa_cons (pe_bltn (v := .ty "int") (by rfl) T.b_int (by decide +kernel) rfl) pa_nil))) (pe_and (pe_not (pe_callB call_isD (by rfl) T.b_isinstance (by decide +kernel) (pa_cons (pv 0) (pa_cons (pe_bltn (v := .ty "bool") (by rfl) T.b_bool (by decide +kernel) rfl) pa_nil)))) (pe_one (pe_cmpR op_eq (pv 0) (pv 1) (nomark _))))))) pss_nil)
(pss_one
(ps_ret (pe_and (pe_callB call_isD (by rfl) T.b_isinstance (by decide +kernel) (pa_cons (pv 1) (pa_cons (pe_bltn (v := .ty "str") (by rfl) T.b_str (by decide +kernel) rfl) pa_nil))) (pe_and (pe_callB call_isD (by rfl) T.b_isinstance (by decide +kernel) (pa_cons (pv 0) (pa_cons (pe_bltn (v := .ty "str") (by rfl) T.b_str (by decide +kernel) rfl) pa_nil))) (pe_one (pe_cmpR op_eq (pv 0) (pv 1) (nomark _)))))))))), ?_⟩)
    · obtain ⟨v1, v2, d, k, rfl, _⟩ := h
      rfl
    · obtain ⟨v1, v2, d, k, rfl, h1, h2, hn, hk, hkn, hQ⟩ := h
      refine ⟨_, rfl, v2, "tuple", d, rfl, by simp [tyNames], h2, _, rfl, ?_⟩
      rw [ty_tup]
      cases d with
      | list ds => cases hn
      | dict ds => cases hn
      | tuple ds =>
        refine if_t rfl ?_
        refine ⟨_, rfl, v1, "tuple", _, rfl, by simp [tyNames], h1, _, rfl, ?_⟩
        rw [ty_tup]
        refine if_f rfl ?_
        obtain ⟨a1, xs1, rfl, s1, t1⟩ := Ey.Dp.tupOf h1
        obtain ⟨a2, xs2, rfl, s2, t2⟩ := Ey.Dp.tupOf h2
        have l1 := Ey.DpAll.length t1
        have l2 := Ey.DpAll.length t2
        refine ⟨_, rfl, a1, _, rfl, .inr s1, _, rfl, a2, _, rfl, .inr s2, rfl, _, rfl, ?_⟩
        refine if_f (by rw [l1, l2]; simp) ?_
        cases k with
        | zero => cases hk
        | succ k =>
        have hk : ds.all (depB k) = true := hk
        refine ⟨_, rfl, _, rfl, a1, a2, xs1, xs2, rfl, .inr ⟨s1, s2, fun D hD => ?_⟩⟩
        refine lc_zipT (K := K) (by rw [l1, l2]) (fun i H' => Same H H' ∧ H' D = some (.lst [])) ⟨upd_ext hD, upd_same⟩ (fun i H' _ h => ⟨SqT.ext h.1 s1, SqT.ext h.1 s2⟩) ?_ ?_
        · rintro i x y H' hx hy ⟨e1, hL⟩ p np
          obtain ⟨d, hd, hxd⟩ := Ey.DpAll.get t1 hx
          obtain ⟨d', hd', hyd⟩ := Ey.DpAll.get t2 hy
          rw [hd] at hd'
          cases hd'
          have e2 := Same.trans e1 (upd_ext (o := .tup [x, y]) np)
          have hm := List.mem_of_getElem? hd
          refine ⟨p, _, rfl, SqT.of upd_same, rfl, _, _, rfl, _, _, rfl, rfl, rfl, ?_⟩
          refine ⟨_, rfl, _, rfl, x, y, d, k, rfl, Dp.ext e2 _ _ hxd, Dp.ext e2 _ _ hyd, hn.mem d hm, List.all_eq_true.mp hk d hm, by omega, fun H3 e3 => ⟨_, rfl, ?_⟩⟩
          have hL3 := e3 D _ (upd_ext (o := .tup [x, y]) np D _ hL)
          exact if_f rfl ⟨Same.trans e2 e3, hL3⟩
        · rintro H' ⟨e1, hL⟩
          refine ⟨Nat.zero_le _, fun p np => ?_⟩
          have e2 := upd_ext (o := .lst []) np
          exact ⟨.list ([] : List PyData), .list ([] : List PyData), .lst (SqL.of (e2 D _ hL)) .nil, .lst (SqL.of upd_same) .nil, PySem.W.shaped_ints [], PySem.W.shaped_ints [], hQ _ (Same.trans e1 e2)⟩
      | none =>
        cases h1
        cases h2
        refine if_f rfl ?_
        refine ⟨_, rfl, rfl, _, rfl, ?_⟩
        refine if_t rfl ?_
        refine ⟨_, rfl, rfl, _, rfl, ?_⟩
        exact if_t rfl ⟨_, rfl, rfl, hQ H (Same.refl H)⟩
      | bool b =>
        cases h1
        cases h2
        refine if_f rfl ?_
        refine ⟨_, rfl, rfl, _, rfl, ?_⟩
        refine if_f rfl ?_
        refine ⟨_, rfl, _, rfl, _, rfl, ?_⟩
        cases b with
        | true =>
          refine if_t rfl ?_
          refine ⟨_, rfl, rfl, _, rfl, if_f rfl ?_⟩
          refine ⟨_, rfl, _, rfl, _, rfl, if_t rfl ?_⟩
          exact ⟨_, rfl, _, rfl, hQ H (Same.refl H)⟩
        | false =>
          refine if_f rfl ?_
          refine ⟨_, rfl, _, rfl, _, rfl, if_t rfl ?_⟩
          refine ⟨_, rfl, rfl, _, rfl, if_f rfl ?_⟩
          refine ⟨_, rfl, _, rfl, _, rfl, if_f rfl ?_⟩
          exact ⟨_, rfl, _, rfl, hQ H (Same.refl H)⟩
      | int i =>
        cases h1
        cases h2
        refine if_f rfl ?_
        refine ⟨_, rfl, rfl, _, rfl, if_f rfl ?_⟩
        refine ⟨_, rfl, _, rfl, _, rfl, if_f rfl ?_⟩
        refine ⟨_, rfl, _, rfl, _, rfl, if_f rfl ?_⟩
        refine ⟨_, rfl, _, "int", _, rfl, by simp [tyNames], .int i, _, rfl, if_t rfl ?_⟩
        refine ⟨_, rfl, _, "int", _, rfl, by simp [tyNames], .int i, _, rfl, if_t rfl ?_⟩
        refine ⟨_, rfl, _, "bool", _, rfl, by simp [tyNames], .int i, _, rfl, _, rfl, if_t rfl ?_⟩
        refine ⟨_, rfl, _, rfl, rfl, ?_⟩
        exact q_bl (decide_eq_true rfl) (hQ H (Same.refl H))
      | str z =>
        cases h1
        cases h2
        refine if_f rfl ?_
        refine ⟨_, rfl, rfl, _, rfl, if_f rfl ?_⟩
        refine ⟨_, rfl, _, rfl, _, rfl, if_f rfl ?_⟩
        refine ⟨_, rfl, _, rfl, _, rfl, if_f rfl ?_⟩
        refine ⟨_, rfl, _, "int", _, rfl, by simp [tyNames], .str z, _, rfl, if_f rfl ?_⟩
        refine ⟨_, rfl, _, "str", _, rfl, by simp [tyNames], .str z, _, rfl, if_t rfl ?_⟩
        refine ⟨_, rfl, _, "str", _, rfl, by simp [tyNames], .str z, _, rfl, if_t rfl ?_⟩
        refine ⟨_, rfl, _, rfl, rfl, ?_⟩
        exact q_bl (decide_eq_true rfl) (hQ H (Same.refl H))
end K85

set_option Elab.async false
set_option linter.all false
set_option maxRecDepth 100000
set_option maxHeartbeats 2000000
namespace K85
open PySem PySem.Spec PyProof.Rows L2 LamX Ey
variable {P : Program} {w : World} {K : PySem.W.Frag} {mg : Str → Option Value} {base : Heap}
/-- the things that the law draws -/
def words : List String := ["keeps", "a", "abcdefghijkl", "not", "again", "any", "x"]
inductive Dr : Nat → PyData → Prop
  | word {k : Nat} {s : String} (h : s ∈ words) : Dr k (.str (Str.ofString s))
  | int {k : Nat} {i : Int} (h1 : -9999 ≤ i) (h2 : i ≤ 9999) : Dr k (.int i)
  | none {k : Nat} : Dr k .none
  | tup {k : Nat} {ds : List PyData} (hl : ds.length ≤ 3) (h : ∀ d ∈ ds, Dr k d) : Dr (k + 1) (.tuple ds)
theorem Dr.noL {k : Nat} {d : PyData} (h : Dr k d) : NoL d := by
  induction h with
  | word => exact .str _
  | int => exact .int _
  | none => exact .none
  | tup _ _ ih => exact .tuple ih
theorem dr_strs {H : Hp} {x : V} {k : Nat} (h : x ∈ words.map fun s => V.str (Str.ofString s)) : ∃ d, Dr k d ∧ Dp K H x d := by
  obtain ⟨s, hs, rfl⟩ := List.mem_map.mp h
  exact ⟨_, .word hs, .str _⟩
def sp_thing (K : PySem.W.Frag) (n : Nat) : Sp := fun vs H Q _ => ∃ (b : Addr) (k : Nat), vs = [.ref b, .int (k : Int)] ∧ Box H b ∧ k < n ∧ ∀ v d H', Dr k d → Dp K H' v d → BTo b H H' → Q v H'
theorem ExB.new {H H' : Hp} {b l : Addr} (e : ExB b H H') (hb : Box H b) (hl : H' l = none) (hB : Box H' b) : l ≠ b := fun z => by
  obtain ⟨r, st, rs, h, _⟩ := hB
  rw [← z, hl] at h
  cases h
theorem Box.ne {H : Hp} {b l : Addr} (h : Box H b) (hl : H l = none) : l ≠ b := fun z => by
  obtain ⟨r, st, rs, h, _⟩ := h
  rw [← z, hl] at h
  cases h
theorem ok__law_thing (T : T P K mg) : ∀ n : Nat, FnOk P w K mg base C8.CX0 (3 + n) (He.ga K "_law_thing") (fdAt K d__law_thing) ["box", "deep"] (sp_thing K n)
  | 0 => by
    refine ⟨fun vs H Q E h => ?_, fun A outer s H args us vs Q E hr e0 hb hv h => ?_⟩
    · obtain ⟨b, k, rfl, _⟩ := h
      rfl
    · obtain ⟨b, k, _, _, h, _⟩ := h
      omega
  | n + 1 => by
    have ok__law_thing := fun (_ : K85.T P K mg) => ok__law_thing T n
    refine FunD.ok T.f__law_thing sc__law_thing (fun vs H Q E h => ?_) (fun cdv A outer s H vs Q E hr h => ⟨_, PSs.nox (pss_cons
(ps_set (i := 2) sc__law_thing.nd rfl (.inl rfl) (pe_ifExp (pt_cmpR op_gt (pv 1) pe_int (nomark _)) (pe_call (ok__law_take T) (hr.mono (by first | decide | omega | (simp only [Nat.add_eq]; omega))) rfl T.g__law_take T.f__law_take.kp (bn__law_take T.f__law_take) .nil (C8.pass0 (E := C8.E0)) (pa_cons (pv 0) (pa_cons pe_int pa_nil))) (pe_call (ok__law_take T) (hr.mono (by first | decide | omega | (simp only [Nat.add_eq]; omega))) rfl T.g__law_take T.f__law_take.kp (bn__law_take T.f__law_take) .nil (C8.pass0 (E := C8.E0)) (pa_cons (pv 0) (pa_cons pe_int pa_nil)))))
(pss_cons
(ps_if (pt_cmpR op_eq (pv 2) pe_int (nomark _)) (pss_one
(ps_ret (pe_call (ok__law_pick T) (hr.mono (by first | decide | omega | (simp only [Nat.add_eq]; omega))) rfl T.g__law_pick T.f__law_pick.kp (bn__law_pick T.f__law_pick) .nil (C8.pass0 (E := C8.E0)) (pa_cons (pv 0) (pa_cons (pe_lst (pa_cons pe_str (pa_cons pe_str (pa_cons pe_str (pa_cons pe_str (pa_cons pe_str (pa_cons pe_str (pa_cons pe_str pa_nil)))))))) pa_nil))))) pss_nil)
(pss_cons
(ps_if (pt_cmpR op_eq (pv 2) pe_int (nomark _)) (pss_one
(ps_ret (pe_call (ok__law_pick T) (hr.mono (by first | decide | omega | (simp only [Nat.add_eq]; omega))) rfl T.g__law_pick T.f__law_pick.kp (bn__law_pick T.f__law_pick) .nil (C8.pass0 (E := C8.E0)) (pa_cons (pv 0) (pa_cons (pe_lst (pa_cons pe_int (pa_cons pe_int (pa_cons (pe_un un_neg pe_int) (pa_cons pe_int (pa_cons pe_int (pa_cons pe_int (pa_cons (pe_un un_neg pe_int) (pa_cons (pe_call (ok__law_take T) (hr.mono (by first | decide | omega | (simp only [Nat.add_eq]; omega))) rfl T.g__law_take T.f__law_take.kp (bn__law_take T.f__law_take) .nil (C8.pass0 (E := C8.E0)) (pa_cons (pv 0) (pa_cons pe_int pa_nil))) pa_nil))))))))) pa_nil))))) pss_nil)
(pss_cons
(ps_if (pt_cmpR op_eq (pv 2) pe_int (nomark _)) (pss_one
(ps_ret pe_non)) pss_nil)
(pss_one
(ps_ret (pe_callTy call_tuple_of (by rfl) T.b_tuple (by decide +kernel) (pa_cons (pe_lc (own := [("turn", 3)]) (g := gName 3) (tt := tYes) rfl sc__law_thing.nd (pi_range1 (by rfl) T.b_range (pa_cons (pe_call (ok__law_take T) (hr.mono (by first | decide | omega | (simp only [Nat.add_eq]; omega))) rfl T.g__law_take T.f__law_take.kp (bn__law_take T.f__law_take) .nil (C8.pass0 (E := C8.E0)) (pa_cons (pv 0) (pa_cons pe_int pa_nil))) pa_nil)) (blkOk_by (own := [("turn", 3)]) (N := N__law_thing) (sc := defScope s__law_thing) (by decide +kernel)) (fun _ _ _ _ _ => (pg_name (i := 3) sc__law_thing.nd rfl (.inl rfl))) (fun _ _ _ _ _ => pts_nil) (fun _ _ _ _ _ => (pe_call (ok__law_thing T) (hr.mono (by first | decide | omega | (simp only [Nat.add_eq]; omega))) rfl T.g__law_thing T.f__law_thing.kp (bn__law_thing T.f__law_thing) .nil (C8.pass0 (E := C8.E0)) (pa_cons (pv 0) (pa_cons (pe_op op_sub (pv 1) pe_int) pa_nil))))) pa_nil)))))))), ?_⟩)
    · obtain ⟨b, k, rfl, _⟩ := h
      rfl
    · obtain ⟨b, k, rfl, B, hk, hQ⟩ := h
      refine ⟨_, rfl, _, _, rfl, rfl, _, rfl, ?_⟩
      refine if_b (fun c1 => ?_) fun c1 => ?_
      · have c1 : 0 < k := by
          have z := of_decide_eq_true c1
          omega
        refine ⟨_, rfl, b, 6, rfl, B, by omega, by omega, fun y H1 hy e1 => ?_⟩
        have B1 := e1.box
        refine ⟨_, rfl, rfl, _, rfl, ?_⟩
        refine if_b (fun c2 => ?_) fun c2 => ?_
        · -- a word
          refine ⟨_, rfl, by show 7 ≤ sizeLine; rw [sizeLine_eq]; decide, fun l nl => ?_⟩
          have e2 := upd_ext (o := .lst (words.map fun s => V.str (Str.ofString s))) nl
          refine ⟨b, l, words.map fun s => V.str (Str.ofString s), rfl, B1.ext e2, upd_same, B1.ne nl, by decide, by decide, fun x hx H3 e3 => ?_⟩
          obtain ⟨d, hd, hxd⟩ := dr_strs (K := K) (H := H3) (k := k) hx
          exact hQ _ _ _ hd hxd (e1.tr ((BTo.of B1 e2).tr e3))
        refine ⟨_, rfl, rfl, _, rfl, ?_⟩
        refine if_b (fun c3 => ?_) fun c3 => ?_
        · -- a number
          refine ⟨_, rfl, _, rfl, _, rfl, _, rfl, b, 10000, rfl, B1, by omega, by omega, fun m H2 hm e2 => ?_⟩
          have B2 := e2.box
          refine ⟨by show 8 ≤ sizeLine; rw [sizeLine_eq]; decide, fun l nl => ?_⟩
          have e3 := upd_ext (o := .lst ([0, 1, -1, 7, 42, 9999, -9999, (m : Int)].map V.int)) nl
          refine ⟨b, l, [0, 1, -1, 7, 42, 9999, -9999, (m : Int)].map V.int, rfl, B2.ext e3, upd_same, B2.ne nl, by show 0 < 8; decide, by show 8 < 1073741824; decide, fun x hx H4 e4 => ?_⟩
          obtain ⟨i, hi, rfl⟩ := List.mem_map.mp hx
          have hb : -9999 ≤ i ∧ i ≤ 9999 := by
            simp only [List.mem_cons, List.not_mem_nil, or_false] at hi
            omega
          exact hQ _ _ _ (.int hb.1 hb.2) (.int i) (e1.tr (e2.tr ((BTo.of B2 e3).tr e4)))
        refine ⟨_, rfl, rfl, _, rfl, ?_⟩
        refine if_b (fun c4 => ?_) fun c4 => ?_
        · exact hQ _ _ _ .none .non e1
        -- a tuple
        obtain ⟨k', rfl⟩ : ∃ k', k = k' + 1 := ⟨k - 1, by omega⟩
        refine ⟨_, rfl, b, 4, rfl, B1, by omega, by omega, fun m H2 hm e2 => ?_⟩
        have B2 := e2.box
        refine ⟨_, rfl, by omega, by omega, fun D hD => ?_⟩
        have hDb := B2.ne hD
        have off0 : OffB b D (upd H2 D (.lst [])) := fun r v q z => by
          obtain ⟨r0, st, rs, q1, q2, _⟩ := B2
          rw [upd_ne (Ne.symm hDb), q1] at q
          cases q
          rw [z, hD] at q2
          cases q2
        refine lc_range (lo := 0) (n := ((m : Nat) : Int).toNat) (fun i H' => BTo b H2 H' ∧ OffB b D H' ∧ ∃ vs ds, H' D = some (.lst vs) ∧ DpAll K H' vs ds ∧ ds.length = i ∧ ∀ d ∈ ds, Dr k' d) ⟨BTo.of B2 (upd_ext hD), off0, [], [], upd_same, .nil, rfl, fun _ h => by cases h⟩ ?_ ?_
        · rintro i H' hi ⟨e3, O3, vs, ds, hL, hds, hlen, hdr⟩
          have B3 := e3.box
          have ek : (((k' + 1 : Nat) : Int) - 1) = ((k' : Nat) : Int) := by omega
          refine ⟨rfl, _, rfl, _, rfl, _, _, rfl, rfl, b, k', ?_, B3, by omega, fun v d H4 hd hvd e4 => ?_⟩
          · show [V.ref b, V.int (((k' + 1 : Nat) : Int) - 1)] = _
            rw [ek]
          have hL4 := e4.ex D _ hDb hL
          have O4 := e4.off D _ hL O3
          have hbx : ∀ o, Box (upd H4 D o) b := fun o => by
            obtain ⟨r, st, rs, q1, q2, q3⟩ := e4.box
            exact ⟨r, st, rs, by rw [upd_ne (Ne.symm hDb)]; exact q1, by rw [upd_ne (O4 _ _ q1)]; exact q2, q3⟩
          have hvl := Ey.DpAll.length hds
          refine ⟨vs, hL4, by rw [sizeLine_eq]; omega, ⟨ExB.over (ExB.refl b H2) hD (ExB.trans e3.ex e4.ex), hbx _, fun D' xs hD' o r v q => (e3.tr e4).off D' xs hD' o r v (by rw [upd_ne (Ne.symm hDb)] at q; exact q)⟩, fun r v q => O4 r v (by rw [upd_ne (Ne.symm hDb)] at q; exact q), vs ++ [v], ds ++ [d], upd_same, ?_, by rw [List.length_append, List.length_singleton, hlen], fun x hx => ?_⟩
          · have t4 := Dp.texAll (B3.tex e4.ex) _ _ (fun x hx => (hdr x hx).noL) hds
            have t5 := Dp.texAll (lst_tex (o := .lst (vs ++ [v])) hL4) _ _ (fun x hx => (hdr x hx).noL) t4
            exact DpAll.append t5 (.cons (Dp.tex (lst_tex hL4) _ _ hd.noL hvd) .nil)
          · rcases List.mem_append.mp hx with hx | hx
            · exact hdr x hx
            · rw [List.mem_singleton.mp hx]
              exact hd
        · rintro H' ⟨e3, O3, vs, ds, hL, hds, hlen, hdr⟩
          have B3 := e3.box
          refine ⟨D, vs, rfl, .inl ⟨SqL.of hL, fun t nt => ?_⟩⟩
          have e4 := upd_ext (o := .tup vs) nt
          refine hQ _ (.tuple ds) _ (.tup (by omega) hdr) (.tup (SqT.of upd_same) (Dp.extAll e4 _ _ hds)) (e1.tr (e2.tr (e3.tr (BTo.of B3 e4))))
      · refine ⟨_, rfl, b, 3, rfl, B, by omega, by omega, fun y H1 hy e1 => ?_⟩
        have B1 := e1.box
        refine ⟨_, rfl, rfl, _, rfl, ?_⟩
        refine if_b (fun c2 => ?_) fun c2 => ?_
        · -- a word
          refine ⟨_, rfl, by show 7 ≤ sizeLine; rw [sizeLine_eq]; decide, fun l nl => ?_⟩
          have e2 := upd_ext (o := .lst (words.map fun s => V.str (Str.ofString s))) nl
          refine ⟨b, l, words.map fun s => V.str (Str.ofString s), rfl, B1.ext e2, upd_same, B1.ne nl, by decide, by decide, fun x hx H3 e3 => ?_⟩
          obtain ⟨d, hd, hxd⟩ := dr_strs (K := K) (H := H3) (k := k) hx
          exact hQ _ _ _ hd hxd (e1.tr ((BTo.of B1 e2).tr e3))
        refine ⟨_, rfl, rfl, _, rfl, ?_⟩
        refine if_b (fun c3 => ?_) fun c3 => ?_
        · -- a number
          refine ⟨_, rfl, _, rfl, _, rfl, _, rfl, b, 10000, rfl, B1, by omega, by omega, fun m H2 hm e2 => ?_⟩
          have B2 := e2.box
          refine ⟨by show 8 ≤ sizeLine; rw [sizeLine_eq]; decide, fun l nl => ?_⟩
          have e3 := upd_ext (o := .lst ([0, 1, -1, 7, 42, 9999, -9999, (m : Int)].map V.int)) nl
          refine ⟨b, l, [0, 1, -1, 7, 42, 9999, -9999, (m : Int)].map V.int, rfl, B2.ext e3, upd_same, B2.ne nl, by show 0 < 8; decide, by show 8 < 1073741824; decide, fun x hx H4 e4 => ?_⟩
          obtain ⟨i, hi, rfl⟩ := List.mem_map.mp hx
          have hb : -9999 ≤ i ∧ i ≤ 9999 := by
            simp only [List.mem_cons, List.not_mem_nil, or_false] at hi
            omega
          exact hQ _ _ _ (.int hb.1 hb.2) (.int i) (e1.tr (e2.tr ((BTo.of B2 e3).tr e4)))
        refine ⟨_, rfl, rfl, _, rfl, ?_⟩
        refine if_b (fun c4 => ?_) fun c4 => ?_
        · exact hQ _ _ _ .none .non e1
        exfalso
        have c2 := of_decide_eq_false c2
        have c3 := of_decide_eq_false c3
        have c4 := of_decide_eq_false c4
        have f : ∀ a b : Int, V.int a ≠ V.int b → a ≠ b := fun a b h z => h (z ▸ rfl)
        have c2 := f _ _ c2
        have c3 := f _ _ c3
        have c4 := f _ _ c4
        omega
end K85

set_option Elab.async false
set_option linter.all false
set_option maxRecDepth 100000
set_option maxHeartbeats 2000000
namespace K85
open PySem PySem.Spec PyProof.Rows L2 LamX Ey
variable {P : Program} {w : World} {K : PySem.W.Frag} {mg : Str → Option Value} {base : Heap}
theorem grp_part {ds : List PyData} {i : Nat} {d : PyData} (hd : ds[i]? = some d) (hl : (grp (.tuple ds)).length ≤ sizeLine) :
    (cp "(" :: (grpJ (ds.take i) ++ ((if ds.take i = [] then [] else [cp ","]) ++ grp d))).length ≤ sizeLine := by
  have hsn := grpJ_snoc (ds.take i) d
  have htk : ds.take (i + 1) = ds.take i ++ [d] := by rw [List.take_add_one, hd]; rfl
  have z : (grp (.tuple ds)).length = (cp "(" :: (grpJ ds ++ [cp ")"])).length := by rw [grp]
  rw [z] at hl
  have key : ∀ a b : List PyData, (grpJ a).length ≤ (grpJ (a ++ b)).length := fun a b => by
    cases a with
    | nil => exact Nat.zero_le _
    | cons x a =>
      show (grp x ++ grpK a).length ≤ (grp x ++ grpK (a ++ b)).length
      rw [grpK_app]
      simp only [List.length_append]
      omega
  have z3 := key (ds.take (i + 1)) (ds.drop (i + 1))
  rw [List.take_append_drop, htk, hsn] at z3
  simp only [List.length_cons, List.length_append] at hl z3 ⊢
  omega
theorem ok__law_groups (T : T P K mg) : ∀ n : Nat, FnOk P w K mg base C8.CX0 n (He.ga K "_law_groups") (fdAt K d__law_groups) ["value"] (sp_groups K n)
  | 0 => by
    refine ⟨fun vs H Q E h => ?_, fun A outer s H args us vs Q E hr e0 hb hv h => ?_⟩
    · obtain ⟨v, d, k, rfl, _⟩ := h
      rfl
    · obtain ⟨v, d, k, _, _, _, h, _⟩ := h
      omega
  | n + 1 => by
    have ok__law_groups := fun (_ : K85.T P K mg) => ok__law_groups T n
    refine FunD.ok T.f__law_groups sc__law_groups (fun vs H Q E h => ?_) (fun cdv A outer s H vs Q E hr h => ⟨_, PSs.nox (pss_cons
(ps_if (PW.pt (pw_or (pt_cmpR op_isN (pv 0) pe_non (nomark _)) (pw_or1 (pt_val (pe_callB call_isD (by rfl) T.b_isinstance (by decide +kernel) (pa_cons (pv 0) (pa_cons (pe_bltn (v := .ty "str") (by rfl) T.b_str (by decide +kernel) rfl) pa_nil))))))) (pss_one
(ps_ret (pe_lst (pa_cons (pe_ifExp (pt_cmpR op_isN (pv 0) pe_non (nomark _)) pe_str (pv 0)) pa_nil)))) pss_nil)
(pss_cons
(ps_if (pt_not (pt_val (pe_callB call_isD (by rfl) T.b_isinstance (by decide +kernel) (pa_cons (pv 0) (pa_cons (pe_bltn (v := .ty "tuple") (by rfl) T.b_tuple (by decide +kernel) rfl) pa_nil))))) (pss_one
(ps_ret (pe_ifExp (pt_cmpR op_lt (pv 0) pe_int (nomark _)) (pe_lst (pa_cons pe_str (pa_cons (pe_callTy call_str_int (by rfl) T.b_str (by decide +kernel) (pa_cons (pe_op op_sub pe_int (pv 0)) pa_nil)) pa_nil))) (pe_lst (pa_cons (pe_callTy (CallR.or SkE.call_str_str call_str_int) (by rfl) T.b_str (by decide +kernel) (pa_cons (pv 0) pa_nil)) pa_nil))))) pss_nil)
(pss_cons
(ps_set (i := 1) sc__law_groups.nd rfl (.inl rfl) (pe_lst (pa_cons pe_str pa_nil)))
(pss_cons
(ps_for PassesOwn.never rfl (pi_tup (pv 0)) (pg_name (i := 2) sc__law_groups.nd rfl (.inl rfl)) (pss_one
(ps_set (i := 1) sc__law_groups.nd rfl (.inl rfl) (pe_op op_cat (pe_op op_cat (pv 1) (pe_ifExp (pt_cmpR op_gt (pe_callB call_len_seq (by rfl) T.b_len (by decide +kernel) (pa_cons (pv 1) pa_nil)) pe_int (nomark _)) (pe_lst (pa_cons pe_str pa_nil)) (pe_lst pa_nil))) (pe_call (ok__law_groups T) (hr.mono (by first | decide | omega | (simp only [Nat.add_eq]; omega))) rfl T.g__law_groups T.f__law_groups.kp (bn__law_groups T.f__law_groups) .nil (C8.pass0 (E := C8.E0)) (pa_cons (pv 2) pa_nil))))))
(pss_one
(ps_ret (pe_op op_cat (pv 1) (pe_lst (pa_cons pe_str pa_nil))))))))), ?_⟩)
    · obtain ⟨v, d, k, rfl, _⟩ := h
      rfl
    · obtain ⟨v, d, k, rfl, hd, ht, hk, hl, hQ⟩ := h
      refine ⟨_, rfl, rfl, _, rfl, ?_⟩
      by_cases hn : d = .none
      · subst hn
        cases hd
        refine if_t rfl ⟨_, rfl, rfl, _, rfl, if_t rfl ⟨one_line, fun l nl => hQ _ l (upd_ext nl) ?_⟩⟩
        rw [upd_same, of_cp]
        rfl
      have vn : v ≠ .non := fun z => by
        subst z
        cases hd
        exact hn rfl
      refine if_f (decide_eq_false vn) ?_
      refine ⟨_, rfl, v, "str", d, rfl, by simp [tyNames], hd, _, rfl, ?_⟩
      rw [ty_str]
      cases d with
      | none => exact absurd rfl hn
      | bool b => cases k <;> cases ht
      | list b => cases k <;> cases ht
      | dict b => cases k <;> cases ht
      | str s =>
        cases hd
        refine if_t rfl ⟨_, rfl, rfl, _, rfl, if_f rfl ⟨_, rfl, one_line, fun l nl => hQ _ l (upd_ext nl) ?_⟩⟩
        rw [upd_same]
        show _ = some (HO.lst [vS s.cps.toList])
        rw [vS, S_self]
      | int i =>
        cases hd
        refine if_f rfl ?_
        refine ⟨_, rfl, _, "tuple", _, rfl, by simp [tyNames], .int i, _, rfl, ?_⟩
        rw [ty_tup]
        refine if_t rfl ?_
        have hi : -9999 ≤ i ∧ i ≤ 9999 := by
          have z : (decide (-9999 ≤ i) && decide (i ≤ 9999)) = true := by
            rw [← ht]
            cases k <;> rfl
          simpa using z
        refine ⟨_, rfl, _, _, rfl, rfl, _, rfl, ?_⟩
        by_cases hneg : i < 0
        · refine if_t (decide_eq_true hneg) ⟨_, rfl, _, _, rfl, rfl, _, rfl, log_small (by omega), by show 2 ≤ sizeLine; rw [sizeLine_eq]; decide, fun l nl => hQ _ l (upd_ext nl) ?_⟩
          have e : (0 - i) = ((i.natAbs : Nat) : Int) := by omega
          rw [upd_same, e, S_num, of_cp, grp, if_pos hneg]
          rfl
        · refine if_f (decide_eq_false hneg) ⟨_, rfl, .inr ⟨_, rfl, log_small (by omega), one_line, fun l nl => hQ _ l (upd_ext nl) ?_⟩⟩
          have e : i = ((i.natAbs : Nat) : Int) := by omega
          rw [upd_same, grp, if_neg hneg]
          show some (HO.lst [V.str (Str.ofString (toString i))]) = some (HO.lst [vS (TL.numL i.natAbs)])
          rw [vS, ← S_num, ← e]
      | tuple ds =>
        refine if_f rfl ?_
        refine ⟨_, rfl, _, "tuple", _, rfl, by simp [tyNames], hd, _, rfl, ?_⟩
        rw [ty_tup]
        refine if_f rfl ?_
        cases k with
        | zero => cases ht
        | succ k =>
        have ht : ds.all (thingB k) = true := ht
        obtain ⟨a, xs, rfl, hs, ha⟩ := Ey.Dp.tupOf hd
        refine ⟨one_line, fun l nl => ?_⟩
        have e1 := upd_ext (o := .lst [.str (Str.ofString "(")]) nl
        refine ⟨_, rfl, a, rfl, ⟨_, SqT.ext e1 hs⟩, ?_⟩
        refine for_tup (K := K) (xs := xs) (fun i σ H' => Same H H' ∧ ∃ (l : Addr) (x : Option V), H' l = some (.lst ((cp "(" :: grpJ (ds.take i)).map vS)) ∧ σ = [some (.ref a), some (.ref l), x]) ⟨e1, l, _, ?_, rfl⟩ (fun i σ H' _ h => SqT.ext h.1 hs) ?_ ?_
        · rw [upd_same, of_cp]
          rfl
        · rintro i x σ H' hx ⟨e2, l, y, hL, rfl⟩
          obtain ⟨d, hd, hxd⟩ := Ey.DpAll.get ha hx
          have htd : thingB k d = true := List.all_eq_true.mp ht d (List.mem_of_getElem? hd)
          have hsn := grpJ_snoc (ds.take i) d
          have htk : ds.take (i + 1) = ds.take i ++ [d] := by rw [List.take_add_one, hd]; rfl
          have hall := grp_part hd hl
          simp only [List.length_cons, List.length_append] at hall
          refine ⟨_, rfl, _, rfl, l, _, rfl, .inl (SqL.of hL), _, _, rfl, rfl, _, rfl, ?_⟩
          have hlen : (((cp "(" :: grpJ (ds.take i)).map vS).length : Int) = ((grpJ (ds.take i)).length : Int) + 1 := by
            rw [List.length_map, List.length_cons]
            omega
          have hnil : grpJ (ds.take i) = [] ↔ ds.take i = [] := by
            constructor
            · intro z
              cases q : ds.take i with
              | nil => rfl
              | cons b r =>
                rw [q] at z
                have z : grp b ++ grpK r = [] := z
                have hb : b ∈ ds := List.mem_of_mem_take (by rw [q]; exact List.mem_cons_self ..)
                exact absurd (List.append_eq_nil_iff.mp z).1 (grp_ne b (List.all_eq_true.mp ht b hb))
            · intro z
              rw [z]
              rfl
          have fin : ∀ (sep : List G) (H2 : Hp) (p : Addr), Same H' H2 → H2 p = some (.lst (sep.map vS)) → sep = (if ds.take i = [] then [] else [cp ","]) →
              ∃ (l2 b2 : Addr) (xs2 zs2 : List V), V.ref l = .ref l2 ∧ V.ref p = .ref b2 ∧ H2 l2 = some (.lst xs2) ∧ H2 b2 = some (.lst zs2) ∧ xs2.length + zs2.length ≤ sizeLine ∧ ∀ t, H2 t = none →
                sp_groups K n [x] (upd H2 t (.lst (xs2 ++ zs2))) (fun v H3 => ∃ (l3 b3 : Addr) (xs3 zs3 : List V), V.ref t = .ref l3 ∧ v = .ref b3 ∧ H3 l3 = some (.lst xs3) ∧ H3 b3 = some (.lst zs3) ∧ xs3.length + zs3.length ≤ sizeLine ∧ ∀ u, H3 u = none →
                  (Same H (upd H3 u (.lst (xs3 ++ zs3))) ∧ ∃ (l' : Addr) (y' : Option V), (upd H3 u (.lst (xs3 ++ zs3))) l' = some (.lst ((cp "(" :: grpJ (ds.take (i + 1))).map vS)) ∧ [some (V.ref a), some (V.ref u), some x] = [some (V.ref a), some (V.ref l'), y'])) C8.E0 := by
            intro sep H2 p e3 hp es
            have hL2 := e3 l _ hL
            rw [← es] at hall
            refine ⟨l, p, _, _, rfl, rfl, hL2, hp, by simp only [List.length_map, List.length_cons]; omega, fun t nt => ?_⟩
            have e4 := Same.trans e2 (Same.trans e3 (upd_ext (o := .lst ((cp "(" :: grpJ (ds.take i)).map vS ++ sep.map vS)) nt))
            refine ⟨x, d, k, rfl, Dp.ext e4 _ _ hxd, htd, by omega, by omega, fun H3 b e5 hb => ?_⟩
            refine ⟨t, b, _, _, rfl, rfl, e5 t _ upd_same, hb, by simp only [List.length_map, List.length_cons, List.length_append]; omega, fun u nu => ⟨Same.trans e4 (Same.trans e5 (upd_ext nu)), u, _, ?_, rfl⟩⟩
            rw [upd_same, htk, hsn, ← es]
            simp only [List.map_append, List.map_cons, List.cons_append, List.append_assoc]
          by_cases hz : ds.take i = []
          · refine if_f ?_ ⟨Nat.zero_le _, fun p np => ?_⟩
            · rw [hlen, hnil.mpr hz]
              rfl
            · obtain ⟨l2, b2, xs2, zs2, q1, q2, q3, q4, q5, q6⟩ := fin [] _ p (upd_ext np) upd_same (by rw [if_pos hz])
              exact ⟨l2, b2, xs2, zs2, q1, q2, q3, q4, q5, fun t nt => ⟨_, rfl, q6 t nt⟩⟩
          · have hz' : grpJ (ds.take i) ≠ [] := fun z => hz (hnil.mp z)
            refine if_t ?_ ⟨one_line, fun p np => ?_⟩
            · rw [hlen]
              have q : 0 < (grpJ (ds.take i)).length := List.length_pos_iff.mpr hz'
              exact decide_eq_true (by omega)
            · obtain ⟨l2, b2, xs2, zs2, q1, q2, q3, q4, q5, q6⟩ := fin [cp ","] (upd H' p (.lst [.str (Str.ofString ",")])) p (upd_ext np) (by rw [upd_same, of_cp]; rfl) (by rw [if_neg hz])
              exact ⟨l2, b2, xs2, zs2, q1, q2, q3, q4, q5, fun t nt => ⟨_, rfl, q6 t nt⟩⟩
        · rintro σ H' ⟨e2, l, y, hL, rfl⟩
          refine ⟨_, rfl, one_line, fun q nq => ?_⟩
          have e3 := upd_ext (o := .lst [.str (Str.ofString ")")]) nq
          have hL2 := e3 l _ hL
          have hfull : ds.take xs.length = ds := by rw [Ey.DpAll.length ha, List.take_length]
          rw [hfull] at hL2
          have hg : grp (.tuple ds) = cp "(" :: grpJ ds ++ [cp ")"] := by rw [grp]; rfl
          refine ⟨l, q, _, _, rfl, rfl, hL2, upd_same, ?_, fun t nt => ?_⟩
          · rw [hg] at hl
            simp only [List.length_map, List.length_append, List.length_cons, List.length_nil] at hl ⊢
            omega
          · refine hQ _ t (Same.trans e2 (Same.trans e3 (upd_ext nt))) ?_
            rw [upd_same, hg, List.map_append, of_cp]
            rfl
end K85

set_option Elab.async false
set_option linter.all false
set_option maxRecDepth 100000
set_option maxHeartbeats 2000000
namespace K85
open PySem PySem.Spec PyProof.Rows L2 LamX Ey
variable {P : Program} {w : World} {K : PySem.W.Frag} {mg : Str → Option Value} {base : Heap}
/-! ### as the law shows a thing -/
def comma : List G → G
  | [] => []
  | [g] => g
  | g :: h :: r => g ++ (cp ", " ++ comma (h :: r))
mutual
def shown : PyData → G
  | .none => cp "none"
  | .str s => s.cps.toList
  | .int i => if i < 0 then cp "-" ++ TL.numL i.natAbs else TL.numL i.natAbs
  | .tuple ds => cp "(" ++ comma (shownAll ds) ++ cp ")"
  | .bool _ => []
  | .list _ => []
  | .dict _ => []
def shownAll : List PyData → List G
  | [] => []
  | d :: ds => shown d :: shownAll ds
end
theorem shownAll_len : ∀ ds : List PyData, (shownAll ds).length = ds.length
  | [] => rfl
  | d :: ds => by
    show (shownAll ds).length + 1 = ds.length + 1
    rw [shownAll_len ds]
theorem shownAll_app : ∀ (a b : List PyData), shownAll (a ++ b) = shownAll a ++ shownAll b
  | [], b => rfl
  | d :: a, b => by
    show shown d :: shownAll (a ++ b) = shown d :: (shownAll a ++ shownAll b)
    rw [shownAll_app a b]
theorem comma_len : ∀ gs : List G, (gs.map List.length).sum + gs.length * 2 ≤ (comma gs).length + 2
  | [] => by simp [comma]
  | [g] => by simp [comma]
  | g :: h :: r => by
    have z := comma_len (h :: r)
    have e : (cp ", ").length = 2 := by decide +kernel
    simp only [comma, List.map_cons, List.sum_cons, List.length_cons, List.length_append, e] at z ⊢
    omega
theorem mem_comma {gs : List G} {g : G} (h : g ∈ gs) : g.length ≤ (comma gs).length := by
  have z := comma_len gs
  have z2 : g.length + (gs.length - 1) * 2 ≤ (gs.map List.length).sum + (gs.length - 1) * 2 := by
    have : g.length ≤ (gs.map List.length).sum := by
      clear z
      induction gs with
      | nil => cases h
      | cons x r ih =>
        rcases List.mem_cons.mp h with rfl | h
        · simp
        · have := ih h
          simp only [List.map_cons, List.sum_cons]
          omega
    omega
  have : 0 < gs.length := List.length_pos_of_mem h
  omega
theorem join_comma : ∀ gs : List G, Str.join (S (cp ", ")) (gs.map S) = S (comma gs)
  | [] => rfl
  | [g] => rfl
  | g :: h :: r => by
    show S g ++ S (cp ", ") ++ Str.join (S (cp ", ")) ((h :: r).map S) = S (comma (g :: h :: r))
    rw [join_comma (h :: r), S_app, S_app, comma, List.append_assoc]
theorem cp_app (a b : String) : cp (a ++ b) = cp a ++ cp b := by
  unfold cp
  rw [String.toList_append, List.map_append]
def sp_shown (K : PySem.W.Frag) (n : Nat) : Sp := fun vs H Q _ => ∃ v d k, vs = [v] ∧ Dp K H v d ∧ thingB k d = true ∧ k < n ∧ (shown d).length ≤ 16000000 ∧ ∀ H', Same H H' → Q (vS (shown d)) H'
theorem ok__law_shown (T : T P K mg) : ∀ n : Nat, FnOk P w K mg base C8.CX0 n (He.ga K "_law_shown") (fdAt K d__law_shown) ["value"] (sp_shown K n)
  | 0 => by
    refine ⟨fun vs H Q E h => ?_, fun A outer s H args us vs Q E hr e0 hb hv h => ?_⟩
    · obtain ⟨v, d, k, rfl, _⟩ := h
      rfl
    · obtain ⟨v, d, k, _, _, _, h, _⟩ := h
      omega
  | n + 1 => by
    have ok__law_shown := fun (_ : K85.T P K mg) => ok__law_shown T n
    refine FunD.ok T.f__law_shown sc__law_shown (fun vs H Q E h => ?_) (fun cdv A outer s H vs Q E hr h => ⟨_, PSs.nox (pss_cons
(ps_if (pt_val (pe_callB call_isD (by rfl) T.b_isinstance (by decide +kernel) (pa_cons (pv 0) (pa_cons (pe_bltn (v := .ty "tuple") (by rfl) T.b_tuple (by decide +kernel) rfl) pa_nil)))) (pss_one
(ps_ret (pe_op op_add_str (pe_op op_add_str pe_str (pe_bm PySem.F.plainAttrs_str PySem.F.slot_str_join PySem.F.type_str_join mt_join pe_str (pa_cons (pe_lc (own := [("part", 1)]) (g := gName 1) (tt := tYes) rfl sc__law_shown.nd (pi_tup (pv 0)) (blkOk_by (own := [("part", 1)]) (N := N__law_shown) (sc := defScope s__law_shown) (by decide +kernel)) (fun _ _ _ _ _ => (pg_name (i := 1) sc__law_shown.nd rfl (.inl rfl))) (fun _ _ _ _ _ => pts_nil) (fun _ _ _ _ _ => (pe_call (ok__law_shown T) (hr.mono (by first | decide | omega | (simp only [Nat.add_eq]; omega))) rfl T.g__law_shown T.f__law_shown.kp (bn__law_shown T.f__law_shown) .nil (C8.pass0 (E := C8.E0)) (pa_cons (pv 1) pa_nil)))) pa_nil))) pe_str))) pss_nil)
(pss_one
(ps_ret (pe_ifExp (pt_cmpR op_isN (pv 0) pe_non (nomark _)) pe_str (pe_callTy (CallR.or SkE.call_str_str call_str_int) (by rfl) T.b_str (by decide +kernel) (pa_cons (pv 0) pa_nil)))))), ?_⟩)
    · obtain ⟨v, d, k, rfl, _⟩ := h
      rfl
    · obtain ⟨v, d, k, rfl, hd, ht, hk, hl, hQ⟩ := h
      refine ⟨_, rfl, v, "tuple", d, rfl, by simp [tyNames], hd, _, rfl, ?_⟩
      rw [ty_tup]
      cases d with
      | bool b => cases k <;> cases ht
      | list b => cases k <;> cases ht
      | dict b => cases k <;> cases ht
      | none =>
        cases hd
        refine if_f rfl ⟨_, rfl, rfl, _, rfl, if_t rfl ?_⟩
        exact q_v (by rw [of_cp]; rfl) (hQ H (Same.refl H))
      | str s =>
        cases hd
        refine if_f rfl ⟨_, rfl, rfl, _, rfl, if_f rfl ⟨_, rfl, .inl ⟨_, rfl, ?_⟩⟩⟩
        exact q_v (by show V.str s = vS s.cps.toList; rw [vS, S_self]) (hQ H (Same.refl H))
      | int i =>
        cases hd
        have hi : -9999 ≤ i ∧ i ≤ 9999 := by
          have z : (decide (-9999 ≤ i) && decide (i ≤ 9999)) = true := by
            rw [← ht]
            cases k <;> rfl
          simpa using z
        refine if_f rfl ⟨_, rfl, rfl, _, rfl, if_f rfl ⟨_, rfl, .inr ⟨_, rfl, log_small (by omega), ?_⟩⟩⟩
        refine q_v ?_ (hQ H (Same.refl H))
        rw [shown]
        by_cases hneg : i < 0
        · rw [if_pos hneg]
          obtain ⟨m, rfl⟩ : ∃ m : Nat, i = Int.negSucc m := by
            cases i with
            | ofNat m => exact absurd hneg (by simp)
            | negSucc m => exact ⟨m, rfl⟩
          have e : (toString (Int.negSucc m)) = "-" ++ toString ((m + 1 : Nat) : Int) := rfl
          have q : cp (toString ((m + 1 : Nat) : Int)) = TL.numL (m + 1) := by
            have z := S_num (m + 1)
            rw [of_cp] at z
            exact S_inj z
          show V.str (Str.ofString (toString (Int.negSucc m))) = V.str (S (cp "-" ++ TL.numL (m + 1)))
          rw [e, of_cp, cp_app, q]
        · rw [if_neg hneg]
          have e : i = ((i.natAbs : Nat) : Int) := by omega
          rw [vS, ← S_num, ← e]
      | tuple ds =>
        refine if_t rfl ?_
        cases k with
        | zero => cases ht
        | succ k =>
        have ht : ds.all (thingB k) = true := ht
        obtain ⟨a, xs, rfl, hs, ha⟩ := Ey.Dp.tupOf hd
        have hl : (cp "(" ++ comma (shownAll ds) ++ cp ")").length ≤ 16000000 := hl
        simp only [List.length_append] at hl
        have hlen := comma_len (shownAll ds)
        rw [shownAll_len] at hlen
        refine ⟨rfl, _, rfl, a, rfl, ⟨_, hs⟩, fun D hD => ?_⟩
        refine lc_tup (K := K) (xs := xs) (fun i H' => Same H H' ∧ H' D = some (.lst ((shownAll (ds.take i)).map vS))) ⟨upd_ext hD, upd_same⟩ (fun i H' _ h => SqT.ext h.1 hs) ?_ ?_
        · rintro i x H' hx ⟨e2, hL⟩
          obtain ⟨d, hd, hxd⟩ := Ey.DpAll.get ha hx
          have htd : thingB k d = true := List.all_eq_true.mp ht d (List.mem_of_getElem? hd)
          have htk : ds.take (i + 1) = ds.take i ++ [d] := by rw [List.take_add_one, hd]; rfl
          have hsz : (shown d).length ≤ (comma (shownAll ds)).length := by
            refine mem_comma ?_
            have q : shownAll ds = shownAll (ds.take (i + 1)) ++ shownAll (ds.drop (i + 1)) := by rw [← shownAll_app, List.take_append_drop]
            rw [q, htk, shownAll_app]
            simp [shownAll]
          refine ⟨rfl, _, rfl, x, d, k, rfl, Dp.ext e2 _ _ hxd, htd, by omega, by omega, fun H3 e3 => ?_⟩
          have hL3 := e3 D _ hL
          refine ⟨_, hL3, ?_, Same.over (Same.refl H) hD (Same.trans e2 e3), ?_⟩
          · have q : i < ds.length := (List.getElem?_eq_some_iff.mp hd).1
            rw [List.length_map, shownAll_len, List.length_take, sizeLine_eq]
            omega
          · rw [upd_same, htk, shownAll_app, List.map_append]
            first | done | rfl
        · rintro H' ⟨e2, hL⟩
          have hfull : ds.take xs.length = ds := by rw [Ey.DpAll.length ha, List.take_length]
          rw [hfull] at hL
          have c2 : (cp ", ").length = 2 := by decide +kernel
          have em : (shownAll ds).map vS = ((shownAll ds).map S).map V.str := by rw [List.map_map]; rfl
          rw [em] at hL
          have esum : ((shownAll ds).map S).map (fun z : Str => z.length) = (shownAll ds).map List.length := by
            rw [List.map_map]
            exact List.map_congr_left fun g _ => S_len g
          refine ⟨_, D, (shownAll ds).map S, rfl, rfl, .inl (SqL.of hL), ?_, ?_⟩
          · rw [esum, of_cp, S_len, c2, List.length_map, shownAll_len]
            omega
          · refine ⟨_, _, rfl, rfl, ?_, _, _, rfl, rfl, ?_, ?_⟩
            · rw [TL.join_eq, of_cp ", ", join_comma, of_cp "(", S_len, S_len, sizeLine_eq]
              omega
            · rw [TL.join_eq, of_cp ", ", join_comma, of_cp "(", of_cp ")", S_app, S_len, S_len, List.length_append, sizeLine_eq]
              omega
            · rw [TL.join_eq, of_cp ", ", join_comma, of_cp "(", of_cp ")", S_app, S_app]
              exact hQ _ e2
end K85

set_option Elab.async false
set_option linter.all false
set_option maxRecDepth 100000
set_option maxHeartbeats 2000000
namespace K85
open PySem PySem.Spec PyProof.Rows L2 LamX Ey
variable {P : Program} {w : World} {K : PySem.W.Frag} {mg : Str → Option Value} {base : Heap}
/-- a list of data that is not [] -/
theorem op_neNil {X : Cx} (hu : X.A.units + 64 < cLine) : OpR X (compareOp .NotEq) (fun x y H Q => ∃ ds b, Dp X.K H x (.list ds) ∧ y = .ref b ∧ SqL X.K H b [] ∧ PyData.canLayAll0 ds = true ∧ Q (.bl (!ds.isEmpty)) H) := by
  intro pins s σ H x y v u Q I rx ry h
  obtain ⟨ds, b, hd, rfl, hb, hc, q⟩ := h
  obtain ⟨as, r1⟩ := Dp.reads I (.list ds) x v hd rx
  obtain ⟨bs, r2⟩ := Dp.reads I (.list []) (.ref b) u (.lst hb .nil) ry
  have e : PyData.eqv (.list ds) (.list []) = ds.isEmpty := by cases ds <;> simp [PyData.eqv, PyData.eqvAll]
  refine SeqAt.compareNe_reads r1 r2 (by simp only [PyData.canLay0]; exact hc) (by simp [PyData.canLay0, PyData.canLayAll0]) ?_ ⟨.bl _, H, I, rfl, ?_⟩
  · have z : min (PyData.depth (.list ds)) (PyData.depth (.list [])) ≤ 1 := by
      refine Nat.le_trans (Nat.min_le_right _ _) ?_
      simp [PyData.depth, PyData.depthAll]
    omega
  · rw [e]
    exact q
/-! ### the law's own reader -/
def pad (gs : List G) : List G := gs ++ [[], [], []]
theorem pad_at {gs : List G} {a : Nat} (h : a ≤ gs.length + 2) : (pad gs)[a]? = some (nowG gs a) := by
  unfold pad nowG
  rw [List.getD_eq_getElem?_getD]
  by_cases c : a < gs.length
  · rw [List.getElem?_append_left c, List.getElem?_eq_getElem c]
    rfl
  · rw [List.getElem?_append_right (by omega), List.getElem?_eq_none (l := gs) (by omega)]
    have z : a - gs.length = 0 ∨ a - gs.length = 1 ∨ a - gs.length = 2 := by omega
    rcases z with z | z | z <;> rw [z] <;> rfl
def errD (b y : Int) : PyData := .tuple [.str (Str.ofString "text"), .int b, .int y]
structure Gs (gs : List G) : Prop where
  short : ∀ g ∈ gs, g.length ≤ 60000
  few : gs.length ≤ 100000
  plain : ∀ g ∈ gs, ∀ c ∈ g, c < 1114112
  digs : Digs gs
  ne : ∀ g ∈ gs, g ≠ []
def sp_lwrong (K : PySem.W.Frag) : Sp := fun vs H Q _ => ∃ (l : Addr) (gs : List G) (a : Nat) (y : Int), vs = [.ref l, .int (a : Int), .int y] ∧ H l = some (.lst ((pad gs).map vS)) ∧ a ≤ gs.length + 2 ∧ Gs gs ∧ ∀ H' q, Same H H' → Dp K H' (.ref q) (errD a (wy gs a y)) → Q (.ref q) H'
theorem errD_of {H : Hp} {q : Addr} {b y : Int} (h : H q = some (.tup [.str (Str.ofString "text"), .int b, .int y])) : Dp K H (.ref q) (errD b y) :=
  .tup (SqT.of h) (.cons (.str _) (.cons (.int _) (.cons (.int _) .nil)))
theorem len3 : 3 ≤ sizeLine := by
  rw [sizeLine_eq]
  decide
theorem ok__law_wrong (T : T P K mg) : FnOk P w K mg base C8.CX0 1 (He.ga K "_law_wrong") (fdAt K d__law_wrong) ["groups", "at", "why"] (sp_lwrong K) := by
  refine FunD.ok T.f__law_wrong sc__law_wrong (fun vs H Q E h => ?_) (fun cdv A outer s H vs Q E hr h => ⟨_, PSs.nox (pss_cons
(ps_set (i := 3) sc__law_wrong.nd rfl (.inl rfl) (pe_ix ix_list (pv 0) (pv 1) (fun _ _ => rfl)))
(pss_one
(ps_ret (pe_tup (pa_cons pe_str (pa_cons (pv 1) (pa_cons (pe_ifExp (PW.pt (pw_and (pt_cmpR op_ne (pv 3) pe_str (nomark _)) (pw_and1 (pt_cmpR op_gt (pe_callB call_len_str (by rfl) T.b_len (by decide +kernel) (pa_cons (pv 3) pa_nil)) (pe_ifExp (pt_cmpR op_in_sign (pe_ix ix_str (pv 3) pe_int (fun _ _ => rfl)) pe_str (by rfl)) pe_int pe_int) (nomark _))))) pe_int (pv 2)) pa_nil))))))), ?_⟩)
  · obtain ⟨l, gs, a, y, rfl, _⟩ := h
    rfl
  · obtain ⟨l, gs, a, y, rfl, hl, ha, hg, hQ⟩ := h
    have hx : ((pad gs).map vS)[a]? = some (vS (nowG gs a)) := by rw [List.getElem?_map, pad_at ha]; rfl
    have hsz : (S (nowG gs a)).length ≤ sizeLine := by rw [S_len]; exact nowG_len hg.short a
    refine ⟨_, rfl, _, rfl, l, _, _, _, rfl, rfl, SqL.of hl, atI_nat hx, ?_⟩
    unfold wy at hQ
    refine ⟨_, rfl, ?_⟩
    refine ⟨_, rfl, rfl, _, rfl, ?_⟩
    rw [of_cp "", dec_vS]
    cases e : nowG gs a with
    | nil =>
      rw [e] at hQ
      refine if_f rfl ?_
      exact ⟨_, rfl, len3, fun p np => hQ _ p (upd_ext np) (errD_of upd_same)⟩
    | cons c r =>
      rw [e] at hQ hsz
      refine if_t rfl ?_
      refine ⟨_, rfl, _, rfl, hsz, ?_⟩
      refine ⟨_, rfl, _, _, c, rfl, rfl, hsz, by rw [S_cps]; exact atI_nat (j := 0) rfl, c, _, rfl, rfl, _, rfl, ?_⟩
      rw [lit_FIG, S_cps]
      have hlong : isLong (c :: r) = decide ((c :: r).length > if inB FIG c then 4 else 12) := rfl
      rw [hlong] at hQ
      refine if_b (fun c1 => ?_) fun c1 => ?_
      · have c1 : inB FIG c = true := c1
        rw [if_pos c1] at hQ
        refine ⟨_, _, rfl, rfl, _, rfl, ?_⟩
        rw [S_len]
        by_cases c2 : (c :: r).length > 4
        · rw [decide_eq_true c2] at hQ
          exact if_t (decide_eq_true (by omega)) ⟨len3, fun p np => hQ _ p (upd_ext np) (errD_of upd_same)⟩
        · rw [decide_eq_false c2] at hQ
          exact if_f (decide_eq_false (by omega)) ⟨_, rfl, len3, fun p np => hQ _ p (upd_ext np) (errD_of upd_same)⟩
      · have c1 : inB FIG c = false := c1
        rw [show (if inB FIG c = true then 4 else 12) = 12 from if_neg (by rw [c1]; simp)] at hQ
        refine ⟨_, _, rfl, rfl, _, rfl, ?_⟩
        rw [S_len]
        by_cases c2 : (c :: r).length > 12
        · rw [decide_eq_true c2] at hQ
          exact if_t (decide_eq_true (by omega)) ⟨len3, fun p np => hQ _ p (upd_ext np) (errD_of upd_same)⟩
        · rw [decide_eq_false c2] at hQ
          exact if_f (decide_eq_false (by omega)) ⟨_, rfl, len3, fun p np => hQ _ p (upd_ext np) (errD_of upd_same)⟩
theorem now_ne_lt {gs : List G} {a : Nat} (h : nowG gs a ≠ []) : a < gs.length := (List.getElem?_eq_some_iff.mp (now_some h)).1
theorem name_ne {g : G} (h : isName g = true) : g ≠ [] := fun z => by rw [z] at h; cases h
theorem num_ne {g : G} (h : isNum g = true) : g ≠ [] := fun z => by rw [z] at h; cases h
theorem Pr.le {gs : List G} {m : Mode} {r : Res} (h : Pr gs m r) : ∀ d b, r = .ok d b → b ≤ gs.length := by
  induction h with
  | nameL => intro d b e; cases e
  | name h => intro d b e; cases e; exact now_ne_lt (name_ne h)
  | numL => intro d b e; cases e
  | num h => intro d b e; cases e; exact now_ne_lt (num_ne h)
  | negN => intro d b e; cases e
  | negL => intro d b e; cases e
  | neg _ h => intro d b e; cases e; exact now_ne_lt (num_ne h)
  | no => intro d b e; cases e
  | deep => intro d b e; cases e
  | nil _ _ h => intro d b e; cases e; exact now_ne_lt (by rw [h]; decide +kernel)
  | tup _ _ _ _ ih => exact ih
  | sE => intro d b e; cases e
  | sO _ _ _ ih2 => exact ih2
  | aC _ _ ih => exact ih
  | aE h => intro d b e; cases e; exact now_ne_lt (by rw [h]; decide +kernel)
  | aN => intro d b e; cases e
theorem name_ncomma {g : G} (h : isName g = true) : g ≠ cp "," := fun z => by
  rw [z] at h
  exact absurd h (by decide +kernel)
theorem num_ncomma {g : G} (h : isNum g = true) : g ≠ cp "," := fun z => by
  rw [z] at h
  exact absurd h (by decide +kernel)
theorem Pr.last {gs : List G} {m : Mode} {r : Res} (h : Pr gs m r) : ∀ d b, r = .ok d b → nowG gs (b - 1) ≠ cp "," := by
  induction h with
  | nameL => intro d b e; cases e
  | name h => intro d b e; cases e; exact name_ncomma h
  | numL => intro d b e; cases e
  | num h => intro d b e; cases e; exact num_ncomma h
  | negN => intro d b e; cases e
  | negL => intro d b e; cases e
  | neg _ h => intro d b e; cases e; exact num_ncomma h
  | no => intro d b e; cases e
  | deep => intro d b e; cases e
  | nil _ _ h => intro d b e; cases e; show nowG _ (_ + 1) ≠ _; rw [h]; decide +kernel
  | tup _ _ _ _ ih => exact ih
  | sE => intro d b e; cases e
  | sO _ _ _ ih2 => exact ih2
  | aC _ _ ih => exact ih
  | aE h => intro d b e; cases e; show nowG _ _ ≠ _; rw [Nat.add_sub_cancel, h]; decide +kernel
  | aN => intro d b e; cases e
theorem Pr.lay {gs : List G} (hg : ∀ g ∈ gs, ∀ c ∈ g, c < 1114112) {m : Mode} {r : Res} (h : Pr gs m r) : ∀ d b, r = .ok d b → (match m with | .part _ _ => True | .seq _ _ t => PyData.canLayAll0 t = true | .after _ _ t => PyData.canLayAll0 t = true) → PyData.canLay0 d = true := by
  have app : ∀ (a : List PyData) (d : PyData), PyData.canLayAll0 a = true → PyData.canLay0 d = true → PyData.canLayAll0 (a ++ [d]) = true := fun a d h1 h2 => by
    induction a with
    | nil => simp [PyData.canLayAll0, h2]
    | cons x a ih =>
      simp only [PyData.canLayAll0, Bool.and_eq_true, List.cons_append] at h1 ⊢
      exact ⟨h1.1, ih h1.2⟩
  induction h with
  | nameL => intro d b e; cases e
  | @name a deep h _ =>
    intro d b e _
    cases e
    unfold word
    split
    · simp [PyData.canLay0]
    · simp only [PyData.canLay0]
      have z := hg _ (List.mem_of_getElem? (now_some (name_ne h)))
      show (S (nowG gs a)).cps.all (· < 0x110000) = true
      rw [Array.all_eq_true_iff_forall_mem]
      intro c hc
      exact decide_eq_true (z c (by simpa [S] using hc))
  | numL => intro d b e; cases e
  | num => intro d b e _; cases e; simp [PyData.canLay0]
  | negN => intro d b e; cases e
  | negL => intro d b e; cases e
  | neg => intro d b e _; cases e; simp [PyData.canLay0]
  | no => intro d b e; cases e
  | deep => intro d b e; cases e
  | nil => intro d b e _; cases e; simp [PyData.canLay0, PyData.canLayAll0]
  | tup _ _ _ _ ih => intro d b e _; exact ih d b e (by simp [PyData.canLayAll0])
  | sE => intro d b e; cases e
  | sO _ _ ih1 ih2 => intro d b e ht; exact ih2 d b e (app _ _ ht (ih1 _ _ rfl True.intro))
  | aC _ _ ih => intro d b e ht; exact ih d b e ht
  | aE => intro d b e ht; cases e; simp only [PyData.canLay0]; exact ht
  | aN => intro d b e; cases e
end K85

set_option Elab.async false
set_option linter.all false
set_option maxRecDepth 100000
set_option maxHeartbeats 4000000
namespace K85
open PySem PySem.Spec PyProof.Rows L2 LamX Ey
variable {P : Program} {w : World} {K : PySem.W.Frag} {mg : Str → Option Value} {base : Heap}
def OutL (K : PySem.W.Frag) (H : Hp) (Q : VK) : Res → Prop
  | .ok d b => ∀ H' p v, Same H H' → H' p = some (.tup [v, .int ((b : Nat) : Int), .non]) → Dp K H' v d → Q (.ref p) H'
  | .err b y => ∀ H' p q, Same H H' → H' p = some (.tup [.non, .non, .ref q]) → Dp K H' (.ref q) (errD b y) → Q (.ref p) H'
def sp_lpart (K : PySem.W.Frag) (n : Nat) : Sp := fun vs H Q _ => ∃ (l : Addr) (gs : List G) (a deep : Nat), vs = [.ref l, .int (a : Int), .int (deep : Int)] ∧ H l = some (.lst ((pad gs).map vS)) ∧ a ≤ gs.length ∧ Gs gs ∧ deep ≤ 12 ∧ 13 ≤ deep + n ∧ ∀ res, Pr gs (.part a deep) res → OutL K H Q res
theorem long_name {g : G} (h : isName g = true) : isLong g = decide (g.length > 12) := by
  cases g with
  | nil => cases h
  | cons c r =>
    have h : inB LET c = true := h
    have z : ∀ x ∈ LET, inB FIG x = false := by decide +kernel
    have q := z c (of_decide_eq_true h)
    show decide ((c :: r).length > if inB FIG c then 4 else 12) = _
    rw [show (if inB FIG c = true then 4 else 12) = 12 from if_neg (by rw [q]; simp)]
theorem long_num {g : G} (h : isNum g = true) : isLong g = decide (g.length > 4) := by
  cases g with
  | nil => cases h
  | cons c r =>
    have h : inB FIG c = true := h
    show decide ((c :: r).length > if inB FIG c then 4 else 12) = _
    rw [show (if inB FIG c = true then 4 else 12) = 4 from if_pos h]
theorem a1 (a : Nat) : ((a : Int) + 1) = ((a + 1 : Nat) : Int) := by omega
theorem a2 (a : Nat) : ((a : Int) + 2) = ((a + 2 : Nat) : Int) := by omega
def rInS : R2 := fun x y H Q => ∃ (c : Nat) (z : Str), x = .str ⟨#[c]⟩ ∧ y = .str z ∧ Q (.bl (decide (c ∈ z.cps.toList))) H
def rNiS : R2 := fun x y H Q => ∃ (c : Nat) (z : Str), x = .str ⟨#[c]⟩ ∧ y = .str z ∧ Q (.bl (!decide (c ∈ z.cps.toList))) H
def rLnS : List V → Hp → VK → Prop := fun xs H Q => ∃ z, xs = [.str z] ∧ z.length ≤ sizeLine ∧ Q (.int z.length) H
/-- group != '' and group[0] in s and len(group) <= m -/
def tShort (s : Str) (m : Int) : TT := tAnd (tTest (tOp rNe (tVar 3) (tC (.str (Str.ofString ""))))) (tAnd (tTest (tOp rInS (tOp rIxS (tVar 3) (tC (.int 0))) (tC (.str s)))) (tTest (tOp (rI0 fun i j => .bl (decide (i ≤ j))) (tCB rLnS (tCons (tVar 3) tNil)) (tC (.int m)))))
def hdB (L : G) : G → Bool
  | [] => false
  | c :: _ => inB L c
theorem t_short {L : G} {s : Str} (hL : s = S L) {m : Nat} {σ : L2.St} {H : Hp} {g : G} {Q : Bool → Hp → Prop} (hs : σ[3]? = some (some (vS g))) (hz : (S g).length ≤ sizeLine) (h : Q (hdB L g && decide (g.length ≤ m)) H) : tShort s (m : Int) σ H Q := by
  refine ⟨_, hs, rfl, _, rfl, ?_⟩
  rw [of_cp "", dec_vS]
  cases g with
  | nil => exact if_f rfl h
  | cons c r =>
    refine if_t rfl ?_
    refine ⟨_, hs, _, _, c, rfl, rfl, hz, by rw [S_cps]; exact atI_nat (j := 0) rfl, c, _, rfl, rfl, _, rfl, ?_⟩
    rw [hL, S_cps]
    have h : Q (inB L c && decide ((c :: r).length ≤ m)) H := h
    refine if_b (fun c1 => ?_) fun c1 => ?_
    · have c1 : inB L c = true := c1
      rw [c1] at h
      refine ⟨_, hs, _, rfl, hz, _, _, rfl, rfl, _, rfl, ?_⟩
      rw [S_len]
      have e : decide ((((c :: r).length : Nat) : Int) ≤ (m : Int)) = decide ((c :: r).length ≤ m) := by
        rw [Bool.eq_iff_iff, decide_eq_true_iff, decide_eq_true_iff]
        omega
      rw [e]
      exact h
    · have c1 : inB L c = false := c1
      rw [c1] at h
      exact h
/-- groups[at + 1] -/
def tNext1 (K : PySem.W.Frag) : TE := tOp (rIxL K) (tVar 0) (tOp (rI0 fun i j => .int (i + j)) (tVar 1) (tC (.int 1)))
/-- it is no number of at most four figures -/
def tNoNum (K : PySem.W.Frag) : TT := tOr (tTest (tOp rEq (tNext1 K) (tC (.str (Str.ofString ""))))) (tOr (tTest (tOp rNiS (tOp rIxS (tNext1 K) (tC (.int 0))) (tC (.str (Str.ofString "0123456789"))))) (tTest (tOp (rI0 fun i j => .bl (decide (j < i))) (tCB rLnS (tCons (tNext1 K) tNil)) (tC (.int 4)))))
theorem t_next1 {σ : L2.St} {H : Hp} {l : Addr} {a : Nat} {gs : List V} {v : V} {Q : VK} (h0 : σ[0]? = some (some (.ref l))) (h1 : σ[1]? = some (some (.int (a : Int)))) (hl : H l = some (.lst gs)) (hv : gs[a + 1]? = some v) (h : Q v H) : tNext1 K σ H Q :=
  ⟨_, h0, _, h1, _, _, rfl, rfl, l, _, _, _, rfl, rfl, SqL.of hl, by rw [a1]; exact atI_nat hv, h⟩
theorem t_nonum {σ : L2.St} {H : Hp} {l : Addr} {a : Nat} {gs : List V} {g : G} {Q : Bool → Hp → Prop} (h0 : σ[0]? = some (some (.ref l))) (h1 : σ[1]? = some (some (.int (a : Int)))) (hl : H l = some (.lst gs)) (hv : gs[a + 1]? = some (vS g))
    (hz : (S g).length ≤ sizeLine) (h : Q (!(hdB FIG g && decide (g.length ≤ 4))) H) : tNoNum K σ H Q := by
  refine t_next1 h0 h1 hl hv ⟨rfl, _, rfl, ?_⟩
  rw [of_cp "", dec_vS]
  cases g with
  | nil => exact if_t rfl h
  | cons c r =>
    refine if_f rfl ?_
    refine t_next1 h0 h1 hl hv ⟨_, _, c, rfl, rfl, hz, by rw [S_cps]; exact atI_nat (j := 0) rfl, c, _, rfl, rfl, _, rfl, ?_⟩
    rw [lit_FIG, S_cps]
    have h : Q (!(inB FIG c && decide ((c :: r).length ≤ 4))) H := h
    cases c1 : inB FIG c with
    | false =>
      rw [c1] at h
      exact if_t (by rw [show decide (c ∈ FIG) = inB FIG c from rfl, c1]; rfl) h
    | true =>
      rw [c1] at h
      refine if_f (by rw [show decide (c ∈ FIG) = inB FIG c from rfl, c1]; rfl) ?_
      refine t_next1 h0 h1 hl hv ⟨_, rfl, hz, _, _, rfl, rfl, _, rfl, ?_⟩
      rw [S_len]
      have e : decide ((4 : Int) < (((c :: r).length : Nat) : Int)) = !(true && decide ((c :: r).length ≤ 4)) := by
        rw [Bool.true_and, Bool.eq_iff_iff]
        simp
        omega
      rw [e]
      exact h
theorem short_name {g : G} : (hdB LET g && decide (g.length ≤ 12)) = (isName g && !isLong g) := by
  cases g with
  | nil => rfl
  | cons c r =>
    show (inB LET c && decide ((c :: r).length ≤ 12)) = (inB LET c && !isLong (c :: r))
    cases e : inB LET c with
    | false => rfl
    | true =>
      rw [long_name (g := c :: r) e]
      simp only [Bool.true_and]
      rw [Bool.eq_iff_iff]
      simp <;> omega
theorem short_num {g : G} : (hdB FIG g && decide (g.length ≤ 4)) = (isNum g && !isLong g) := by
  cases g with
  | nil => rfl
  | cons c r =>
    show (inB FIG c && decide ((c :: r).length ≤ 4)) = (inB FIG c && !isLong (c :: r))
    cases e : inB FIG c with
    | false => rfl
    | true =>
      rw [long_num (g := c :: r) e]
      simp only [Bool.true_and]
      rw [Bool.eq_iff_iff]
      simp <;> omega
theorem lay_app {a : List PyData} {d : PyData} (h1 : PyData.canLayAll0 a = true) (h2 : PyData.canLay0 d = true) : PyData.canLayAll0 (a ++ [d]) = true := by
  induction a with
  | nil => simp [PyData.canLayAll0, h2]
  | cons x a ih =>
    simp only [PyData.canLayAll0, Bool.and_eq_true, List.cons_append] at h1 ⊢
    exact ⟨h1.1, ih h1.2⟩
theorem ok__law_part (T : T P K mg) : ∀ n : Nat, FnOk P w K mg base C8.CX0 (2 + n) (He.ga K "_law_part") (fdAt K d__law_part) ["groups", "at", "deep"] (sp_lpart K n)
  | 0 => by
    refine ⟨fun vs H Q E h => ?_, fun A outer s H args us vs Q E hr e0 hb hv h => ?_⟩
    · obtain ⟨l, gs, a, deep, rfl, _⟩ := h
      rfl
    · obtain ⟨l, gs, a, deep, _, _, _, _, h1, h2, _⟩ := h
      omega
  | n + 1 => by
    have ok__law_part := fun (_ : K85.T P K mg) => ok__law_part T n
    refine FunD.ok T.f__law_part sc__law_part (fun vs H Q E h => ?_) (fun cdv A outer s H vs Q E hr h => ⟨_, PSs.nox (pss_cons
(ps_set (i := 3) sc__law_part.nd rfl (.inl rfl) (pe_ix ix_list (pv 0) (pv 1) (fun _ _ => rfl)))
(pss_cons
(ps_if (PW.pt (pw_and (pt_cmpR op_ne (pv 3) pe_str (nomark _)) (pw_and (pt_cmpR op_in_sign (pe_ix ix_str (pv 3) pe_int (fun _ _ => rfl)) pe_str (by rfl)) (pw_and1 (pt_cmpR op_le (pe_callB call_len_str (by rfl) T.b_len (by decide +kernel) (pa_cons (pv 3) pa_nil)) pe_int (nomark _)))))) (pss_one
(ps_ret (pe_tup (pa_cons (pe_ifExp (pt_cmpR op_eq (pv 3) pe_str (nomark _)) pe_non (pv 3)) (pa_cons (pe_op op_add (pv 1) pe_int) (pa_cons pe_non pa_nil)))))) pss_nil)
(pss_cons
(ps_if (pt_cmpR op_eq (pv 3) pe_str (nomark _)) (pss_cons
(ps_if (PW.pt (pw_or (pt_cmpR op_eq (pe_ix ix_list (pv 0) (pe_op op_add (pv 1) pe_int) (fun _ _ => rfl)) pe_str (nomark _)) (pw_or (pt_cmpR op_notIn_sign (pe_ix ix_str (pe_ix ix_list (pv 0) (pe_op op_add (pv 1) pe_int) (fun _ _ => rfl)) pe_int (fun _ _ => rfl)) pe_str (by rfl)) (pw_or1 (pt_cmpR op_gt (pe_callB call_len_str (by rfl) T.b_len (by decide +kernel) (pa_cons (pe_ix ix_list (pv 0) (pe_op op_add (pv 1) pe_int) (fun _ _ => rfl)) pa_nil)) pe_int (nomark _)))))) (pss_one
(ps_ret (pe_tup (pa_cons pe_non (pa_cons pe_non (pa_cons (pe_call (ok__law_wrong T) (hr.mono (by first | decide | omega | (simp only [Nat.add_eq]; omega))) rfl T.g__law_wrong T.f__law_wrong.kp (bn__law_wrong T.f__law_wrong) .nil (C8.pass0 (E := C8.E0)) (pa_cons (pv 0) (pa_cons (pe_op op_add (pv 1) pe_int) (pa_cons pe_int pa_nil)))) pa_nil)))))) pss_nil)
(pss_one
(ps_ret (pe_tup (pa_cons (pe_op op_sub pe_int (pe_callTy call_int_str (by rfl) T.b_int (by decide +kernel) (pa_cons (pe_ix ix_list (pv 0) (pe_op op_add (pv 1) pe_int) (fun _ _ => rfl)) pa_nil))) (pa_cons (pe_op op_add (pv 1) pe_int) (pa_cons pe_non pa_nil))))))) pss_nil)
(pss_cons
(ps_if (PW.pt (pw_and (pt_cmpR op_ne (pv 3) pe_str (nomark _)) (pw_and (pt_cmpR op_in_sign (pe_ix ix_str (pv 3) pe_int (fun _ _ => rfl)) pe_str (by rfl)) (pw_and1 (pt_cmpR op_le (pe_callB call_len_str (by rfl) T.b_len (by decide +kernel) (pa_cons (pv 3) pa_nil)) pe_int (nomark _)))))) (pss_one
(ps_ret (pe_tup (pa_cons (pe_callTy call_int_str (by rfl) T.b_int (by decide +kernel) (pa_cons (pv 3) pa_nil)) (pa_cons (pe_op op_add (pv 1) pe_int) (pa_cons pe_non pa_nil)))))) pss_nil)
(pss_cons
(ps_if (pt_cmpR op_ne (pv 3) pe_str (nomark _)) (pss_one
(ps_ret (pe_tup (pa_cons pe_non (pa_cons pe_non (pa_cons (pe_call (ok__law_wrong T) (hr.mono (by first | decide | omega | (simp only [Nat.add_eq]; omega))) rfl T.g__law_wrong T.f__law_wrong.kp (bn__law_wrong T.f__law_wrong) .nil (C8.pass0 (E := C8.E0)) (pa_cons (pv 0) (pa_cons (pv 1) (pa_cons pe_int pa_nil)))) pa_nil)))))) pss_nil)
(pss_cons
(ps_if (pt_cmpR op_eq (pv 2) pe_int (nomark _)) (pss_one
(ps_ret (pe_tup (pa_cons pe_non (pa_cons pe_non (pa_cons (pe_tup (pa_cons pe_str (pa_cons (pv 1) (pa_cons pe_int pa_nil)))) pa_nil)))))) pss_nil)
(pss_cons
(ps_par (i := 4) (j := 1) (by rfl) sc__law_part.nd rfl rfl (by decide) rfl rfl (pa_cons (pe_lst pa_nil) (pa_cons (pe_op op_add (pv 1) pe_int) pa_nil)) (by rfl))
(pss_cons
(ps_while PassesOwn.never (PW.pt (pw_or (pt_cmpR op_ne (pe_ix ix_list (pv 0) (pv 1) (fun _ _ => rfl)) pe_str (nomark _)) (pw_or1 (PW.pt (pw_and (pt_cmpR (op_neNil hr.units) (pv 4) (pe_lst pa_nil) (nomark _)) (pw_and1 (pt_cmpR op_eq (pe_ix ix_list (pv 0) (pe_op op_sub (pv 1) pe_int) (fun _ _ => rfl)) pe_str (nomark _)))))))) (pss_cons
(ps_asg (pe_call (ok__law_part T) (hr.mono (by first | decide | omega | (simp only [Nat.add_eq]; omega))) rfl T.g__law_part T.f__law_part.kp (bn__law_part T.f__law_part) .nil (C8.pass0 (E := C8.E0)) (pa_cons (pv 0) (pa_cons (pv 1) (pa_cons (pe_op op_add (pv 2) pe_int) pa_nil)))) (pg_tup rfl (pgs_cons (pg_name (i := 5) sc__law_part.nd rfl (.inl rfl)) (pgs_cons (pg_name (i := 6) sc__law_part.nd rfl (.inl rfl)) (pgs_cons (pg_name (i := 7) sc__law_part.nd rfl (.inl rfl)) pgs_nil)))))
(pss_cons
(ps_if (pt_cmpR op_notN (pv 7) pe_non (nomark _)) (pss_one
(ps_ret (pe_tup (pa_cons pe_non (pa_cons pe_non (pa_cons (pv 7) pa_nil)))))) pss_nil)
(pss_cons
(ps_par (i := 4) (j := 1) (by rfl) sc__law_part.nd rfl rfl (by decide) rfl rfl (pa_cons (pe_op op_cat (pv 4) (pe_lst (pa_cons (pv 5) pa_nil))) (pa_cons (pv 6) pa_nil)) (by rfl))
(pss_one
(ps_if (pt_cmpR op_eq (pe_ix ix_list (pv 0) (pv 1) (fun _ _ => rfl)) pe_str (nomark _)) (pss_one
(ps_set (i := 1) sc__law_part.nd rfl (.inl rfl) (pe_op op_add (pv 1) pe_int))) (pss_one
(ps_if (pt_cmpR op_ne (pe_ix ix_list (pv 0) (pv 1) (fun _ _ => rfl)) pe_str (nomark _)) (pss_one
(ps_ret (pe_tup (pa_cons pe_non (pa_cons pe_non (pa_cons (pe_call (ok__law_wrong T) (hr.mono (by first | decide | omega | (simp only [Nat.add_eq]; omega))) rfl T.g__law_wrong T.f__law_wrong.kp (bn__law_wrong T.f__law_wrong) .nil (C8.pass0 (E := C8.E0)) (pa_cons (pv 0) (pa_cons (pv 1) (pa_cons pe_int pa_nil)))) pa_nil)))))) pss_nil))))))))
(pss_one
(ps_ret (pe_tup (pa_cons (pe_callTy call_tuple_of (by rfl) T.b_tuple (by decide +kernel) (pa_cons (pv 4) pa_nil)) (pa_cons (pe_op op_add (pv 1) pe_int) (pa_cons pe_non pa_nil)))))))))))))), ?_⟩)
    · obtain ⟨l, gs, a, deep, rfl, _⟩ := h
      rfl
    · obtain ⟨l, gs, a, deep, rfl, hl, ha, hg, hd1, hd2, hO⟩ := h
      have at_ : ∀ {H' : Hp} (b : Nat), b ≤ gs.length + 2 → ((pad gs).map vS)[b]? = some (vS (nowG gs b)) := fun b hb => by rw [List.getElem?_map, pad_at hb]; rfl
      have hsz : ∀ b, (S (nowG gs b)).length ≤ sizeLine := fun b => by rw [S_len]; exact nowG_len hg.short b
      have hstay : ∀ {H'}, Same H H' → H' l = some (.lst ((pad gs).map vS)) := fun e => e l _ hl
      refine ⟨_, rfl, _, rfl, l, _, _, _, rfl, rfl, SqL.of hl, atI_nat (at_ (H' := H) a (by omega)), ?_⟩
      refine t_short lit_LET (m := 12) rfl (hsz a) ?_
      rw [short_name]
      have hlw : ∀ {H'} (b : Nat) (y : Int), Same H H' → b ≤ gs.length + 2 → ∀ Qx : VK, (∀ H2 q, Same H' H2 → Dp K H2 (.ref q) (errD b (wy gs b y)) → Qx (.ref q) H2) → sp_lwrong K [.ref l, .int (b : Int), .int y] H' Qx C8.E0 :=
        fun b y e hb Qx h => ⟨l, gs, b, y, rfl, hstay e, hb, hg, h⟩
      cases c1 : (isName (nowG gs a) && !isLong (nowG gs a)) with
      | true =>
        have c1' : isName (nowG gs a) = true ∧ isLong (nowG gs a) = false := by simpa using c1
        refine if_t rfl ?_
        refine ⟨_, rfl, rfl, _, rfl, ?_⟩
        rw [show Str.ofString "none" = S (cp "none") from of_cp _, dec_vS]
        have fin := hO _ (.name c1'.1 c1'.2)
        refine if_b (fun c2 => ?_) fun c2 => ?_
        · have c2 := of_decide_eq_true c2
          refine ⟨_, rfl, _, _, rfl, rfl, len3, fun p np => ?_⟩
          refine fin _ p .non (upd_ext np) (by rw [upd_same, ← a1] <;> rfl) ?_
          unfold word
          rw [if_pos c2]
          exact .non
        · have c2 := of_decide_eq_false c2
          refine ⟨_, rfl, _, rfl, _, _, rfl, rfl, len3, fun p np => ?_⟩
          refine fin _ p (vS (nowG gs a)) (upd_ext np) (by rw [upd_same, ← a1] <;> rfl) ?_
          unfold word
          rw [if_neg c2]
          exact .str _
      | false =>
      refine if_f rfl ?_
      refine ⟨_, rfl, rfl, _, rfl, ?_⟩
      rw [show Str.ofString "-" = S (cp "-") from of_cp _, dec_vS]
      by_cases c2 : nowG gs a = cp "-"
      · -- a minus
        refine if_t (decide_eq_true c2) ?_
        have hlt : a < gs.length := now_ne_lt (by rw [c2]; decide +kernel)
        refine t_nonum rfl rfl hl (at_ (H' := H) (a + 1) (by omega)) (hsz (a + 1)) ?_
        rw [short_num]
        cases c3 : (isNum (nowG gs (a + 1)) && !isLong (nowG gs (a + 1))) with
        | true =>
          have c3' : isNum (nowG gs (a + 1)) = true ∧ isLong (nowG gs (a + 1)) = false := by simpa using c3
          refine if_f rfl ?_
          have h4 := short4 c3'.1 c3'.2
          refine t_next1 rfl rfl hl (at_ (H' := H) (a + 1) (by omega)) ⟨S (nowG gs (a + 1)), _, rfl, intText_digits (by rw [S_cps]; exact digs_now hg.digs _ c3'.1) (by rw [S_cps]; exact num_ne c3'.1) (by rw [S_len]; omega), by rw [S_len]; omega, ?_⟩
          rw [S_cps]
          refine ⟨_, _, rfl, rfl, _, rfl, _, _, rfl, rfl, len3, fun p np => ?_⟩
          refine hO _ (.neg c2 c3'.1 c3'.2) _ p (.int (0 - valG (nowG gs (a + 1)))) (upd_ext np) (by rw [upd_same, ← a2]; rfl) ?_
          have e : (0 - valG (nowG gs (a + 1))) = -valG (nowG gs (a + 1)) := by omega
          show Dp K _ (.int (0 - valG (nowG gs (a + 1)))) _
          rw [e]
          exact .int _
        | false =>
          refine if_t rfl ?_
          refine ⟨_, rfl, _, rfl, _, _, rfl, rfl, l, gs, a + 1, 4, by rw [← a1]; rfl, hl, by omega, hg, fun H2 q e2 hq => ⟨len3, fun p np => ?_⟩⟩
          have fin : ∀ y, Pr gs (.part a deep) (.err (a + 1) y) → wy gs (a + 1) 4 = y → _ := fun y h1 h2 => hO _ h1 (upd H2 p (.tup [.non, .non, .ref q])) p q (Same.trans e2 (upd_ext np)) upd_same (by rw [← h2]; exact Dp.ext (upd_ext np) _ _ hq)
          cases c4 : isNum (nowG gs (a + 1)) with
          | false => exact fin _ (.negN c2 c4) rfl
          | true =>
            have c5 : isLong (nowG gs (a + 1)) = true := by
              rw [c4] at c3
              simpa using c3
            exact fin 3 (.negL c2 c4 c5) (by unfold wy; rw [c5]; rfl)
      refine if_f (decide_eq_false c2) ?_
      refine t_short lit_FIG (m := 4) rfl (hsz a) ?_
      rw [short_num]
      cases c3 : (isNum (nowG gs a) && !isLong (nowG gs a)) with
      | true =>
        have c3' : isNum (nowG gs a) = true ∧ isLong (nowG gs a) = false := by simpa using c3
        refine if_t rfl ?_
        have h4 := short4 c3'.1 c3'.2
        refine ⟨_, rfl, S (nowG gs a), _, rfl, intText_digits (by rw [S_cps]; exact digs_now hg.digs _ c3'.1) (by rw [S_cps]; exact num_ne c3'.1) (by rw [S_len]; omega), by rw [S_len]; omega, ?_⟩
        rw [S_cps]
        refine ⟨_, rfl, _, _, rfl, rfl, len3, fun p np => ?_⟩
        exact hO _ (.num c3'.1 c3'.2) _ p (.int (valG (nowG gs a))) (upd_ext np) (by rw [upd_same, ← a1]; rfl) (.int _)
      | false =>
      refine if_f rfl ?_
      refine ⟨_, rfl, rfl, _, rfl, ?_⟩
      rw [show Str.ofString "(" = S (cp "(") from of_cp _, dec_vS]
      have wn : isName (nowG gs a) = true → isLong (nowG gs a) = true := fun z => by
        rw [z] at c1
        simpa using c1
      have wm : isNum (nowG gs a) = true → isLong (nowG gs a) = true := fun z => by
        rw [z] at c3
        simpa using c3
      by_cases c4 : nowG gs a = cp "("
      rotate_left
      · refine if_t (by rw [decide_eq_false c4]; rfl) ?_
        refine ⟨_, rfl, _, rfl, l, gs, a, 4, rfl, hl, by omega, hg, fun H2 q e2 hq => ⟨len3, fun p np => ?_⟩⟩
        have fin : ∀ y, Pr gs (.part a deep) (.err a y) → wy gs a 4 = y → _ := fun y h1 h2 => hO _ h1 (upd H2 p (.tup [.non, .non, .ref q])) p q (Same.trans e2 (upd_ext np)) upd_same (by rw [← h2]; exact Dp.ext (upd_ext np) _ _ hq)
        cases c5 : isName (nowG gs a) with
        | true => exact fin 3 (.nameL c5 (wn c5)) (by unfold wy; rw [wn c5]; rfl)
        | false =>
          cases c6 : isNum (nowG gs a) with
          | true => exact fin 3 (.numL c6 (wm c6)) (by unfold wy; rw [wm c6]; rfl)
          | false => exact fin _ (.no c5 c6 c2 c4) rfl
      refine if_f (by rw [decide_eq_true c4]; rfl) ?_
      refine ⟨_, rfl, rfl, _, rfl, ?_⟩
      by_cases c5 : deep = 12
      · refine if_t (by rw [c5]; rfl) ?_
        refine ⟨_, rfl, len3, fun q nq => ⟨len3, fun p np => ?_⟩⟩
        subst c5
        refine hO _ (.deep c4) _ p q (Same.trans (upd_ext nq) (upd_ext np)) upd_same (Dp.ext (upd_ext np) _ _ (errD_of upd_same))
      refine if_f (decide_eq_false fun z => c5 (by have z := V.int.inj z; omega)) ?_
      have hlt : a < gs.length := now_ne_lt (by rw [c4]; decide +kernel)
      refine ⟨Nat.zero_le _, fun t nt => ?_⟩
      refine ⟨_, rfl, _, _, rfl, rfl, _, _, rfl, ?_⟩
      refine ⟨fun m σ Hc => ∃ (b : Nat) (ds : List PyData) (t : Addr) (vs : List V) (x5 x6 x7 : Option V), m = gs.length + 1 - b ∧ b ≤ gs.length ∧ σ = [some (.ref l), some (.int (b : Int)), some (.int (deep : Int)), some (vS (nowG gs a)), some (.ref t), x5, x6, x7] ∧ Same H Hc ∧ Hc t = some (.lst vs) ∧ DpAll K Hc vs ds ∧ vs.length ≤ b ∧ PyData.canLayAll0 ds = true ∧
          ((ds = [] ∧ b = a + 1) ∨ (ds ≠ [] ∧ 1 ≤ b ∧ nowG gs (b - 1) = cp "," ∧ ∀ res, Pr gs (.seq b (deep + 1) ds) res → OutL K H Q res) ∨ (ds ≠ [] ∧ 1 ≤ b ∧ nowG gs b = cp ")" ∧ nowG gs (b - 1) ≠ cp "," ∧ ∀ res, Pr gs (.after b (deep + 1) ds) res → OutL K H Q res)),
        ⟨_, a + 1, [], t, [], none, none, none, rfl, hlt, by rw [← a1]; rfl, upd_ext nt, upd_same, .nil, Nat.zero_le _, by simp [PyData.canLayAll0], .inl ⟨rfl, rfl⟩⟩, ?_⟩
      rintro m σ Hc ⟨b, ds, t, vs, x5, x6, x7, rfl, hb, rfl, ec, ht, hds, hvs, hlay, hst⟩
      have hlc := hstay ec
      refine ⟨_, rfl, _, rfl, l, _, _, _, rfl, rfl, SqL.of hlc, atI_nat (at_ (H' := H) b (by omega)), rfl, _, rfl, ?_⟩
      rw [show Str.ofString ")" = S (cp ")") from of_cp _, dec_vS]
      by_cases c6 : nowG gs b = cp ")"
      rotate_left
      · -- one more part
        refine if_t (by rw [decide_eq_false c6]; rfl) (if_t rfl ?_)
        have hseq : ∀ res, Pr gs (.seq b (deep + 1) ds) res → OutL K H Q res := by
          rcases hst with ⟨rfl, rfl⟩ | ⟨_, _, _, h⟩ | ⟨_, _, z, _⟩
          · exact fun res h => hO res (.tup c4 c5 c6 h)
          · exact h
          · exact absurd z c6
        have ed := ec
        have td := ht
        have dd := hds
        refine ⟨_, fun σ' H'' q => q, ?_⟩
        refine ⟨_, rfl, _, rfl, _, rfl, _, _, rfl, rfl, l, gs, b, deep + 1, by rw [← a1]; rfl, hstay ed, hb, hg, by omega, by omega, fun res hres => ?_⟩
        cases res with
        | err b' y =>
          intro H2 p q e2 hp hq
          refine ⟨p, _, rfl, SqT.of hp, rfl, _, _, rfl, _, _, rfl, _, _, rfl, rfl, ?_⟩
          refine ⟨_, rfl, rfl, _, rfl, if_t rfl ?_⟩
          refine ⟨_, rfl, len3, fun p2 np2 => ?_⟩
          exact hseq (.err b' y) (.sE hres) _ p2 q (Same.trans ed (Same.trans e2 (upd_ext np2))) upd_same (Dp.ext (upd_ext np2) _ _ hq)
        | ok d b' =>
          intro H2 p v e2 hp hv
          have hgt := hres.gt _ _ rfl
          simp only [posOf] at hgt
          have hle := hres.le _ _ rfl
          have ht2 := e2 t _ td
          refine ⟨p, _, rfl, SqT.of hp, rfl, _, _, rfl, _, _, rfl, _, _, rfl, rfl, ?_⟩
          refine ⟨_, rfl, rfl, _, rfl, if_f rfl ?_⟩
          refine ⟨_, rfl, _, rfl, one_line, fun q nq => ?_⟩
          have e3 := upd_ext (o := .lst [v]) nq
          refine ⟨t, q, _, _, rfl, rfl, e3 t _ ht2, upd_same, by have z := hg.few; simp only [List.length_cons, List.length_nil]; rw [sizeLine_eq]; omega, fun u nu => ?_⟩
          have e4 := Same.trans e3 (upd_ext (o := .lst (vs ++ [v])) nu)
          have e5 := Same.trans e2 e4
          refine ⟨_, rfl, _, _, rfl, ?_⟩
          have hl5 := hstay (Same.trans ed e5)
          have hds5 : DpAll K (upd (upd H2 q (.lst [v])) u (.lst (vs ++ [v]))) (vs ++ [v]) (ds ++ [d]) := DpAll.append (Dp.extAll e5 _ _ dd) (.cons (Dp.ext e4 _ _ hv) .nil)
          have hlay5 : PyData.canLayAll0 (ds ++ [d]) = true := lay_app hlay (Pr.lay hg.plain hres _ _ rfl True.intro)
          have haf : ∀ res, Pr gs (.after b' (deep + 1) (ds ++ [d])) res → OutL K H Q res := fun res h => hseq res (.sO hres h)
          have hv5 : (vs ++ [v]).length ≤ b' := by
            rw [List.length_append, List.length_singleton]
            omega
          refine ⟨_, rfl, _, rfl, l, _, _, _, rfl, rfl, SqL.of hl5, atI_nat (at_ (H' := H) b' (by omega)), rfl, _, rfl, ?_⟩
          first | rw [show Str.ofString "," = S (cp ",") from of_cp _, dec_vS] | rw [dec_vS]
          by_cases d1 : nowG gs b' = cp ","
          · refine if_t (decide_eq_true d1) ?_
            have hlt2 : b' < gs.length := now_ne_lt (by rw [d1]; decide +kernel)
            refine ⟨_, rfl, _, _, rfl, rfl, ?_⟩
            refine ⟨_, ?_, b' + 1, ds ++ [d], u, vs ++ [v], _, _, _, rfl, hlt2, by rw [← a1]; rfl, Same.trans ed e5, upd_same, hds5, by omega, hlay5, .inr (.inl ⟨by simp, by omega, by rw [Nat.add_sub_cancel]; exact d1, fun res h => haf res (.aC d1 h)⟩)⟩
            omega
          · refine if_f (decide_eq_false d1) ?_
            refine ⟨_, rfl, _, rfl, l, _, _, _, rfl, rfl, SqL.of hl5, atI_nat (at_ (H' := H) b' (by omega)), rfl, _, rfl, ?_⟩
            first | rw [show Str.ofString ")" = S (cp ")") from of_cp _, dec_vS] | rw [dec_vS]
            by_cases d2 : nowG gs b' = cp ")"
            · refine if_f (by rw [decide_eq_true d2]; rfl) ?_
              refine ⟨_, ?_, b', ds ++ [d], u, vs ++ [v], _, _, _, rfl, hle, rfl, Same.trans ed e5, upd_same, hds5, hv5, hlay5, .inr (.inr ⟨by simp, by omega, d2, hres.last _ _ rfl, haf⟩)⟩
              omega
            · refine if_t (by rw [decide_eq_false d2]; rfl) ?_
              refine ⟨_, rfl, _, rfl, l, gs, b', 4, rfl, hl5, by omega, hg, fun H6 q6 e6 hq6 => ⟨len3, fun p6 np6 => ?_⟩⟩
              exact haf (.err b' (wy gs b' 4)) (.aN d1 d2) _ p6 q6 (Same.trans (Same.trans ed e5) (Same.trans e6 (upd_ext np6))) upd_same (Dp.ext (upd_ext np6) _ _ hq6)
      refine if_f (by rw [decide_eq_true c6]; rfl) ?_
      refine ⟨_, rfl, Nat.zero_le _, fun p0 np0 => ?_⟩
      have e0 := upd_ext (o := .lst []) np0
      have ed := Same.trans ec e0
      have td := e0 t _ ht
      have dd := Dp.extAll e0 _ _ hds
      refine ⟨ds, p0, .lst (SqL.of td) dd, rfl, SqL.of upd_same, hlay, _, rfl, ?_⟩
      rcases hst with ⟨rfl, rfl⟩ | ⟨h1, h2, h3, hseq⟩ | ⟨h1, h2, h3, h4, haf⟩
      · refine if_f rfl (if_f rfl ?_)
        have ev : vs = [] := by cases dd; rfl
        subst ev
        refine ⟨_, rfl, t, _, rfl, .inl ⟨SqL.of td, fun u nu => ?_⟩⟩
        refine ⟨_, rfl, _, _, rfl, rfl, len3, fun p np => ?_⟩
        have e6 := upd_ext (o := .tup []) nu
        refine hO _ (.nil c4 c5 c6) _ p (.ref u) (Same.trans ed (Same.trans e6 (upd_ext np))) (by rw [upd_same]; rfl) (Dp.ext (upd_ext np) _ _ (.tup (SqT.of upd_same) .nil))
      · refine if_t (by cases ds with | nil => exact absurd rfl h1 | cons x r => rfl) ?_
        have eb : ((b : Int) - 1) = ((b - 1 : Nat) : Int) := by omega
        refine ⟨_, rfl, _, rfl, _, _, rfl, rfl, l, _, _, _, rfl, rfl, SqL.of (hstay ed), by rw [eb]; exact atI_nat (at_ (H' := H) (b - 1) (by omega)), rfl, _, rfl, ?_⟩
        rw [show Str.ofString "," = S (cp ",") from of_cp _, dec_vS, decide_eq_true h3]
        refine if_t rfl ?_
        refine ⟨_, fun σ' H'' q => q, ?_⟩
        refine ⟨_, rfl, _, rfl, _, rfl, _, _, rfl, rfl, l, gs, b, deep + 1, by rw [← a1]; rfl, hstay ed, hb, hg, by omega, by omega, fun res hres => ?_⟩
        cases res with
        | err b' y =>
          intro H2 p q e2 hp hq
          refine ⟨p, _, rfl, SqT.of hp, rfl, _, _, rfl, _, _, rfl, _, _, rfl, rfl, ?_⟩
          refine ⟨_, rfl, rfl, _, rfl, if_t rfl ?_⟩
          refine ⟨_, rfl, len3, fun p2 np2 => ?_⟩
          exact hseq (.err b' y) (.sE hres) _ p2 q (Same.trans ed (Same.trans e2 (upd_ext np2))) upd_same (Dp.ext (upd_ext np2) _ _ hq)
        | ok d b' =>
          intro H2 p v e2 hp hv
          have hgt := hres.gt _ _ rfl
          simp only [posOf] at hgt
          have hle := hres.le _ _ rfl
          have ht2 := e2 t _ td
          refine ⟨p, _, rfl, SqT.of hp, rfl, _, _, rfl, _, _, rfl, _, _, rfl, rfl, ?_⟩
          refine ⟨_, rfl, rfl, _, rfl, if_f rfl ?_⟩
          refine ⟨_, rfl, _, rfl, one_line, fun q nq => ?_⟩
          have e3 := upd_ext (o := .lst [v]) nq
          refine ⟨t, q, _, _, rfl, rfl, e3 t _ ht2, upd_same, by have z := hg.few; simp only [List.length_cons, List.length_nil]; rw [sizeLine_eq]; omega, fun u nu => ?_⟩
          have e4 := Same.trans e3 (upd_ext (o := .lst (vs ++ [v])) nu)
          have e5 := Same.trans e2 e4
          refine ⟨_, rfl, _, _, rfl, ?_⟩
          have hl5 := hstay (Same.trans ed e5)
          have hds5 : DpAll K (upd (upd H2 q (.lst [v])) u (.lst (vs ++ [v]))) (vs ++ [v]) (ds ++ [d]) := DpAll.append (Dp.extAll e5 _ _ dd) (.cons (Dp.ext e4 _ _ hv) .nil)
          have hlay5 : PyData.canLayAll0 (ds ++ [d]) = true := lay_app hlay (Pr.lay hg.plain hres _ _ rfl True.intro)
          have haf : ∀ res, Pr gs (.after b' (deep + 1) (ds ++ [d])) res → OutL K H Q res := fun res h => hseq res (.sO hres h)
          have hv5 : (vs ++ [v]).length ≤ b' := by
            rw [List.length_append, List.length_singleton]
            omega
          refine ⟨_, rfl, _, rfl, l, _, _, _, rfl, rfl, SqL.of hl5, atI_nat (at_ (H' := H) b' (by omega)), rfl, _, rfl, ?_⟩
          first | rw [show Str.ofString "," = S (cp ",") from of_cp _, dec_vS] | rw [dec_vS]
          by_cases d1 : nowG gs b' = cp ","
          · refine if_t (decide_eq_true d1) ?_
            have hlt2 : b' < gs.length := now_ne_lt (by rw [d1]; decide +kernel)
            refine ⟨_, rfl, _, _, rfl, rfl, ?_⟩
            refine ⟨_, ?_, b' + 1, ds ++ [d], u, vs ++ [v], _, _, _, rfl, hlt2, by rw [← a1]; rfl, Same.trans ed e5, upd_same, hds5, by omega, hlay5, .inr (.inl ⟨by simp, by omega, by rw [Nat.add_sub_cancel]; exact d1, fun res h => haf res (.aC d1 h)⟩)⟩
            omega
          · refine if_f (decide_eq_false d1) ?_
            refine ⟨_, rfl, _, rfl, l, _, _, _, rfl, rfl, SqL.of hl5, atI_nat (at_ (H' := H) b' (by omega)), rfl, _, rfl, ?_⟩
            first | rw [show Str.ofString ")" = S (cp ")") from of_cp _, dec_vS] | rw [dec_vS]
            by_cases d2 : nowG gs b' = cp ")"
            · refine if_f (by rw [decide_eq_true d2]; rfl) ?_
              refine ⟨_, ?_, b', ds ++ [d], u, vs ++ [v], _, _, _, rfl, hle, rfl, Same.trans ed e5, upd_same, hds5, hv5, hlay5, .inr (.inr ⟨by simp, by omega, d2, hres.last _ _ rfl, haf⟩)⟩
              omega
            · refine if_t (by rw [decide_eq_false d2]; rfl) ?_
              refine ⟨_, rfl, _, rfl, l, gs, b', 4, rfl, hl5, by omega, hg, fun H6 q6 e6 hq6 => ⟨len3, fun p6 np6 => ?_⟩⟩
              exact haf (.err b' (wy gs b' 4)) (.aN d1 d2) _ p6 q6 (Same.trans (Same.trans ed e5) (Same.trans e6 (upd_ext np6))) upd_same (Dp.ext (upd_ext np6) _ _ hq6)
      · refine if_t (by cases ds with | nil => exact absurd rfl h1 | cons x r => rfl) ?_
        have eb : ((b : Int) - 1) = ((b - 1 : Nat) : Int) := by omega
        refine ⟨_, rfl, _, rfl, _, _, rfl, rfl, l, _, _, _, rfl, rfl, SqL.of (hstay ed), by rw [eb]; exact atI_nat (at_ (H' := H) (b - 1) (by omega)), rfl, _, rfl, ?_⟩
        rw [show Str.ofString "," = S (cp ",") from of_cp _, dec_vS, decide_eq_false h4]
        refine if_f rfl ?_
        refine ⟨_, rfl, t, _, rfl, .inl ⟨SqL.of td, fun u nu => ?_⟩⟩
        refine ⟨_, rfl, _, _, rfl, rfl, len3, fun p np => ?_⟩
        have e6 := upd_ext (o := .tup vs) nu
        exact haf _ (.aE h3) _ p (.ref u) (Same.trans ed (Same.trans e6 (upd_ext np))) (by rw [upd_same]; rfl) (Dp.ext (upd_ext np) _ _ (.tup (SqT.of upd_same) (Dp.extAll e6 _ _ dd)))
end K85

set_option Elab.async false
set_option linter.all false
set_option maxRecDepth 100000
set_option maxHeartbeats 4000000
namespace K85
open PySem PySem.Spec PyProof.Rows L2 LamX Ey
variable {P : Program} {w : World} {K : PySem.W.Frag} {mg : Str → Option Value} {base : Heap}
def resD : Res → PyData
  | .ok d _ => .tuple [.str (Str.ofString "value"), d]
  | .err b y => errD b y
def sp_lread (K : PySem.W.Frag) : Sp := fun vs H Q _ => ∃ (l : Addr) (gs : List G), vs = [.ref l] ∧ H l = some (.lst (gs.map vS)) ∧ Gs gs ∧ ∀ res, Whole gs res → ∀ H' v, Same H H' → Dp K H' v (resD res) → Q v H'
theorem ok__law_read (T : T P K mg) : FnOk P w K mg base C8.CX0 16 (He.ga K "_law_read") (fdAt K d__law_read) ["groups"] (sp_lread K) := by
  have ok__law_part := fun (T : K85.T P K mg) => ok__law_part (w := w) (base := base) T 13
  refine FunD.ok T.f__law_read sc__law_read (fun vs H Q E h => ?_) (fun cdv A outer s H vs Q E hr h => ⟨_, PSs.nox (pss_cons
(ps_set (i := 0) sc__law_read.nd rfl (.inl rfl) (pe_op op_cat (pe_callTy call_list_of (by rfl) T.b_list (by decide +kernel) (pa_cons (pv 0) pa_nil)) (pe_lst (pa_cons pe_str (pa_cons pe_str (pa_cons pe_str pa_nil))))))
(pss_cons
(ps_asg (pe_call (ok__law_part T) (hr.mono (by first | decide | omega | (simp only [Nat.add_eq]; omega))) rfl T.g__law_part T.f__law_part.kp (bn__law_part T.f__law_part) .nil (C8.pass0 (E := C8.E0)) (pa_cons (pv 0) (pa_cons pe_int (pa_cons pe_int pa_nil)))) (pg_tup rfl (pgs_cons (pg_name (i := 1) sc__law_read.nd rfl (.inl rfl)) (pgs_cons (pg_name (i := 2) sc__law_read.nd rfl (.inl rfl)) (pgs_cons (pg_name (i := 3) sc__law_read.nd rfl (.inl rfl)) pgs_nil)))))
(pss_cons
(ps_if (pt_cmpR op_notN (pv 3) pe_non (nomark _)) (pss_one
(ps_ret (pv 3))) pss_nil)
(pss_one
(ps_ret (pe_ifExp (pt_cmpR op_eq (pe_ix ix_list (pv 0) (pv 2) (fun _ _ => rfl)) pe_str (nomark _)) (pe_tup (pa_cons pe_str (pa_cons (pv 1) pa_nil))) (pe_call (ok__law_wrong T) (hr.mono (by first | decide | omega | (simp only [Nat.add_eq]; omega))) rfl T.g__law_wrong T.f__law_wrong.kp (bn__law_wrong T.f__law_wrong) .nil (C8.pass0 (E := C8.E0)) (pa_cons (pv 0) (pa_cons (pv 2) (pa_cons pe_int pa_nil)))))))))), ?_⟩)
  · obtain ⟨l, gs, rfl, _⟩ := h
    rfl
  · obtain ⟨l, gs, rfl, hl, hg, hQ⟩ := h
    refine ⟨_, rfl, l, _, rfl, .inl (SqL.of hl), fun p np => ?_⟩
    have e1 := upd_ext (o := .lst (gs.map vS)) np
    refine ⟨len3, fun q nq => ?_⟩
    have e2 := upd_ext (o := .lst [.str (Str.ofString ""), .str (Str.ofString ""), .str (Str.ofString "")]) nq
    have hp := e2 p _ upd_same
    refine ⟨p, q, _, _, rfl, rfl, hp, upd_same, by have z := hg.few; rw [List.length_map, sizeLine_eq]; simp only [List.length_cons, List.length_nil]; omega, fun t nt => ?_⟩
    have ht : upd (upd (upd H p (.lst (gs.map vS))) q (.lst [.str (Str.ofString ""), .str (Str.ofString ""), .str (Str.ofString "")])) t (.lst (gs.map vS ++ [.str (Str.ofString ""), .str (Str.ofString ""), .str (Str.ofString "")])) t = some (.lst ((pad gs).map vS)) := by
      rw [upd_same, of_cp]
      unfold pad
      rw [List.map_append]
      rfl
    have e3 := Same.trans e1 (Same.trans e2 (upd_ext (o := .lst (gs.map vS ++ [.str (Str.ofString ""), .str (Str.ofString ""), .str (Str.ofString "")])) nt))
    refine ⟨_, rfl, t, gs, 0, 0, rfl, ht, Nat.zero_le _, hg, by omega, by omega, fun res hres => ?_⟩
    cases res with
    | err b y =>
      intro H2 p2 q2 e4 hp2 hq2
      refine ⟨p2, _, rfl, SqT.of hp2, rfl, _, _, rfl, _, _, rfl, _, _, rfl, rfl, ?_⟩
      refine ⟨_, rfl, rfl, _, rfl, if_t rfl ⟨_, rfl, ?_⟩⟩
      exact hQ (.err b y) (.inl ⟨b, y, hres, rfl⟩) _ _ (Same.trans e3 e4) hq2
    | ok d b =>
      intro H2 p2 v e4 hp2 hv
      have hle := hres.le _ _ rfl
      refine ⟨p2, _, rfl, SqT.of hp2, rfl, _, _, rfl, _, _, rfl, _, _, rfl, rfl, ?_⟩
      refine ⟨_, rfl, rfl, _, rfl, if_f rfl ?_⟩
      have ht2 := e4 t _ ht
      have hx : ((pad gs).map vS)[b]? = some (vS (nowG gs b)) := by rw [List.getElem?_map, pad_at (by omega)]; rfl
      refine ⟨_, rfl, _, rfl, t, _, _, _, rfl, rfl, SqL.of ht2, atI_nat hx, rfl, _, rfl, ?_⟩
      rw [of_cp "", dec_vS]
      by_cases c1 : b < gs.length
      · have c2 : nowG gs b ≠ cp "" := by
          have z : gs[b]? = some gs[b] := List.getElem?_eq_getElem c1
          rw [nowG_at z]
          exact hg.ne _ (List.getElem_mem c1)
        refine if_f (decide_eq_false c2) ?_
        refine ⟨_, rfl, _, rfl, t, gs, b, 4, rfl, ht2, by omega, hg, fun H3 q3 e5 hq3 => ?_⟩
        exact hQ (.err b (wy gs b 4)) (.inr (.inl ⟨d, b, hres, c1, rfl⟩)) _ _ (Same.trans e3 (Same.trans e4 e5)) hq3
      · have c2 : nowG gs b = cp "" := by
          unfold nowG
          rw [List.getD_eq_getElem?_getD, List.getElem?_eq_none (by omega)]
          rfl
        refine if_t (decide_eq_true c2) ?_
        refine ⟨_, rfl, by show 2 ≤ sizeLine; rw [sizeLine_eq]; decide, fun p3 np3 => ?_⟩
        exact hQ (.ok d b) (.inr (.inr ⟨d, b, hres, c1, rfl⟩)) _ _ (Same.trans e3 (Same.trans e4 (upd_ext np3))) (.tup (SqT.of upd_same) (.cons (.str _) (.cons (Dp.ext (upd_ext np3) _ _ hv) .nil)))
end K85

set_option Elab.async false
set_option linter.all false
set_option maxRecDepth 100000
set_option maxHeartbeats 4000000
namespace K85
open PySem PySem.Spec PyProof.Rows L2 LamX Ey Clo
variable {P : Program} {w : World} {K : PySem.W.Frag} {mg : Str → Option Value} {base : Heap}
theorem xfc {e : EDef} (h : EFacts P K mg e) : XfC K (eC K e) := ⟨h.ga, h.gg, h.cls.exC, h.dict⟩
def NewT (Q : VK) (H : Hp) (xs : List V) : Prop := ∀ p, H p = none → Q (.ref p) (upd H p (.tup xs))
def ErrO (K : PySem.W.Frag) (Q : VK) (cls : Value) (dd : Option Addr) (H : Hp) : Prop :=
  (cls = .ref (He.ga K "InvalidText") ∧ ∃ d a y, dd = some d ∧ H d = some (.xd [("at", a), ("why", y)]) ∧ NewT Q H [.str (Str.ofString "text"), a, y]) ∨
  (cls = .ref (He.ga K "InvalidThing") ∧ ∃ d a, dd = some d ∧ H d = some (.xd [("at", a)]) ∧ NewT Q H [.str (Str.ofString "thing"), a]) ∨
  (cls = .ref (He.ga K "InvalidSize") ∧ ∃ d a, dd = some d ∧ H d = some (.xd [("word", a)]) ∧ NewT Q H [.str (Str.ofString "size"), a])
def sp_lerror (P : Program) (w : World) (K : PySem.W.Frag) (mg : Str → Option Value) (base : Heap) (k : Nat) : Sp := fun vs H Q _ => ∃ f T, vs = [.ref f] ∧ CallOk P w K mg base k H f T ∧ ∀ (Q1 : VK) (E1 : XK), (∀ v H', NewT Q H' [.str (Str.ofString "told")] → Q1 v H') → (∀ cls dd H', ErrO K Q cls dd H' → E1 cls dd H') → T H Q1 E1
theorem ok__law_error (T : T P K mg) (k : Nat) : FnOk P w K mg base C8.CX0 (k + 1) (He.ga K "_law_error") (fdAt K d__law_error) ["call"] (sp_lerror P w K mg base k) := by
  refine FunD.ok T.f__law_error sc__law_error (fun vs H Q E h => ?_) (fun cdv A outer s H vs Q E hr h => ⟨_, PSs.nox (pss_cons
    (ps_try_clauses (i := 1) rfl rfl sc__law_error.nd rfl rfl L2.takes0 (fun W pn xe tk _ => pss_one (ps_expr (show PE _ _ (tCallV P w K mg base k 0 (WE W)) from pe_callv (i := 0) hr (fun σ => passAt tk σ) rfl (.inl rfl))))
      (Clauses.cons ⟨rfl, rfl, .inl T.g_InvalidText⟩ (fun a oe cls d pn hz hf => pss_one (ps_ret (pe_tup (pa_cons pe_str (pa_cons (pe_xf (xfc T.e_InvalidText) (T.e_InvalidText.no "at" (by simp [e_InvalidText])) hz hf (pv 1)) (pa_cons (pe_xf (xfc T.e_InvalidText) (T.e_InvalidText.no "why" (by simp [e_InvalidText])) hz hf (pv 1)) pa_nil))))))
      (Clauses.cons ⟨rfl, rfl, .inl T.g_InvalidThing⟩ (fun a oe cls d pn hz hf => pss_one (ps_ret (pe_tup (pa_cons pe_str (pa_cons (pe_xf (xfc T.e_InvalidThing) (T.e_InvalidThing.no "at" (by simp [e_InvalidThing])) hz hf (pv 1)) pa_nil)))))
      (Clauses.cons ⟨rfl, rfl, .inl T.g_InvalidSize⟩ (fun a oe cls d pn hz hf => pss_one (ps_ret (pe_tup (pa_cons pe_str (pa_cons (pe_xf (xfc T.e_InvalidSize) (T.e_InvalidSize.no "word" (by simp [e_InvalidSize])) hz hf (pv 1)) pa_nil)))))
      Clauses.nil)))) (pss_one (ps_ret (pe_tup (pa_cons pe_str pa_nil))))), ?_⟩)
  · obtain ⟨f, T', rfl, _⟩ := h
    rfl
  · obtain ⟨f, T', rfl, hc, ht⟩ := h
    refine ⟨f, T', rfl, hc, ht _ _ (fun v H' h => ⟨one_line, h⟩) (fun cls dd H' h => ?_)⟩
    rcases h with ⟨rfl, d, a, y, rfl, hd, hn⟩ | ⟨rfl, d, a, rfl, hd, hn⟩ | ⟨rfl, d, a, rfl, hd, hn⟩
    · refine ⟨true, T.x_InvalidText_InvalidText, fun _ e ne => ?_, nofun⟩
      exact ⟨_, rfl, rfl, rfl, d, _, _, rfl, hd, rfl, _, rfl, rfl, rfl, d, _, _, rfl, hd, rfl, len3, hn⟩
    · refine ⟨false, T.x_InvalidThing_InvalidText, nofun, fun _ => ⟨true, T.x_InvalidThing_InvalidThing, fun _ e ne => ?_, nofun⟩⟩
      exact ⟨_, rfl, rfl, rfl, d, _, _, rfl, hd, rfl, by show 2 ≤ sizeLine; rw [sizeLine_eq]; decide, hn⟩
    · refine ⟨false, T.x_InvalidSize_InvalidText, nofun, fun _ => ⟨false, T.x_InvalidSize_InvalidThing, nofun, fun _ => ⟨true, T.x_InvalidSize_InvalidSize, fun _ e ne => ?_, nofun⟩⟩⟩
      exact ⟨_, rfl, rfl, rfl, d, _, _, rfl, hd, rfl, by show 2 ≤ sizeLine; rw [sizeLine_eq]; decide, hn⟩
end K85

set_option Elab.async false
set_option linter.all false
set_option maxRecDepth 100000
set_option maxHeartbeats 1000000
namespace Ey
open PySem PySem.Spec PyProof.Rows L2 LamX
/-- as FunD.ok, the code object known -/
theorem okC {CX : CXT} {P : Program} {w : World} {K : PySem.W.Frag} {mg : Str → Option Value} {base : Heap} {d : He.DefD} {N ps : List Str} {k : Nat} {sp : Sp} (F : FnAs K d) (S : FnScope N ps d.scope) (len : ∀ vs H Q E, sp vs H Q E → vs.length = ps.length)
    (hbody : ∀ (A : Around) (outer : List Env) (s : Shared) (H : Hp) (vs : List V) (Q : VK) (E : XK), Room k (A.deeper (envOfC d.qual d.scope s.heap.objs.size (He.fAd K d.at_) (.ref (He.codeOf K d.at_)))) → sp vs H Q E →
      ∃ t, PSs (cxOf CX P w K mg base N d.qual d.scope (He.fAd K d.at_) (.ref (He.codeOf K d.at_)) A outer s H E) d.body t ∧ t { nx := fun _ H' => Q .non H', rt := Q } (start N vs) H) : FnOk P w K mg base CX (k + 1) (He.fAd K d.at_) (fdAt K d) ps sp := by
  obtain ⟨oc, od, dV, kV, doc, pm, an, cdv, ct, osl, e, lk, hcd, _, _⟩ := F.ex
  obtain ⟨c, rfl⟩ := He.codeIn_ref hcd
  have ec : He.codeOf K d.at_ = c := He.codeOf_eq lk (by rw [e] <;> rfl)
  rw [e] at lk ⊢
  rw [← ec] at lk hcd ⊢
  exact fn_of lk hcd S len fun A outer s H vs Q E hr hsp => hbody A outer s H vs Q E hr hsp
end Ey
namespace K85
open PySem PySem.Spec PyProof.Rows L2 LamX Ey Clo
variable {P : Program} {w : World} {K : PySem.W.Frag} {mg : Str → Option Value} {base : Heap}
/-- a lambda's name, made by this def -/
def lamQ (d : He.DefD) : Str := (envOfC d.qual d.scope 0 0 .none).qual ++ "<lambda>"
theorem lamQ_eq {d : He.DefD} {L a : Addr} {cd : Value} : (envOfC d.qual d.scope L a cd).qual ++ "<lambda>" = lamQ d := rfl
/-- the tables of the two defs that make lambdas -/
structure Tb (K : PySem.W.Frag) (mg : Str → Option Value) (base : Heap) (tb : List (Addr × Str)) : Prop where
  b1 : TabB base mg (He.cT K ("_law_answer", none)).1 (He.cT K ("_law_answer", none)).2
  m1 : ((He.cT K ("_law_answer", none)).2, lamQ d__law_answer) ∈ tb
  u1 : ∀ p ∈ tb, p.1 = (He.cT K ("_law_answer", none)).2 → p.2 = lamQ d__law_answer
  b2 : TabB base mg (He.cT K ("law", none)).1 (He.cT K ("law", none)).2
  m2 : ((He.cT K ("law", none)).2, lamQ d_law) ∈ tb
  u2 : ∀ p ∈ tb, p.1 = (He.cT K ("law", none)).2 → p.2 = lamQ d_law
def FinA (tb : List (Addr × Str)) (H H2 : Hp) (Q : VK) (xs : List V) : Prop := ∀ H3 q, TEx H2 H3 → ExtN H H3 → Tabs tb H3 → H3 q = some (.tup xs) → Q (.ref q) H3
def ErrA (K : PySem.W.Frag) (tb : List (Addr × Str)) (H H2 : Hp) (Q : VK) (cls : Value) (dd : Option Addr) : Prop :=
  (cls = .ref (He.ga K "InvalidText") ∧ ∃ d a y, dd = some d ∧ H2 d = some (.xd [("at", a), ("why", y)]) ∧ FinA tb H H2 Q [.str (Str.ofString "text"), a, y]) ∨
  (cls = .ref (He.ga K "InvalidThing") ∧ ∃ d a, dd = some d ∧ H2 d = some (.xd [("at", a)]) ∧ FinA tb H H2 Q [.str (Str.ofString "thing"), a]) ∨
  (cls = .ref (He.ga K "InvalidSize") ∧ ∃ d a, dd = some d ∧ H2 d = some (.xd [("word", a)]) ∧ FinA tb H H2 Q [.str (Str.ofString "size"), a])
def sp_lanswer (P : Program) (w : World) (K : PySem.W.Frag) (mg : Str → Option Value) (base : Heap) (tb : List (Addr × Str)) (k : Nat) : Sp := fun vs H Q _ => ∃ f T, vs = [.ref f] ∧ Tabs tb H ∧ CallOk P w K mg base k H f T ∧
  ∀ H1, ExtN H H1 → Tabs tb H1 → ∀ (Q1 : VK) (E1 : XK), (∀ v H2, Same H1 H2 → FinA tb H H2 Q [.str (Str.ofString "value"), v] → Q1 v H2) → (∀ cls dd H2, Same H1 H2 → ErrA K tb H H2 Q cls dd → E1 cls dd H2) → T H1 Q1 E1
theorem ok__law_answer (T : T P K mg) {tb : List (Addr × Str)} (B : Tb K mg base tb) (k : Nat) : FnOk P w K mg base C8.CX0 (k + 3) (He.ga K "_law_answer") (fdAt K d__law_answer) ["call"] (sp_lanswer P w K mg base tb k) := by
  refine Ey.okC T.f__law_answer sc__law_answer (fun vs H Q E h => ?_) (fun A outer s H vs Q E hr h => ⟨_, PSs.nox (pss_cons
    (ps_set (i := 1) sc__law_answer.nd rfl (.inr rfl) (pe_lst pa_nil))
    (pss_cons (ps_set (i := 2) sc__law_answer.nd rfl (.inl rfl) (pe_lamarg (k := k) (tb := fun E => tBM K "list" rAppend (tVar 1) (tCons (tCallV P w K mg base k 0 (fun _ => E)) tNil)) rfl T.g__law_error T.f__law_error.kp (ok__law_error T (k + 1)) (bn__law_error T.f__law_error) B.b1 rfl (by exact B.m1) (by exact B.u1) hr (lamS_by (sc := d__law_answer.scope) (by decide +kernel)) rfl (fun _ _ _ _ _ => rfl) (fun _ _ _ => rfl)
      (fun A outer s H E f c' hr2 => pe_bm PySem.F.plainAttrs_list PySem.F.slot_list_append PySem.F.type_list_append mt_append (pv 1) (pa_cons (pe_callv (i := 0) (E := fun _ => E) hr2 (fun σ => passAt rT σ) rfl (.inr (.inr rfl))) pa_nil))))
    (pss_one (ps_ret (pe_ifExp (pt_cmpR op_eq (pe_callB call_len_seq (by rfl) T.b_len (by decide +kernel) (pa_cons (pv 1) pa_nil)) pe_int (nomark _)) (pe_tup (pa_cons pe_str (pa_cons (pe_ix ix_list (pv 1) pe_int (fun _ _ => rfl)) pa_nil))) (pv 2)))))), ?_⟩)
  · obtain ⟨f, T', rfl, _⟩ := h
    rfl
  · obtain ⟨f, T', rfl, hT, hc, ht⟩ := h
    refine ⟨Nat.zero_le _, fun l nl => ?_⟩
    have e1 := upd_ext (o := .lst []) nl
    refine ⟨hT.ext e1, fun H1 D f1 e2 hT1 off hc1 => ?_⟩
    have hl1 : H1 l = some (.lst []) := e2 l _ upd_same (fun _ z => by cases z)
    have eH1 : ExtN H H1 := ExtN.trans (Same.extN e1) e2
    refine ⟨f1, _, rfl, hc1, fun Q1 E1 hq he => ?_⟩
    rw [drop_put off]
    refine ⟨_, rfl, .inl ⟨rfl, _, SqL.of hl1⟩, f, T', rfl, hc.ext eH1, ?_⟩
    have nlH : ∀ b o, H b = some o → b ≠ l := fun b o hb => ne_of_none hb nl
    refine ht H1 eH1 hT1 _ _ (fun v H2 e3 hF => ?_) (fun cls dd H2 e3 hE off2 => ?_)
    · -- a value came
      have hl2 := e3 l _ hl1
      refine ⟨l, _, _, rfl, rfl, hl2, by show 0 < sizeLine; rw [sizeLine_eq]; decide, fun off2 => hq _ _ fun p np => ⟨?_, ?_⟩⟩
      · intro b o hb
        have q : put D (upd H2 l (.lst ([] ++ [v]))) b = some (exa b o) := put_in hb
        rw [upd_ne (ne_of_none q np)]
        exact q
      · have nDl : D.lookup l = none := by
          cases z : D.lookup l with
          | none => rfl
          | some o =>
            have q := off l o z
            rw [hl1] at q
            cases q
        have nDp : D.lookup p = none := by
          cases z : D.lookup p with
          | none => rfl
          | some o =>
            rw [put_in z] at np
            cases np
        generalize hH3 : drop D (upd (put D (upd H2 l (.lst ([] ++ [v])))) p (.tup [.str (Str.ofString "told")])) = H3
        have at3 : ∀ b, D.lookup b = none → b ≠ p → H3 b = (upd H2 l (.lst ([] ++ [v]))) b := fun b hb hp => by
          rw [← hH3, drop_out hb, upd_ne hp, put_out hb]
        have npl : p ≠ l := fun z => by
          rw [z, put_out nDl, upd_same] at np
          cases np
        have np2 : H2 p = none := by
          rw [put_out nDp, upd_ne npl] at np
          exact np
        have offD : ∀ b o, H1 b = some o → D.lookup b = none := fun b o hb => by
          cases z : D.lookup b with
          | none => rfl
          | some o' =>
            have q := off b o' z
            rw [hb] at q
            cases q
        have keep1 : ∀ b o, H1 b = some o → b ≠ l → H3 b = some o := fun b o hb hbl => by
          have h2 := e3 b o hb
          rw [at3 b (offD b o hb) (ne_of_none h2 np2), upd_ne hbl, h2]
        have hl3 : H3 l = some (.lst [v]) := by
          rw [at3 l nDl (Ne.symm npl), upd_same]
          rfl
        have hT3 : Tabs tb H3 := fun x hx => by
          obtain ⟨ps, q1, q2, q3⟩ := hT1 x hx
          refine ⟨ps, keep1 _ _ q1 (fun z => by rw [z, hl1] at q1; cases q1), q2, fun pos cv h => ?_⟩
          obtain ⟨c, r1, r2⟩ := q3 pos cv h
          exact ⟨c, r1, keep1 _ _ r2 (fun z => by rw [z, hl1] at r2; exact absurd (Option.some.inj r2) (by unfold CodeO; intro y; cases y))⟩
        have e4 : ExtN H H3 := fun b o hb hn => keep1 b o (eH1 b o hb hn) (nlH b o hb)
        refine ⟨_, rfl, l, _, rfl, .inl (SqL.of hl3), rfl, _, rfl, ?_⟩
        refine if_t rfl ?_
        refine ⟨_, rfl, l, _, _, _, rfl, rfl, SqL.of hl3, atI_nat (j := 0) rfl, by show 2 ≤ sizeLine; rw [sizeLine_eq]; decide, fun r nr => ?_⟩
        have e5 := upd_ext (o := .tup [.str (Str.ofString "value"), v]) nr
        have nD2 : ∀ b o, H2 b = some o → D.lookup b = none := fun b o hb => by
          cases z : D.lookup b with
          | none => rfl
          | some o' =>
            have q := off2 b o' z
            by_cases hbl : b = l
            · rw [hbl, nDl] at z
              cases z
            · rw [upd_ne hbl, hb] at q
              cases q
        have keep2 : ∀ b o, H2 b = some o → b ≠ l → H3 b = some o := fun b o hb hbl => by
          rw [at3 b (nD2 b o hb) (ne_of_none hb np2), upd_ne hbl, hb]
        refine hF _ r (fun b xs => ⟨fun hb => ?_, fun o hb => ?_⟩) (ExtN.trans e4 (Same.extN e5)) (hT3.ext e5) upd_same
        · exact e5 b _ (keep2 b _ hb (fun z => by rw [z, hl2] at hb; cases hb))
        · exact e5 b _ (keep2 b _ hb (fun z => by rw [z, hl2] at hb; cases hb))
    · -- an error came
      have hl2 := e3 l _ hl1
      have nD2 : ∀ b o, H2 b = some o → D.lookup b = none := fun b o hb => by
        cases z : D.lookup b with
        | none => rfl
        | some o' =>
          have q := off2 b o' z
          rw [hb] at q
          cases q
      have fin : ∀ (xs : List V), FinA tb H H2 Q xs → ∀ p, put D H2 p = none → Held D (upd (put D H2) p (.tup xs)) ∧ drop D (upd (put D H2) p (.tup xs)) l = some (.lst []) ∧ Q (.ref p) (drop D (upd (put D H2) p (.tup xs))) := by
        intro xs hF p np
        have nDp : D.lookup p = none := by
          cases z : D.lookup p with
          | none => rfl
          | some o =>
            rw [put_in z] at np
            cases np
        have np2 : H2 p = none := by
          rw [put_out nDp] at np
          exact np
        have keep2 : ∀ b o, H2 b = some o → drop D (upd (put D H2) p (.tup xs)) b = some o := fun b o hb => by
          rw [drop_out (nD2 b o hb), upd_ne (ne_of_none hb np2), put_out (nD2 b o hb), hb]
        have keep1 : ∀ b o, H1 b = some o → drop D (upd (put D H2) p (.tup xs)) b = some o := fun b o hb => keep2 b o (e3 b o hb)
        refine ⟨fun b o hb => ?_, keep2 l _ hl2, hF _ p (fun b xs => ⟨fun h => keep2 b _ h, fun o h => keep2 b _ h⟩) (fun b o hb hn => keep1 b o (eH1 b o hb hn)) (fun x hx => ?_) (by rw [drop_out nDp, upd_same])⟩
        · have q : put D H2 b = some (exa b o) := put_in hb
          rw [upd_ne (ne_of_none q np)]
          exact q
        · obtain ⟨ps, q1, q2, q3⟩ := hT1 x hx
          refine ⟨ps, keep1 _ _ q1, q2, fun pos cv h => ?_⟩
          obtain ⟨c, r1, r2⟩ := q3 pos cv h
          exact ⟨c, r1, keep1 _ _ r2⟩
      refine he _ _ _ ?_
      rcases hE with ⟨rfl, d, a, y, rfl, hd, hF⟩ | ⟨rfl, d, a, rfl, hd, hF⟩ | ⟨rfl, d, a, rfl, hd, hF⟩
      · refine .inl ⟨rfl, d, a, y, rfl, by rw [put_out (nD2 d _ hd)]; exact hd, fun p np => ?_⟩
        obtain ⟨f1, f2, f3⟩ := fin _ hF p np
        exact ⟨f1, _, rfl, l, _, rfl, .inl (SqL.of f2), rfl, _, rfl, if_f rfl ⟨_, rfl, f3⟩⟩
      · refine .inr (.inl ⟨rfl, d, a, rfl, by rw [put_out (nD2 d _ hd)]; exact hd, fun p np => ?_⟩)
        obtain ⟨f1, f2, f3⟩ := fin _ hF p np
        exact ⟨f1, _, rfl, l, _, rfl, .inl (SqL.of f2), rfl, _, rfl, if_f rfl ⟨_, rfl, f3⟩⟩
      · refine .inr (.inr ⟨rfl, d, a, rfl, by rw [put_out (nD2 d _ hd)]; exact hd, fun p np => ?_⟩)
        obtain ⟨f1, f2, f3⟩ := fin _ hF p np
        exact ⟨f1, _, rfl, l, _, rfl, .inl (SqL.of f2), rfl, _, rfl, if_f rfl ⟨_, rfl, f3⟩⟩
end K85

set_option Elab.async false
set_option linter.all false
set_option maxRecDepth 100000
set_option maxHeartbeats 2000000
namespace Ey
open PySem PySem.Spec PyProof.Rows L2 LamX Clo
/-- f(k = v, ..) -/
theorem pe_callN0 {X : Cx} {CX : CXT} {k : Nat} {f : Addr} {fd : FuncData} {ps ks : List Str} {sp : Sp} {E : XK} {x : Str} {p pos : Pos} {kws : List Keyword} {tk : TA} {g : List Value → List Value → List Value} {gV : List V → List V → List V}
    (F : FnOk X.prog X.w X.K X.mg X.base CX k f fd ps sp) (hr : Room k X.A) (hg : Gl X x) (hm : X.mg x = some (.ref f)) (hk : PySem.W.keepIn X.K (.ref f) = true) (hb : KBinds X.K fd ps ks g gV) (hx : Passes CX X E)
    (hkw : PK X kws tk) (hall : (backToKw pos (keywordEach kws X.env)).all (·.1.isSome) = true := by rfl) (hks : (backToKw pos (keywordEach kws X.env)).filterMap (·.1) = ks := by rfl)
    (hdb : (x == ("__debug__" : Str)) = false := by decide)
    (hpl : ((backTo pos (starEach [] X.env)).any (·.1) || (backToKw pos (keywordEach kws X.env)).any (·.1.isNone)) = false := by rfl) :
    PE X (.Call (.Name x p) [] kws pos) (tCallK sp gV E tNil tk) := by
  refine ⟨fun pins s σ H Q I h => ?_⟩
  refine wpAny_Call_Name_kw (ld_glob I hg hm ?_ hdb)
  have h : tk σ H fun zs H2 => sp (gV [] zs) H2 Q E := h
  refine PySem.W.callWith_KW0 (h₀ := X.base) I.ok.mod.kin hk hall (thn (hkw.run pos pins s σ H _ I h) fun ws s2 hh => ?_) hpl
  obtain ⟨zs, H2, I2, rz, q2⟩ := hh
  refine ⟨I2.kIn, ?_⟩
  rw [hks]
  exact run_fnk F hr hb hx I2 .nil rz q2
theorem passF {P : Program} {w : World} {X : Cx} : Passes (L2.CX P w) X (fun _ _ _ => False) := fun _ _ _ _ _ _ _ h => by
  obtain ⟨_, _, _, _, _, _, _, _, _, _, _, _, z⟩ := h
  exact z.elim
/-- what is known of an object is not what is known of a code object -/
theorem exa_code {c : Addr} {o : Obj} {q : Str} : exa c o ≠ CodeO c q := fun z => by
  have e : (fun h : Heap => h.get? c = some o) = fun h => ∃ (oc : Obj) (vs : Array Value) (t : Tok), h.get? c = some oc ∧ oc.data = .fields vs ∧ vs[1]? = some (.str q t) := HO.ext.inj z
  have mk : ∀ t : Tok, ∃ h : Heap, h.get? c = some { cls := .none, data := .fields #[.none, .str q t] } := fun t => by
    refine ⟨(Heap.mk (Array.replicate c default) {}).push { cls := .none, data := .fields #[.none, .str q t] }, ?_⟩
    have z := Heap.get?_push_size (Heap.mk (Array.replicate c default) {}) (o := { cls := .none, data := .fields #[.none, .str q t] }) rfl
    simpa using z
  obtain ⟨h0, e0⟩ := mk 0
  obtain ⟨h1, e1⟩ := mk 1
  have q0 : h0.get? c = some o := by
    rw [show (h0.get? c = some o) = _ from congrFun e h0]
    exact ⟨_, _, 0, e0, rfl, rfl⟩
  have q1 : h1.get? c = some o := by
    rw [show (h1.get? c = some o) = _ from congrFun e h1]
    exact ⟨_, _, 1, e1, rfl, rfl⟩
  rw [e0] at q0
  rw [e1] at q1
  have y := (Option.some.inj q0).trans (Option.some.inj q1).symm
  simp at y
/-! ### what is dropped, and the tables -/
theorem tabs_drop {T : List (Addr × Str)} {D : Ds} {H : Hp} (t : Tabs T H) (hd : Held D H) : Tabs T (drop D H) := fun p hp => by
  obtain ⟨ps, h1, h2, h3⟩ := t p hp
  refine ⟨ps, hd.drop_at h1 (fun _ z => exa_tbl z.symm), h2, fun pos cv h => ?_⟩
  obtain ⟨c, e1, e2⟩ := h3 pos cv h
  refine ⟨c, e1, ?_⟩
  cases z : D.lookup c with
  | none => rw [drop_out z, e2]
  | some o =>
    rw [hd c o z] at e2
    exact absurd (Option.some.inj e2) exa_code
theorem tabs_put {T : List (Addr × Str)} {D : Ds} {H : Hp} (t : Tabs T H) (ho : Off D H) : Tabs T (put D H) := t.ext fun b o e => ho.put_at e
end Ey
namespace K85
open PySem PySem.Spec PyProof.Rows L2 LamX Ey Clo
variable {P : Program} {w : World} {K : PySem.W.Frag} {mg : Str → Option Value} {base : Heap}
/-- what becomes of a lambda's body: due tells it; told: a value is told by that word alone -/
def Outc (K : PySem.W.Frag) (tbody : XK → TE) (σ : L2.St) (H : Hp) (told : Bool) (due : PyData) : Prop := ∀ H1 (Qd : VK) (Ed : XK), ExtN H H1 →
  (∀ v H2 d, Same H1 H2 → due = (if told then .tuple [.str (Str.ofString "told")] else .tuple [.str (Str.ofString "value"), d]) → Dp K H2 v d → Qd v H2) →
  (∀ H2 dd a y, Same H1 H2 → due = errD a y → H2 dd = some (.xd [("at", .int a), ("why", .int y)]) → Ed (.ref (He.ga K "InvalidText")) (some dd) H2) →
  (∀ H2 dd a, Same H1 H2 → due = .tuple [.str (Str.ofString "thing"), .int a] → H2 dd = some (.xd [("at", .int a)]) → Ed (.ref (He.ga K "InvalidThing")) (some dd) H2) →
  (∀ H2 dd s, Same H1 H2 → due = .tuple [.str (Str.ofString "size"), .str s] → H2 dd = some (.xd [("word", .str s)]) → Ed (.ref (He.ga K "InvalidSize")) (some dd) H2) → tbody Ed σ H1 Qd
theorem lam_ext {H H1 H2 : Hp} {D : Ds} (e1 : ExtN H H1) (off : Off D H1) (e2 : ExtN (put D H1) H2) : ExtN H (drop D H2) := fun b o hb hn => by
  have h1 := e1 b o hb hn
  have z : D.lookup b = none := by
    cases z : D.lookup b with
    | none => rfl
    | some o' =>
      have q := off b o' z
      rw [h1] at q
      cases q
  rw [drop_out z]
  exact e2 b o (off.put_at h1) hn
theorem lam_held {H1 H2 : Hp} {D : Ds} (e2 : ExtN (put D H1) H2) : Held D H2 := fun b o e => e2 b _ (put_in e) exa_ne
theorem put_same {H2 H3 : Hp} {D : Ds} (hd : Held D H2) (e : Same (drop D H2) H3) : Same H2 (put D H3) := fun b o hb => by
  cases z : D.lookup b with
  | none => rw [put_out z]; exact e b o (by rw [drop_out z]; exact hb)
  | some o' =>
    rw [put_in z, ← hd b o' z]
    exact hb
theorem off_at {H : Hp} {D : Ds} (ho : Off D H) {b : Addr} {o : HO} (h : H b = some o) : D.lookup b = none := by
  cases z : D.lookup b with
  | none => rfl
  | some o' =>
    rw [ho b o' z] at h
    cases h
def tAns (P : Program) (w : World) (K : PySem.W.Frag) (mg : Str → Option Value) (base : Heap) (tb : List (Addr × Str)) (tbody : XK → TE) : TE := tLamArg P w K mg base 20 tb (sp_lanswer P w K mg base tb 21) tbody
def tErr (P : Program) (w : World) (K : PySem.W.Frag) (mg : Str → Option Value) (base : Heap) (tb : List (Addr × Str)) (tbody : XK → TE) : TE := tLamArg P w K mg base 20 tb (sp_lerror P w K mg base 21) tbody
theorem t_ans {tb : List (Addr × Str)} {tbody : XK → TE} {σ : L2.St} {H : Hp} {due : PyData} {Q : VK} (ho : Outc K tbody σ H false due) (hn : NoL due) (hT : Tabs tb H) (hQ : ∀ v H', ExtN H H' → Tabs tb H' → Dp K H' v due → Q v H') : tAns P w K mg base tb tbody σ H Q := by
  refine ⟨hT, fun H1 D f e1 hT1 off hc => ⟨f, _, rfl, tabs_put hT1 off, hc, fun H2 e2 hT2 Q1 E1 hq he => ?_⟩⟩
  have hd2 := lam_held e2
  have eH := lam_ext e1 off e2
  have fin : ∀ (H3 : Hp) (xs : List V) (ds : List PyData), Off D H3 → (∀ H5, TEx H3 H5 → DpAll K H5 xs ds) → due = .tuple ds → FinA tb (put D H1) (put D H3) (fun v H' => Held D H' ∧ Q v (drop D H')) xs := by
    intro H3 xs ds off3 hds edue H5 q tx e5 hT5 hq5
    have hd5 := lam_held e5
    have nq : D.lookup q = none := hd5.out hq5 fun o z => exa_tup z.symm
    have tx3 : TEx H3 (drop D H5) := fun b ys => ⟨fun h => by
        have z := off_at off3 h
        rw [drop_out z]
        exact (tx b ys).1 (by rw [put_out z]; exact h), fun o h => by
        have z := off_at off3 h
        rw [drop_out z]
        exact (tx b ys).2 o (by rw [put_out z]; exact h)⟩
    refine ⟨hd5, hQ _ _ (lam_ext e1 off e5) (tabs_drop hT5 hd5) ?_⟩
    rw [edue]
    exact .tup (SqT.of (by rw [drop_out nq]; exact hq5)) (hds _ tx3)
  refine ho (drop D H2) _ _ eH (fun v H3 d e3 hdue hv off3 => ?_) (fun H3 dd a y e3 hdue hx off3 => ?_) (fun H3 dd a e3 hdue hx off3 => ?_) (fun H3 dd s e3 hdue hx off3 => ?_)
  · have hdue : due = .tuple [.str (Str.ofString "value"), d] := hdue
    have hnd : NoL d := by
      rw [hdue] at hn
      exact hn.mem d (by simp)
    exact hq v _ (put_same hd2 e3) (fin H3 _ _ off3 (fun H5 tx => .cons (.str _) (.cons (Dp.tex tx _ _ hnd hv) .nil)) hdue)
  · exact he _ _ _ (put_same hd2 e3) (.inl ⟨rfl, dd, _, _, rfl, by rw [put_out (off_at off3 hx)]; exact hx, fin H3 _ _ off3 (fun H5 tx => .cons (.str _) (.cons (.int _) (.cons (.int _) .nil))) hdue⟩)
  · exact he _ _ _ (put_same hd2 e3) (.inr (.inl ⟨rfl, dd, _, rfl, by rw [put_out (off_at off3 hx)]; exact hx, fin H3 _ _ off3 (fun H5 tx => .cons (.str _) (.cons (.int _) .nil)) hdue⟩))
  · exact he _ _ _ (put_same hd2 e3) (.inr (.inr ⟨rfl, dd, _, rfl, by rw [put_out (off_at off3 hx)]; exact hx, fin H3 _ _ off3 (fun H5 tx => .cons (.str _) (.cons (.str _) .nil)) hdue⟩))
theorem t_err {tb : List (Addr × Str)} {tbody : XK → TE} {σ : L2.St} {H : Hp} {due : PyData} {Q : VK} (ho : Outc K tbody σ H true due) (hT : Tabs tb H) (hQ : ∀ v H', ExtN H H' → Tabs tb H' → Dp K H' v due → Q v H') : tErr P w K mg base tb tbody σ H Q := by
  refine ⟨hT, fun H1 D f e1 hT1 off hc => ⟨f, _, rfl, hc, fun Q1 E1 hq he => ?_⟩⟩
  rw [drop_put off]
  have fin : ∀ (H3 : Hp) (xs : List V) (ds : List PyData), Same H1 H3 → Off D H3 → (∀ H5, DpAll K H5 xs ds) → due = .tuple ds → NewT (fun v H' => Held D H' ∧ Q v (drop D H')) (put D H3) xs := by
    intro H3 xs ds e3 off3 hds edue p np
    have nDp : D.lookup p = none := by
      cases z : D.lookup p with
      | none => rfl
      | some o =>
        rw [put_in z] at np
        cases np
    have e5 : Same (put D H1) (upd (put D H3) p (.tup xs)) := fun b o hb => by
      have hb3 : put D H3 b = some o := by
        cases z : D.lookup b with
        | none =>
          rw [put_out z] at hb ⊢
          exact e3 b o hb
        | some o' =>
          rw [put_in z] at hb ⊢
          exact hb
      rw [upd_ne (ne_of_none hb3 np)]
      exact hb3
    have hd5 := lam_held (Same.extN e5)
    refine ⟨hd5, hQ _ _ (lam_ext e1 off (Same.extN e5)) (tabs_drop ((tabs_put hT1 off).ext e5) hd5) ?_⟩
    rw [edue]
    exact .tup (SqT.of (by rw [drop_out nDp, upd_same])) (hds _)
  refine ho H1 _ _ e1 (fun v H3 d e3 hdue hv off3 => ?_) (fun H3 dd a y e3 hdue hx off3 => ?_) (fun H3 dd a e3 hdue hx off3 => ?_) (fun H3 dd s e3 hdue hx off3 => ?_)
  · exact hq _ _ (fin H3 _ _ e3 off3 (fun H5 => .cons (.str _) .nil) hdue)
  · exact he _ _ _ (.inl ⟨rfl, dd, _, _, rfl, by rw [put_out (off_at off3 hx)]; exact hx, fin H3 _ _ e3 off3 (fun H5 => .cons (.str _) (.cons (.int _) (.cons (.int _) .nil))) hdue⟩)
  · exact he _ _ _ (.inr (.inl ⟨rfl, dd, _, rfl, by rw [put_out (off_at off3 hx)]; exact hx, fin H3 _ _ e3 off3 (fun H5 => .cons (.str _) (.cons (.int _) .nil)) hdue⟩))
  · exact he _ _ _ (.inr (.inr ⟨rfl, dd, _, rfl, by rw [put_out (off_at off3 hx)]; exact hx, fin H3 _ _ e3 off3 (fun H5 => .cons (.str _) (.cons (.str _) .nil)) hdue⟩))
end K85

set_option Elab.async false
set_option linter.all false
set_option maxRecDepth 100000
set_option maxHeartbeats 2000000
namespace K85
open PySem PySem.Spec PyProof.Rows L2 LamX Ey Clo
variable {P : Program} {w : World} {K : PySem.W.Frag} {mg : Str → Option Value} {base : Heap}
def valD (told : Bool) (d : PyData) : PyData := if told then .tuple [.str (Str.ofString "told")] else .tuple [.str (Str.ofString "value"), d]
def resT (told : Bool) : Res → PyData
  | .ok d _ => valD told d
  | .err b y => errD b y
def ReadsTo (told : Bool) (due : PyData) : PyData → Prop
  | .str s => if s.length > 60000 then due = errD (-1) 0 else
      match badFrom 0 s.cps.toList with
      | some i => due = errD i 1
      | none => if (toks s.cps.toList).length > 4000 then due = errD (-1) 2 else ∀ res, Whole (toks s.cps.toList) res → due = resT told res
  | _ => due = errD (-1) 0
def tRd (K : PySem.W.Frag) (te : TE) (E : XK) : TE := tCall (sp_read_thing K) [] E (tCons te tNil)
def tTx (K : PySem.W.Frag) (te : TE) (E : XK) : TE := tCall (sp_thing_text K) [] E (tCons te tNil)
theorem out_read {te : TE} {σ : L2.St} {H : Hp} {told : Bool} {due td : PyData} (hte : ∀ H1 (Q' : VK), ExtN H H1 → (∀ x H2, Same H1 H2 → Dp K H2 x td → Q' x H2) → te σ H1 Q') (hsz : ∀ s, td = .str s → s.length ≤ sizeLine)
    (hr : ReadsTo told due td) : Outc K (tRd K te) σ H told due := by
  intro H1 Qd Ed e1 hv he _ _
  refine hte H1 _ e1 fun x H2 e2 hx => ⟨x, td, rfl, hx, hsz, ?_⟩
  have et : ∀ a y : Int, due = errD a y → ET K Ed (Same H2) a y := fun a y h H' dd e hd => he H' dd a y (Same.trans e2 e) h hd
  cases td with
  | str s =>
    unfold ReadsTo at hr
    unfold CutG
    dsimp only at hr ⊢
    split at hr
    · rw [if_pos ‹_›]
      exact et _ _ hr
    · rw [if_neg ‹_›]
      split at hr
      · rename_i i hi
        try rw [hi]
        exact et _ _ hr
      · rename_i hi
        try rw [hi]
        try dsimp only
        split at hr
        · rw [if_pos ‹_›]
          exact et _ _ hr
        · rw [if_neg ‹_›]
          intro res hres
          have z := hr res hres
          cases res with
          | ok d b => exact fun v H' e hd => hv v H' d (Same.trans e2 e) z hd
          | err b y => exact et _ _ z
  | _ => exact et _ _ hr
def TextTo (told : Bool) (due d : PyData) : Prop :=
  if thingB 12 d = true then if (grp d).length > 4000 then due = .tuple [.str (Str.ofString "size"), .str (Str.ofString "text")] else due = valD told (.str (S (txt d))) else due = .tuple [.str (Str.ofString "thing"), .int (-1)]
theorem out_text {te : TE} {σ : L2.St} {H : Hp} {told : Bool} {due td : PyData} (hte : ∀ H1 (Q' : VK), ExtN H H1 → (∀ x H2, Same H1 H2 → Dp K H2 x td → Q' x H2) → te σ H1 Q') (hz : SzOk td)
    (hs : thingB 12 td = true → (grp td).length ≤ sizeLine ∧ ((grp td).length ≤ 4000 → (txt td).length ≤ sizeLine)) (hr : TextTo told due td) : Outc K (tTx K te) σ H told due := by
  intro H1 Qd Ed e1 hv he1 he2 he3
  refine hte H1 _ e1 fun x H2 e2 hx => ⟨x, td, rfl, hx, hz, hs, ?_⟩
  unfold TextTo at hr
  unfold TextO
  split at hr
  · rw [if_pos ‹_›]
    split at hr
    · rw [if_pos ‹_›]
      exact fun H' dd e hd => he3 H' dd _ (Same.trans e2 e) hr hd
    · rw [if_neg ‹_›]
      exact fun H' e => hv _ H' _ (Same.trans e2 e) hr (.str _)
  · rw [if_neg ‹_›]
    exact fun H' dd e hd => he2 H' dd _ (Same.trans e2 e) hr hd
/-! ### calls by name -/
theorem kb_one {d : He.DefD} {x : Str} (F : FnAs K d) (hd : d.dfl = []) (hb : ∀ (kV doc pm : Value) (an : Option Addr) (cdv ct : Value) (us ws : List Value), (us ++ ws).length = 1 → bindArgs (PySem.W.fnOf d.name d.qual d.params d.body d.scope .none kV doc pm an cdv ct) ⟨us, [x].zip ws⟩ = pure ([x].zip (us ++ ws))) :
    KBinds K (fdAt K d) [x] [x] (fun us ws => us ++ ws) (fun vs zs => vs ++ zs) := by
  obtain ⟨oc, od, dV, kV, doc, pm, an, cdv, ct, osl, e, lk, hcd, hD, _⟩ := F.ex
  have eD : dV = .none := by
    rcases hD with ⟨_, rfl⟩ | ⟨h, _⟩
    · rfl
    · exact absurd (by unfold He.DefD.dvs; rw [hd]; rfl) h
  subst eD
  rw [e]
  exact ⟨fun s us ws _ hl => .of_eq (hb kV doc pm an cdv ct us ws hl), fun r r' => r.append r'⟩
theorem kb_is_thing (F : FnAs K d_is_thing) : KBinds K (fdAt K d_is_thing) ["value"] ["value"] (fun us ws => us ++ ws) (fun vs zs => vs ++ zs) := kb_one F rfl fun _ _ _ _ _ _ us ws hl => match us, ws, hl with
  | [], [_], _ => rfl
  | [_], [], _ => rfl
theorem kb_thing_text (F : FnAs K d_thing_text) : KBinds K (fdAt K d_thing_text) ["value"] ["value"] (fun us ws => us ++ ws) (fun vs zs => vs ++ zs) := kb_one F rfl fun _ _ _ _ _ _ us ws hl => match us, ws, hl with
  | [], [_], _ => rfl
  | [_], [], _ => rfl
theorem kb_read_thing (F : FnAs K d_read_thing) : KBinds K (fdAt K d_read_thing) ["text"] ["text"] (fun us ws => us ++ ws) (fun vs zs => vs ++ zs) := kb_one F rfl fun _ _ _ _ _ _ us ws hl => match us, ws, hl with
  | [], [_], _ => rfl
  | [_], [], _ => rfl
end K85

set_option Elab.async false
set_option linter.all false
set_option maxRecDepth 100000
set_option maxHeartbeats 1000000
namespace K85
open PySem PySem.Spec PyProof.Rows L2 LamX Ey
/-! ### what is read is one thing -/
theorem name_num {g : G} (h : isName g = true) : isNum g = false := by
  cases g with
  | nil => rfl
  | cons c r =>
    have h : inB LET c = true := h
    have z : ∀ x ∈ LET, inB FIG x = false := by decide +kernel
    exact z c (of_decide_eq_true h)
theorem mn1 : isName (cp "-") = false := by decide +kernel
theorem mn2 : isNum (cp "-") = false := by decide +kernel
theorem mn3 : isName (cp "(") = false := by decide +kernel
theorem mn4 : isNum (cp "(") = false := by decide +kernel
theorem mn5 : cp "-" ≠ cp "(" := by decide +kernel
theorem mn6 : cp "," ≠ cp ")" := by decide +kernel
theorem Pr.det {gs : List G} {m : Mode} {r1 : Res} (h1 : Pr gs m r1) : ∀ {r2 : Res}, Pr gs m r2 → r1 = r2 := by
  induction h1 with
  | nameL a b => intro r2 h2; cases h2 with
    | nameL => rfl
    | name c d => rw [b] at d; cases d
    | numL c d => rw [name_num a] at c
    | num c d => rw [name_num a] at c; cases c
    | negN c d => rw [c, mn1] at a; cases a
    | negL c d e => rw [c, mn1] at a; cases a
    | neg c d e => rw [c, mn1] at a; cases a
    | no c => rw [a] at c; cases c
    | deep c => rw [c, mn3] at a; cases a
    | nil c => rw [c, mn3] at a; cases a
    | tup c => rw [c, mn3] at a; cases a
  | name a b => intro r2 h2; cases h2 with
    | nameL c d => rw [b] at d; cases d
    | name => rfl
    | numL c d => rw [name_num a] at c; cases c
    | num c d => rw [name_num a] at c; cases c
    | negN c d => rw [c, mn1] at a; cases a
    | negL c d e => rw [c, mn1] at a; cases a
    | neg c d e => rw [c, mn1] at a; cases a
    | no c => rw [a] at c; cases c
    | deep c => rw [c, mn3] at a; cases a
    | nil c => rw [c, mn3] at a; cases a
    | tup c => rw [c, mn3] at a; cases a
  | numL a b => intro r2 h2; cases h2 with
    | nameL c d => rw [name_num c] at a
    | name c d => rw [name_num c] at a; cases a
    | numL => rfl
    | num c d => rw [b] at d; cases d
    | negN c d => rw [c, mn2] at a; cases a
    | negL c d e => rw [c, mn2] at a; cases a
    | neg c d e => rw [c, mn2] at a; cases a
    | no c d => rw [a] at d; cases d
    | deep c => rw [c, mn4] at a; cases a
    | nil c => rw [c, mn4] at a; cases a
    | tup c => rw [c, mn4] at a; cases a
  | num a b => intro r2 h2; cases h2 with
    | nameL c d => rw [name_num c] at a; cases a
    | name c d => rw [name_num c] at a; cases a
    | numL c d => rw [b] at d; cases d
    | num => rfl
    | negN c d => rw [c, mn2] at a; cases a
    | negL c d e => rw [c, mn2] at a; cases a
    | neg c d e => rw [c, mn2] at a; cases a
    | no c d => rw [a] at d; cases d
    | deep c => rw [c, mn4] at a; cases a
    | nil c => rw [c, mn4] at a; cases a
    | tup c => rw [c, mn4] at a; cases a
  | negN a b => intro r2 h2; cases h2 with
    | nameL c d => rw [a, mn1] at c; cases c
    | name c d => rw [a, mn1] at c; cases c
    | numL c d => rw [a, mn2] at c; cases c
    | num c d => rw [a, mn2] at c; cases c
    | negN => rfl
    | negL c d e => rw [b] at d; cases d
    | neg c d e => rw [b] at d; cases d
    | no c d e => exact absurd a e
    | deep c => exact absurd (a.symm.trans c) mn5
    | nil c => exact absurd (a.symm.trans c) mn5
    | tup c => exact absurd (a.symm.trans c) mn5
  | negL a b b2 => intro r2 h2; cases h2 with
    | nameL c d => rw [a, mn1] at c; cases c
    | name c d => rw [a, mn1] at c; cases c
    | numL c d => rw [a, mn2] at c; cases c
    | num c d => rw [a, mn2] at c; cases c
    | negN c d => rw [b] at d; cases d
    | negL => rfl
    | neg c d e => rw [b2] at e; cases e
    | no c d e => exact absurd a e
    | deep c => exact absurd (a.symm.trans c) mn5
    | nil c => exact absurd (a.symm.trans c) mn5
    | tup c => exact absurd (a.symm.trans c) mn5
  | neg a b b2 => intro r2 h2; cases h2 with
    | nameL c d => rw [a, mn1] at c; cases c
    | name c d => rw [a, mn1] at c; cases c
    | numL c d => rw [a, mn2] at c; cases c
    | num c d => rw [a, mn2] at c; cases c
    | negN c d => rw [b] at d; cases d
    | negL c d e => rw [b2] at e; cases e
    | neg => rfl
    | no c d e => exact absurd a e
    | deep c => exact absurd (a.symm.trans c) mn5
    | nil c => exact absurd (a.symm.trans c) mn5
    | tup c => exact absurd (a.symm.trans c) mn5
  | no a b b2 b3 => intro r2 h2; cases h2 with
    | nameL c d => rw [a] at c; cases c
    | name c d => rw [a] at c; cases c
    | numL c d => rw [b] at c; cases c
    | num c d => rw [b] at c; cases c
    | negN c d => exact absurd c b2
    | negL c d e => exact absurd c b2
    | neg c d e => exact absurd c b2
    | no => rfl
    | deep c => exact absurd c b3
    | nil c => exact absurd c b3
    | tup c => exact absurd c b3
  | deep a => intro r2 h2; cases h2 with
    | nameL c d => rw [a, mn3] at c; cases c
    | name c d => rw [a, mn3] at c; cases c
    | numL c d => rw [a, mn4] at c; cases c
    | num c d => rw [a, mn4] at c; cases c
    | negN c d => exact absurd (c.symm.trans a) mn5
    | negL c d e => exact absurd (c.symm.trans a) mn5
    | neg c d e => exact absurd (c.symm.trans a) mn5
    | no c d e f => exact absurd a f
    | deep => rfl
    | nil c d => exact absurd rfl d
    | tup c d => exact absurd rfl d
  | nil a b b2 => intro r2 h2; cases h2 with
    | nameL c d => rw [a, mn3] at c; cases c
    | name c d => rw [a, mn3] at c; cases c
    | numL c d => rw [a, mn4] at c; cases c
    | num c d => rw [a, mn4] at c; cases c
    | negN c d => exact absurd (c.symm.trans a) mn5
    | negL c d e => exact absurd (c.symm.trans a) mn5
    | neg c d e => exact absurd (c.symm.trans a) mn5
    | no c d e f => exact absurd a f
    | deep c => exact absurd rfl b
    | nil => rfl
    | tup c d e => exact absurd b2 e
  | tup a b b2 _ ih => intro r2 h2; cases h2 with
    | nameL c d => rw [a, mn3] at c; cases c
    | name c d => rw [a, mn3] at c; cases c
    | numL c d => rw [a, mn4] at c; cases c
    | num c d => rw [a, mn4] at c; cases c
    | negN c d => exact absurd (c.symm.trans a) mn5
    | negL c d e => exact absurd (c.symm.trans a) mn5
    | neg c d e => exact absurd (c.symm.trans a) mn5
    | no c d e f => exact absurd a f
    | deep c => exact absurd rfl b
    | nil c d e => exact absurd e b2
    | tup c d e f => exact ih f
  | sE _ ih => intro r2 h2; cases h2 with
    | sE a => have z := ih a; cases z; rfl
    | sO a b => have z := ih a; cases z
  | sO _ _ ih1 ih2 => intro r2 h2; cases h2 with
    | sE a => have z := ih1 a; cases z
    | sO a b => have z := ih1 a; cases z; exact ih2 b
  | aC a _ ih => intro r2 h2; cases h2 with
    | aC b c => exact ih c
    | aE b => exact absurd (a.symm.trans b) mn6
    | aN b c => exact absurd a b
  | aE a => intro r2 h2; cases h2 with
    | aC b c => exact absurd (b.symm.trans a) mn6
    | aE => rfl
    | aN b c => exact absurd a c
  | aN a b => intro r2 h2; cases h2 with
    | aC c d => exact absurd c a
    | aE c => exact absurd c b
    | aN => rfl
theorem Whole.det {gs : List G} {r1 r2 : Res} (h1 : Whole gs r1) (h2 : Whole gs r2) : r1 = r2 := by
  rcases h1 with ⟨b, y, p, rfl⟩ | ⟨d, b, p, c, rfl⟩ | ⟨d, b, p, c, rfl⟩ <;> rcases h2 with ⟨b', y', p', rfl⟩ | ⟨d', b', p', c', rfl⟩ | ⟨d', b', p', c', rfl⟩ <;> have z := p.det p' <;> cases z <;> first | rfl | exact absurd c c' | exact absurd c' c
/-- whatever is read, it is one thing -/
theorem one_due (gs : List G) (told : Bool) : ∃ due, (∀ res, Whole gs res → due = resT told res) ∧ ((∃ res, Whole gs res) ∨ due = errD 0 0) := by
  by_cases h : ∃ res, Whole gs res
  · obtain ⟨r, hr⟩ := h
    exact ⟨resT told r, fun res hres => by rw [hr.det hres], .inl ⟨r, hr⟩⟩
  · exact ⟨errD 0 0, fun res hres => absurd ⟨res, hres⟩ h, .inr rfl⟩
/-! ### tokens and texts -/
def allIn (L : G) (g : G) : Bool := g.all (inB L)
def TokOk (g : G) : Prop := (g ≠ [] ∧ allIn LET g = true) ∨ (g ≠ [] ∧ allIn FIG g = true) ∨ ∃ c, inB SIG c = true ∧ g = [c]
theorem let_facts : ∀ x ∈ LET, inB FIG x = false ∧ inB BLK x = false ∧ inB SIG x = false := by decide +kernel
theorem fig_facts : ∀ x ∈ FIG, inB LET x = false ∧ inB BLK x = false ∧ inB SIG x = false := by decide +kernel
theorem sig_facts : ∀ x ∈ SIG, inB LET x = false ∧ inB BLK x = false ∧ inB FIG x = false := by decide +kernel
theorem blk_facts : ∀ x ∈ BLK, inB LET x = false ∧ inB FIG x = false := by decide +kernel
theorem tw_all {p : Nat → Bool} : ∀ (g r : G), g.all p = true → (∀ c, r.head? = some c → p c = false) → (g ++ r).takeWhile p = g ∧ (g ++ r).dropWhile p = r
  | [], [], _, _ => ⟨rfl, rfl⟩
  | [], c :: r, _, h => by
    have z := h c rfl
    simp [z]
  | c :: g, r, hg, h => by
    simp only [List.all_cons, Bool.and_eq_true] at hg
    obtain ⟨h1, h2⟩ := tw_all g r hg.2 h
    simp only [List.cons_append, List.takeWhile_cons, List.dropWhile_cons, hg.1, if_true]
    exact ⟨by rw [h1], h2⟩
theorem toks_blank {b r : G} (hb : b.all (inB BLK) = true) : toks (b ++ r) = toks r := by
  induction b with
  | nil => rfl
  | cons c b ih =>
    simp only [List.all_cons, Bool.and_eq_true] at hb
    rw [List.cons_append, toks_cons, if_pos hb.1]
    exact ih hb.2
theorem toks_tok {g r : G} (hg : TokOk g) (hr : (∃ c, inB SIG c = true ∧ g = [c]) ∨ ∀ c, r.head? = some c → inB LET c = false ∧ inB FIG c = false) : toks (g ++ r) = g :: toks r := by
  rcases hg with ⟨hn, ha⟩ | ⟨hn, ha⟩ | ⟨c, hc, rfl⟩
  · cases g with
    | nil => exact absurd rfl hn
    | cons c g =>
      have ha' : inB LET c = true ∧ g.all (inB LET) = true := by simpa [allIn] using ha
      have f := let_facts c (of_decide_eq_true ha'.1)
      have hh : ∀ c, r.head? = some c → inB LET c = false := by
        rcases hr with ⟨c', h1, h2⟩ | hr
        · have e : c = c' := by simpa using (List.cons.inj h2).1
          rw [← e, f.2.2] at h1
          cases h1
        · exact fun c h => (hr c h).1
      obtain ⟨t1, t2⟩ := tw_all g r ha'.2 hh
      rw [List.cons_append, toks_cons, if_neg (by rw [f.2.1]; simp), if_pos ha'.1, t1, t2]
  · cases g with
    | nil => exact absurd rfl hn
    | cons c g =>
      have ha' : inB FIG c = true ∧ g.all (inB FIG) = true := by simpa [allIn] using ha
      have f := fig_facts c (of_decide_eq_true ha'.1)
      have hh : ∀ c, r.head? = some c → inB FIG c = false := by
        rcases hr with ⟨c', h1, h2⟩ | hr
        · have e : c = c' := by simpa using (List.cons.inj h2).1
          rw [← e, f.2.2] at h1
          cases h1
        · exact fun c h => (hr c h).2
      obtain ⟨t1, t2⟩ := tw_all g r ha'.2 hh
      rw [List.cons_append, toks_cons, if_neg (by rw [f.2.1]; simp), if_neg (by rw [f.1]; simp), if_pos ha'.1, t1, t2]
  · have f := sig_facts c (of_decide_eq_true hc)
    show toks (c :: r) = _
    rw [toks_cons, if_neg (by rw [f.2.1]; simp), if_neg (by rw [f.1]; simp), if_neg (by rw [f.2.2]; simp)]
theorem badFrom_ok : ∀ (t : G) (i : Nat), t.all okC = true → badFrom i t = none
  | [], i, _ => rfl
  | c :: t, i, h => by
    simp only [List.all_cons, Bool.and_eq_true] at h
    rw [badFrom, if_pos h.1]
    exact badFrom_ok t (i + 1) h.2
theorem tok_okC {g : G} (hg : TokOk g) : g.all okC = true := by
  rcases hg with ⟨_, ha⟩ | ⟨_, ha⟩ | ⟨c, hc, rfl⟩
  · rw [List.all_eq_true]
    intro c h
    have z : inB LET c = true := List.all_eq_true.mp ha c h
    simp [okC, z]
  · rw [List.all_eq_true]
    intro c h
    have z : inB FIG c = true := List.all_eq_true.mp ha c h
    simp [okC, z]
  · simp [okC, hc]
theorem blk_okC {b : G} (hb : b.all (inB BLK) = true) : b.all okC = true := by
  rw [List.all_eq_true]
  intro c h
  have z : inB BLK c = true := List.all_eq_true.mp hb c h
  simp [okC, z]
/-- the first sign of a token -/
theorem tok_head {g r : G} (hg : TokOk g) (hs : ∃ c, inB SIG c = true ∧ g = [c]) : ∀ c, (g ++ r).head? = some c → inB LET c = false ∧ inB FIG c = false := by
  obtain ⟨c, hc, rfl⟩ := hs
  intro c' h
  have e : c = c' := by simpa using h
  rw [← e]
  have f := sig_facts c (of_decide_eq_true hc)
  exact ⟨f.1, f.2.2⟩
theorem blk_head {b r : G} (hb : b.all (inB BLK) = true) (hn : b ≠ []) : ∀ c, (b ++ r).head? = some c → inB LET c = false ∧ inB FIG c = false := by
  cases b with
  | nil => exact absurd rfl hn
  | cons x b =>
    intro c h
    have e : x = c := by simpa using h
    simp only [List.all_cons, Bool.and_eq_true] at hb
    rw [← e]
    have f := blk_facts x (of_decide_eq_true hb.1)
    exact ⟨f.1, f.2⟩
end K85

set_option Elab.async false
set_option linter.all false
set_option maxRecDepth 100000
set_option maxHeartbeats 1000000
namespace K85
open PySem PySem.Spec PyProof.Rows L2 LamX Ey
/-! ### what is cut again -/
def NoTail (r : G) : Prop := ∀ c, r.head? = some c → inB LET c = false ∧ inB FIG c = false
def IsSig (g : G) : Prop := ∃ c, inB SIG c = true ∧ g = [c]
theorem notail_nil : NoTail [] := fun _ h => by cases h
theorem closes_sig {g : G} (h : CLOSES.contains g = true) : IsSig g := by
  have h : g ∈ CLOSES := by simpa using h
  have z : ∀ x ∈ CLOSES, ∃ c, c ∈ SIG ∧ x = [c] := by
    intro x hx
    simp only [CLOSES, List.mem_cons, List.not_mem_nil, or_false] at hx
    rcases hx with rfl | rfl | rfl
    · exact ⟨58, by decide +kernel, by decide +kernel⟩
    · exact ⟨44, by decide +kernel, by decide +kernel⟩
    · exact ⟨41, by decide +kernel, by decide +kernel⟩
  obtain ⟨c, h1, h2⟩ := z g h
  exact ⟨c, decide_eq_true h1, h2⟩
theorem opens_sig {g : G} (h : OPENS.contains g = true) : IsSig g := by
  have h : g ∈ OPENS := by simpa using h
  simp only [OPENS, List.mem_cons, List.not_mem_nil, or_false] at h
  rcases h with rfl | rfl
  · exact ⟨40, by decide +kernel, by decide +kernel⟩
  · exact ⟨45, by decide +kernel, by decide +kernel⟩
theorem wsep_blk (a b : G) : (wsep a b).all (inB BLK) = true := by
  unfold wsep
  split <;> decide +kernel
theorem wr_tail {g : G} (hn : ¬ IsSig g) : ∀ r : List G, NoTail (wr g r)
  | [] => notail_nil
  | h :: r => by
    show NoTail (wsep g h ++ h ++ wr h r)
    unfold wsep
    by_cases c : CLOSES.contains h = true
    · rw [if_pos (by rw [c, Bool.or_true])]
      obtain ⟨x, h1, rfl⟩ := closes_sig c
      intro y hy
      have e : x = y := by simpa using hy
      rw [← e]
      have f := sig_facts x (of_decide_eq_true h1)
      exact ⟨f.1, f.2.2⟩
    · have o : OPENS.contains g = false := by
        cases q : OPENS.contains g with
        | false => rfl
        | true => exact absurd (opens_sig q) hn
      rw [if_neg (by rw [o, Bool.false_or]; exact c)]
      rw [List.append_assoc]
      exact blk_head (by decide +kernel) (by decide +kernel)
theorem toks_wr : ∀ (gs : List G) (last : G), (∀ g ∈ gs, TokOk g) → toks (wr last gs) = gs
  | [], last, _ => toks_nil
  | g :: r, last, h => by
    show toks (wsep last g ++ g ++ wr g r) = g :: r
    rw [List.append_assoc, toks_blank (wsep_blk _ _), toks_tok (h g (List.mem_cons_self ..)), toks_wr r g fun x hx => h x (List.mem_cons_of_mem _ hx)]
    by_cases c : IsSig g
    · exact .inl c
    · exact .inr (wr_tail c r)
theorem toks_join {sep : G} (hb : sep.all (inB BLK) = true) (hn : sep ≠ []) : ∀ (gs : List G), (∀ g ∈ gs, TokOk g) → toks (TL.joinL sep gs) = gs
  | [], _ => toks_nil
  | [g], h => by
    have z := toks_tok (r := []) (h g (List.mem_cons_self ..)) (.inr notail_nil)
    rw [List.append_nil] at z
    show toks g = [g]
    rw [z, toks_nil]
  | g :: g2 :: r, h => by
    show toks (g ++ (sep ++ TL.joinL sep (g2 :: r))) = _
    rw [toks_tok (h g (List.mem_cons_self ..)) (.inr (blk_head hb hn)), toks_blank hb, toks_join hb hn (g2 :: r) fun x hx => h x (List.mem_cons_of_mem _ hx)]
theorem wr_okC : ∀ (gs : List G) (last : G), (∀ g ∈ gs, TokOk g) → (wr last gs).all okC = true
  | [], last, _ => rfl
  | g :: r, last, h => by
    show (wsep last g ++ g ++ wr g r).all okC = true
    rw [List.all_append, List.all_append, blk_okC (wsep_blk _ _), tok_okC (h g (List.mem_cons_self ..)), wr_okC r g fun x hx => h x (List.mem_cons_of_mem _ hx)]
    rfl
theorem join_okC {sep : G} (hb : sep.all (inB BLK) = true) : ∀ (gs : List G), (∀ g ∈ gs, TokOk g) → (TL.joinL sep gs).all okC = true
  | [], _ => rfl
  | [g], h => tok_okC (h g (List.mem_cons_self ..))
  | g :: g2 :: r, h => by
    show (g ++ (sep ++ TL.joinL sep (g2 :: r))).all okC = true
    rw [List.all_append, List.all_append, blk_okC hb, tok_okC (h g (List.mem_cons_self ..)), join_okC hb (g2 :: r) fun x hx => h x (List.mem_cons_of_mem _ hx)]
    rfl
theorem wr_len {m : Nat} : ∀ (gs : List G) (last : G), (∀ g ∈ gs, g.length ≤ m) → (wr last gs).length ≤ (m + 1) * gs.length
  | [], last, _ => Nat.zero_le _
  | g :: r, last, h => by
    have z := wr_len r g fun x hx => h x (List.mem_cons_of_mem _ hx)
    have q := h g (List.mem_cons_self ..)
    have w : (wsep last g).length ≤ 1 := by
      unfold wsep
      split <;> decide +kernel
    show (wsep last g ++ g ++ wr g r).length ≤ (m + 1) * (r.length + 1)
    rw [List.length_append, List.length_append, Nat.mul_add, Nat.mul_one]
    omega
theorem join_len {m s : Nat} {sep : G} (hs : sep.length ≤ s) : ∀ (gs : List G), (∀ g ∈ gs, g.length ≤ m) → (TL.joinL sep gs).length ≤ (m + s) * gs.length
  | [], _ => Nat.zero_le _
  | [g], h => by
    have q := h g (List.mem_cons_self ..)
    show g.length ≤ (m + s) * 1
    omega
  | g :: g2 :: r, h => by
    have z := join_len hs (g2 :: r) fun x hx => h x (List.mem_cons_of_mem _ hx)
    have q := h g (List.mem_cons_self ..)
    show (g ++ (sep ++ TL.joinL sep (g2 :: r))).length ≤ (m + s) * ((g2 :: r).length + 1)
    rw [List.length_append, List.length_append, Nat.mul_add, Nat.mul_one]
    omega
/-! ### numbers -/
theorem num_facts : ∀ a < 100, ∀ b < 100, (TL.numL (100 * a + b)).length ≤ 4 ∧ allIn FIG (TL.numL (100 * a + b)) = true ∧ TL.numL (100 * a + b) ≠ [] ∧ NumText.digitsVal (TL.numL (100 * a + b)) = 100 * a + b := by decide +kernel
theorem num_fact {n : Nat} (h : n ≤ 9999) : (TL.numL n).length ≤ 4 ∧ allIn FIG (TL.numL n) = true ∧ TL.numL n ≠ [] ∧ NumText.digitsVal (TL.numL n) = n := by
  have z := num_facts (n / 100) (by omega) (n % 100) (by omega)
  rw [show 100 * (n / 100) + n % 100 = n by omega] at z
  exact z
theorem fig_num {g : G} (hn : g ≠ []) (ha : allIn FIG g = true) : isNum g = true := by
  cases g with
  | nil => exact absurd rfl hn
  | cons c r => exact (by simpa [allIn] using ha : inB FIG c = true ∧ _).1
theorem let_name {g : G} (hn : g ≠ []) (ha : allIn LET g = true) : isName g = true := by
  cases g with
  | nil => exact absurd rfl hn
  | cons c r => exact (by simpa [allIn] using ha : inB LET c = true ∧ _).1
/-- a token, short -/
def Tk (g : G) : Prop := TokOk g ∧ g.length ≤ 13
theorem tk_sig {c : Nat} (h : inB SIG c = true) : Tk [c] := ⟨.inr (.inr ⟨c, h, rfl⟩), by simp⟩
theorem tk_cp1 {s : String} {c : Nat} (e : cp s = [c]) (h : inB SIG c = true) : Tk (cp s) := by rw [e]; exact tk_sig h
theorem tk_lp : Tk (cp "(") := tk_cp1 (c := 40) (by decide +kernel) (by decide +kernel)
theorem tk_rp : Tk (cp ")") := tk_cp1 (c := 41) (by decide +kernel) (by decide +kernel)
theorem tk_co : Tk (cp ",") := tk_cp1 (c := 44) (by decide +kernel) (by decide +kernel)
theorem tk_mi : Tk (cp "-") := tk_cp1 (c := 45) (by decide +kernel) (by decide +kernel)
theorem tk_cl : Tk (cp ":") := tk_cp1 (c := 58) (by decide +kernel) (by decide +kernel)
theorem tk_let {g : G} (hn : g ≠ []) (ha : allIn LET g = true) (hl : g.length ≤ 13) : Tk g := ⟨.inl ⟨hn, ha⟩, hl⟩
theorem tk_fig {g : G} (hn : g ≠ []) (ha : allIn FIG g = true) (hl : g.length ≤ 13) : Tk g := ⟨.inr (.inl ⟨hn, ha⟩), hl⟩
theorem word_facts {s : Str} (h : wordB s = true) : s.cps.toList ≠ [] ∧ s.cps.toList.length ≤ 12 ∧ allIn LET s.cps.toList = true ∧ s.cps.toList ≠ cp "none" := by
  unfold wordB at h
  simp only [Bool.and_eq_true, decide_eq_true_eq, Bool.not_eq_true', decide_eq_false_iff_not] at h
  obtain ⟨h1, h2, h3, h4⟩ := h
  have e : s.length = s.cps.toList.length := by simp [Str.length]
  refine ⟨fun z => ?_, by omega, h4, fun z => h3 ?_⟩
  · rw [e, z] at h1
    simp at h1
  · rw [← z, S_self]
theorem num_nat {i : Int} (h : (decide (-9999 ≤ i) && decide (i ≤ 9999)) = true) : i.natAbs ≤ 9999 := by
  simp only [Bool.and_eq_true, decide_eq_true_eq] at h
  omega
theorem tk_num {n : Nat} (h : n ≤ 9999) : Tk (TL.numL n) := by
  have z := num_fact h
  exact tk_fig z.2.2.1 z.2.1 (by omega)
theorem tk_none : Tk (cp "none") := tk_let (by decide +kernel) (by decide +kernel) (by decide +kernel)
theorem thing_int {k : Nat} {i : Int} : thingB k (.int i) = (decide (-9999 ≤ i) && decide (i ≤ 9999)) := by cases k <;> rfl
theorem thing_str {k : Nat} {s : Str} : thingB k (.str s) = wordB s := by cases k <;> rfl
mutual
theorem grp_tk : ∀ (d : PyData) (k : Nat), thingB k d = true → ∀ g ∈ grp d, Tk g
  | .none, k, h => by
    intro g hg
    rw [grp] at hg
    rw [List.mem_singleton.mp hg]
    exact tk_none
  | .str s, k, h => by
    rw [thing_str] at h
    intro g hg
    rw [grp] at hg
    rw [List.mem_singleton.mp hg]
    obtain ⟨a, b, c, _⟩ := word_facts h
    exact tk_let a c (by omega)
  | .int i, k, h => by
    rw [thing_int] at h
    have z := num_nat h
    intro g hg
    rw [grp] at hg
    split at hg
    · rcases List.mem_cons.mp hg with rfl | hg
      · exact tk_mi
      · rw [List.mem_singleton.mp hg]
        exact tk_num z
    · rw [List.mem_singleton.mp hg]
      exact tk_num z
  | .tuple ds, 0, h => by cases h
  | .tuple ds, k + 1, h => by
    intro g hg
    rw [grp] at hg
    rcases List.mem_cons.mp hg with rfl | hg
    · exact tk_lp
    rcases List.mem_append.mp hg with hg | hg
    · exact grpJ_tk ds k h g hg
    · rw [List.mem_singleton.mp hg]
      exact tk_rp
  | .bool b, k, h => by cases k <;> cases h
  | .list b, k, h => by cases k <;> cases h
  | .dict b, k, h => by cases k <;> cases h
theorem grpJ_tk : ∀ (ds : List PyData) (k : Nat), ds.all (thingB k) = true → ∀ g ∈ grpJ ds, Tk g
  | [], k, h => fun g hg => by cases hg
  | d :: ds, k, h => by
    simp only [List.all_cons, Bool.and_eq_true] at h
    intro g hg
    rcases List.mem_append.mp (show g ∈ grp d ++ grpK ds from hg) with hg | hg
    · exact grp_tk d k h.1 g hg
    · exact grpK_tk ds k h.2 g hg
theorem grpK_tk : ∀ (ds : List PyData) (k : Nat), ds.all (thingB k) = true → ∀ g ∈ grpK ds, Tk g
  | [], k, h => fun g hg => by cases hg
  | d :: ds, k, h => by
    simp only [List.all_cons, Bool.and_eq_true] at h
    intro g hg
    rcases List.mem_cons.mp (show g ∈ cp "," :: (grp d ++ grpK ds) from hg) with rfl | hg
    · exact tk_co
    rcases List.mem_append.mp hg with hg | hg
    · exact grp_tk d k h.1 g hg
    · exact grpK_tk ds k h.2 g hg
end
end K85

set_option Elab.async false
set_option linter.all false
set_option maxRecDepth 100000
set_option maxHeartbeats 1000000
namespace K85
open PySem PySem.Spec PyProof.Rows L2 LamX Ey
/-! ### what is shown -/
theorem sepA (g : G) : wsep (cp "(") g = [] := by
  unfold wsep
  rw [if_pos]
  rw [show OPENS.contains (cp "(") = true by decide +kernel]
  rfl
theorem sepM (g : G) : wsep (cp "-") g = [] := by
  unfold wsep
  rw [if_pos]
  rw [show OPENS.contains (cp "-") = true by decide +kernel]
  rfl
theorem sepZ (g : G) : wsep g (cp ")") = [] := by
  unfold wsep
  rw [if_pos]
  rw [show CLOSES.contains (cp ")") = true by decide +kernel, Bool.or_true]
theorem sepC (g : G) : wsep g (cp ",") = [] := by
  unfold wsep
  rw [if_pos]
  rw [show CLOSES.contains (cp ",") = true by decide +kernel, Bool.or_true]
theorem sepN {g : G} (h : CLOSES.contains g = false) : wsep (cp ",") g = cp " " := by
  unfold wsep
  rw [if_neg]
  rw [show OPENS.contains (cp ",") = false by decide +kernel, h]
  simp
theorem closes_no {g : G} (h : ∀ c, g.head? = some c → c ≠ 58 ∧ c ≠ 44 ∧ c ≠ 41) (hn : g ≠ []) : CLOSES.contains g = false := by
  cases q : CLOSES.contains g with
  | false => rfl
  | true =>
    have q : g ∈ CLOSES := by simpa using q
    simp only [CLOSES, List.mem_cons, List.not_mem_nil, or_false] at q
    rcases q with rfl | rfl | rfl
    · exact absurd rfl (h 58 (by decide +kernel)).1
    · exact absurd rfl (h 44 (by decide +kernel)).2.1
    · exact absurd rfl (h 41 (by decide +kernel)).2.2
def hdT (d : PyData) : G := (grp d).headD []
theorem let_noclose {g : G} (hn : g ≠ []) (ha : allIn LET g = true) : CLOSES.contains g = false := by
  cases g with
  | nil => exact absurd rfl hn
  | cons c r =>
    refine closes_no (fun x hx => ?_) hn
    have e : c = x := by simpa using hx
    subst e
    have z : c ∈ LET := of_decide_eq_true (by simpa [allIn] using ha : inB LET c = true ∧ _).1
    have q : ∀ x ∈ LET, x ≠ 58 ∧ x ≠ 44 ∧ x ≠ 41 := by decide +kernel
    exact q c z
theorem fig_noclose {g : G} (hn : g ≠ []) (ha : allIn FIG g = true) : CLOSES.contains g = false := by
  cases g with
  | nil => exact absurd rfl hn
  | cons c r =>
    refine closes_no (fun x hx => ?_) hn
    have e : c = x := by simpa using hx
    subst e
    have z : c ∈ FIG := of_decide_eq_true (by simpa [allIn] using ha : inB FIG c = true ∧ _).1
    have q : ∀ x ∈ FIG, x ≠ 58 ∧ x ≠ 44 ∧ x ≠ 41 := by decide +kernel
    exact q c z
theorem hd_noclose {k : Nat} {d : PyData} (h : thingB k d = true) : CLOSES.contains (hdT d) = false := by
  unfold hdT
  cases d with
  | none => rw [grp]; decide +kernel
  | str s =>
    rw [thing_str] at h
    obtain ⟨a, b, c, _⟩ := word_facts h
    rw [grp]
    exact let_noclose a c
  | int i =>
    rw [thing_int] at h
    have z := num_fact (num_nat h)
    rw [grp]
    split
    · show CLOSES.contains (cp "-") = false
      decide +kernel
    · exact fig_noclose z.2.2.1 z.2.1
  | tuple ds =>
    rw [grp]
    show CLOSES.contains (cp "(") = false
    decide +kernel
  | bool b => cases k <;> cases h
  | list b => cases k <;> cases h
  | dict b => cases k <;> cases h
theorem wr_cons (l g : G) (r : List G) : wr l (g :: r) = wsep l g ++ g ++ wr g r := rfl
mutual
theorem wr_grp : ∀ (d : PyData) (k : Nat), thingB k d = true → ∀ (last : G) (rest : List G), ∃ z, wr last (grp d ++ rest) = wsep last (hdT d) ++ (shown d ++ wr z rest)
  | .none, k, h, last, rest => ⟨cp "none", by
    unfold hdT
    rw [grp, shown]
    show wr last (cp "none" :: rest) = _
    rw [wr_cons, List.append_assoc]
    rfl⟩
  | .str s, k, h, last, rest => ⟨s.cps.toList, by
    unfold hdT
    rw [grp, shown]
    show wr last (s.cps.toList :: rest) = _
    rw [wr_cons, List.append_assoc]
    rfl⟩
  | .int i, k, h, last, rest => ⟨TL.numL i.natAbs, by
    unfold hdT
    rw [grp, shown]
    split
    · show wr last (cp "-" :: TL.numL i.natAbs :: rest) = _
      rw [wr_cons, wr_cons, sepM, List.append_assoc]
      show wsep last (cp "-") ++ (cp "-" ++ (TL.numL i.natAbs ++ wr (TL.numL i.natAbs) rest)) = wsep last (cp "-") ++ ((cp "-" ++ TL.numL i.natAbs) ++ wr (TL.numL i.natAbs) rest)
      simp only [List.append_assoc]
    · show wr last (TL.numL i.natAbs :: rest) = _
      rw [wr_cons, List.append_assoc]
      rfl⟩
  | .tuple ds, 0, h, _, _ => by cases h
  | .tuple ds, k + 1, h, last, rest => ⟨cp ")", by
    unfold hdT
    rw [grp, shown]
    show wr last (cp "(" :: ((grpJ ds ++ [cp ")"]) ++ rest)) = wsep last (cp "(") ++ (cp "(" ++ comma (shownAll ds) ++ cp ")" ++ wr (cp ")") rest)
    rw [wr_cons, List.append_assoc (grpJ ds), List.append_assoc (wsep last (cp "("))]
    show wsep last (cp "(") ++ (cp "(" ++ wr (cp "(") (grpJ ds ++ cp ")" :: rest)) = _
    rw [wr_grpJ ds k h rest]
    simp only [List.append_assoc]⟩
  | .bool b, k, h, _, _ => by cases k <;> cases h
  | .list b, k, h, _, _ => by cases k <;> cases h
  | .dict b, k, h, _, _ => by cases k <;> cases h
theorem wr_grpJ : ∀ (ds : List PyData) (k : Nat), ds.all (thingB k) = true → ∀ (rest : List G), wr (cp "(") (grpJ ds ++ cp ")" :: rest) = comma (shownAll ds) ++ (cp ")" ++ wr (cp ")") rest)
  | [], k, h, rest => by
    show wr (cp "(") (cp ")" :: rest) = _
    rw [wr_cons, sepA]
    rfl
  | d :: ds, k, h, rest => by
    simp only [List.all_cons, Bool.and_eq_true] at h
    show wr (cp "(") ((grp d ++ grpK ds) ++ cp ")" :: rest) = _
    rw [List.append_assoc]
    obtain ⟨z, e⟩ := wr_grp d k h.1 (cp "(") (grpK ds ++ cp ")" :: rest)
    rw [e, sepA, wr_grpK ds k h.2 z rest]
    show [] ++ (shown d ++ _) = comma (shown d :: shownAll ds) ++ _
    cases ds with
    | nil => rfl
    | cons d2 ds =>
      show shown d ++ ((cp ", " ++ comma (shown d2 :: shownAll ds)) ++ _) = (shown d ++ (cp ", " ++ comma (shown d2 :: shownAll ds))) ++ _
      rw [List.append_assoc (shown d)]
theorem wr_grpK : ∀ (ds : List PyData) (k : Nat), ds.all (thingB k) = true → ∀ (last : G) (rest : List G), wr last (grpK ds ++ cp ")" :: rest) = (match ds with | [] => [] | _ :: _ => cp ", " ++ comma (shownAll ds)) ++ (cp ")" ++ wr (cp ")") rest)
  | [], k, h, last, rest => by
    show wr last (cp ")" :: rest) = _
    rw [wr_cons, sepZ]
    rfl
  | d :: ds, k, h, last, rest => by
    simp only [List.all_cons, Bool.and_eq_true] at h
    show wr last (cp "," :: ((grp d ++ grpK ds) ++ cp ")" :: rest)) = _
    rw [List.append_assoc, wr_cons, sepC]
    obtain ⟨z, e⟩ := wr_grp d k h.1 (cp ",") (grpK ds ++ cp ")" :: rest)
    rw [e, sepN (hd_noclose h.1), wr_grpK ds k h.2 z rest]
    show [] ++ cp "," ++ (cp " " ++ (shown d ++ _)) = (cp ", " ++ comma (shown d :: shownAll ds)) ++ _
    have e2 : cp ", " = cp "," ++ cp " " := by decide +kernel
    rw [e2]
    cases ds with
    | nil =>
      show [] ++ cp "," ++ (cp " " ++ (shown d ++ ([] ++ _))) = (cp "," ++ cp " " ++ shown d) ++ _
      simp only [List.append_assoc, List.nil_append]
    | cons d2 ds =>
      show [] ++ cp "," ++ (cp " " ++ (shown d ++ ((cp ", " ++ comma (shown d2 :: shownAll ds)) ++ _))) = (cp "," ++ cp " " ++ (shown d ++ (cp ", " ++ comma (shown d2 :: shownAll ds)))) ++ _
      simp only [List.append_assoc, List.nil_append]
end
theorem txt_shown {k : Nat} {d : PyData} (h : thingB k d = true) : txt d = shown d := by
  obtain ⟨z, e⟩ := wr_grp d k h (cp "(") []
  rw [List.append_nil] at e
  unfold txt
  rw [e, sepA]
  show [] ++ (shown d ++ []) = shown d
  simp
/-! ### what is read again -/
theorem now_at {gs pre post : List G} {g : G} (h : gs = pre ++ g :: post) : nowG gs pre.length = g := by
  subst h
  unfold nowG
  rw [List.getD_eq_getElem?_getD, List.getElem?_append_right (Nat.le_refl _), Nat.sub_self]
  rfl
theorem now_at1 {gs pre post : List G} {f g : G} (h : gs = pre ++ f :: g :: post) : nowG gs (pre.length + 1) = g := by
  have z := now_at (gs := gs) (pre := pre ++ [f]) (g := g) (post := post) (by rw [h]; simp)
  rw [List.length_append] at z
  exact z
theorem let_short {g : G} (hn : g ≠ []) (ha : allIn LET g = true) (hl : g.length ≤ 12) : isLong g = false := by
  rw [long_name (let_name hn ha)]
  exact decide_eq_false (by omega)
theorem fig_short {g : G} (hn : g ≠ []) (ha : allIn FIG g = true) (hl : g.length ≤ 4) : isLong g = false := by
  rw [long_num (fig_num hn ha)]
  exact decide_eq_false (by omega)
theorem hd_nrp {k : Nat} {d : PyData} (h : thingB k d = true) : ∃ r, grp d = hdT d :: r ∧ hdT d ≠ cp ")" := by
  have hn := hd_noclose h
  have hg := grp_ne d h
  cases q : grp d with
  | nil => exact absurd q hg
  | cons x r =>
    have e : hdT d = x := by
      unfold hdT
      rw [q]
      rfl
    refine ⟨r, by rw [e], fun z => ?_⟩
    rw [z] at hn
    exact absurd hn (by decide +kernel)
mutual
theorem rd : ∀ (d : PyData) (k deep : Nat), thingB k d = true → k + deep ≤ 12 → ∀ (gs pre post : List G), gs = pre ++ (grp d ++ post) → Pr gs (.part pre.length deep) (.ok d (pre.length + (grp d).length))
  | .none, k, deep, h, hk, gs, pre, post, e => by
    rw [grp] at e ⊢
    have n := now_at (gs := gs) (pre := pre) (g := cp "none") (post := post) e
    have z := Pr.name (gs := gs) (a := pre.length) (deep := deep) (by rw [n]; decide +kernel) (by rw [n]; decide +kernel)
    rw [n] at z
    exact z
  | .str s, k, deep, h, hk, gs, pre, post, e => by
    rw [grp] at e ⊢
    rw [thing_str] at h
    obtain ⟨a, b, c, d⟩ := word_facts h
    have n := now_at (gs := gs) (pre := pre) (g := s.cps.toList) (post := post) e
    have z := Pr.name (gs := gs) (a := pre.length) (deep := deep) (by rw [n]; exact let_name a c) (by rw [n]; exact let_short a c b)
    rw [n] at z
    unfold word at z
    rw [if_neg d, S_self] at z
    exact z
  | .int i, k, deep, h, hk, gs, pre, post, e => by
    rw [grp] at e ⊢
    rw [thing_int] at h
    have f := num_fact (num_nat h)
    by_cases c : i < 0
    · rw [if_pos c] at e ⊢
      have n := now_at (gs := gs) (pre := pre) (g := cp "-") (post := TL.numL i.natAbs :: post) e
      have n1 := now_at1 (gs := gs) (pre := pre) (f := cp "-") (g := TL.numL i.natAbs) (post := post) e
      have z := Pr.neg (gs := gs) (a := pre.length) (deep := deep) n (by rw [n1]; exact fig_num f.2.2.1 f.2.1) (by rw [n1]; exact fig_short f.2.2.1 f.2.1 f.1)
      rw [n1] at z
      have v : -valG (TL.numL i.natAbs) = i := by
        unfold valG
        rw [f.2.2.2]
        omega
      rw [v] at z
      exact z
    · rw [if_neg c] at e ⊢
      have n := now_at (gs := gs) (pre := pre) (g := TL.numL i.natAbs) (post := post) e
      have z := Pr.num (gs := gs) (a := pre.length) (deep := deep) (by rw [n]; exact fig_num f.2.2.1 f.2.1) (by rw [n]; exact fig_short f.2.2.1 f.2.1 f.1)
      rw [n] at z
      have v : valG (TL.numL i.natAbs) = i := by
        unfold valG
        rw [f.2.2.2]
        omega
      rw [v] at z
      exact z
  | .tuple ds, 0, deep, h, hk, gs, pre, post, e => by cases h
  | .tuple [], k + 1, deep, h, hk, gs, pre, post, e => by
    rw [grp] at e ⊢
    have n := now_at (gs := gs) (pre := pre) (g := cp "(") (post := cp ")" :: post) e
    have n1 := now_at1 (gs := gs) (pre := pre) (f := cp "(") (g := cp ")") (post := post) e
    exact Pr.nil n (by omega) n1
  | .tuple (d :: ds), k + 1, deep, h, hk, gs, pre, post, e => by
    rw [grp] at e ⊢
    have h : (d :: ds).all (thingB k) = true := h
    simp only [List.all_cons, Bool.and_eq_true] at h
    have e : gs = pre ++ (cp "(" :: (((grp d ++ grpK ds) ++ [cp ")"]) ++ post)) := e
    have n := now_at (gs := gs) (pre := pre) (g := cp "(") e
    obtain ⟨r, er, hr⟩ := hd_nrp h.1
    have n1 := now_at1 (gs := gs) (pre := pre) (f := cp "(") (g := hdT d) (post := r ++ (grpK ds ++ ([cp ")"] ++ post))) (by rw [e, er]; simp)
    have z1 := rd d k (deep + 1) h.1 (by omega) gs (pre ++ [cp "("]) (grpK ds ++ ([cp ")"] ++ post)) (by rw [e]; simp)
    have z2 := rdA ds k (deep + 1) h.2 (by omega) gs ((pre ++ [cp "("]) ++ grp d) post [d] (by rw [e]; simp)
    have l1 : (pre ++ [cp "("]).length = pre.length + 1 := by rw [List.length_append]; rfl
    rw [l1] at z1
    have l2 : ((pre ++ [cp "("]) ++ grp d).length = pre.length + 1 + (grp d).length := by rw [List.length_append, l1]
    rw [l2] at z2
    have z3 := Pr.tup n (by omega) (by rw [n1]; exact hr) (.sO (told := []) z1 z2)
    have l3 : pre.length + (cp "(" :: (grpJ (d :: ds) ++ [cp ")"])).length = pre.length + 1 + (grp d).length + (grpK ds).length + 1 := by
      show pre.length + (cp "(" :: ((grp d ++ grpK ds) ++ [cp ")"])).length = _
      simp only [List.length_cons, List.length_append, List.length_nil]
      omega
    rw [l3]
    exact z3
  | .bool b, k, _, h, _, _, _, _, _ => by cases k <;> cases h
  | .list b, k, _, h, _, _, _, _, _ => by cases k <;> cases h
  | .dict b, k, _, h, _, _, _, _, _ => by cases k <;> cases h
theorem rdA : ∀ (ds : List PyData) (k deep : Nat), ds.all (thingB k) = true → k + deep ≤ 12 → ∀ (gs pre post : List G) (told : List PyData), gs = pre ++ (grpK ds ++ (cp ")" :: post)) → Pr gs (.after pre.length deep told) (.ok (.tuple (told ++ ds)) (pre.length + (grpK ds).length + 1))
  | [], k, deep, h, hk, gs, pre, post, told, e => by
    have n := now_at (gs := gs) (pre := pre) (g := cp ")") (post := post) e
    rw [List.append_nil]
    exact Pr.aE n
  | d :: ds, k, deep, h, hk, gs, pre, post, told, e => by
    simp only [List.all_cons, Bool.and_eq_true] at h
    have e : gs = pre ++ ((cp "," :: (grp d ++ grpK ds)) ++ (cp ")" :: post)) := e
    have n := now_at (gs := gs) (pre := pre) (g := cp ",") e
    have z1 := rd d k deep h.1 hk gs (pre ++ [cp ","]) (grpK ds ++ (cp ")" :: post)) (by rw [e]; simp)
    have z2 := rdA ds k deep h.2 hk gs ((pre ++ [cp ","]) ++ grp d) post (told ++ [d]) (by rw [e]; simp)
    have l1 : (pre ++ [cp ","]).length = pre.length + 1 := by rw [List.length_append]; rfl
    rw [l1] at z1
    have l2 : ((pre ++ [cp ","]) ++ grp d).length = pre.length + 1 + (grp d).length := by rw [List.length_append, l1]
    rw [l2, List.append_assoc] at z2
    have l3 : pre.length + (grpK (d :: ds)).length + 1 = pre.length + 1 + (grp d).length + (grpK ds).length + 1 := by
      show pre.length + (cp "," :: (grp d ++ grpK ds)).length + 1 = _
      simp only [List.length_cons, List.length_append]
      omega
    rw [l3]
    exact .aC n (.sO z1 z2)
end
theorem whole_grp {d : PyData} (h : thingB 12 d = true) : Whole (grp d) (.ok d (grp d).length) := by
  have z := rd d 12 0 h (by omega) (grp d) [] [] (by simp)
  simp only [List.length_nil, Nat.zero_add] at z
  exact .inr (.inr ⟨d, _, z, Nat.lt_irrefl _, rfl⟩)
theorem whole_due {d : PyData} (h : thingB 12 d = true) (told : Bool) : ∀ res, Whole (grp d) res → valD told d = resT told res := fun res hr => by
  rw [hr.det (whole_grp h)]
  rfl
end K85

set_option Elab.async false
set_option linter.all false
set_option maxRecDepth 100000
set_option maxHeartbeats 1000000
namespace K85
open PySem PySem.Spec PyProof.Rows L2 LamX Ey
/-! ### the things that the law draws -/
mutual
theorem th_up : ∀ (d : PyData) (k m : Nat), thingB k d = true → k ≤ m → thingB m d = true ∧ depB m d = true
  | .none, k, m, h, l => by cases m <;> exact ⟨rfl, rfl⟩
  | .str s, k, m, h, l => by
    rw [thing_str] at h ⊢
    exact ⟨h, by cases m <;> rfl⟩
  | .int i, k, m, h, l => by
    rw [thing_int] at h ⊢
    exact ⟨h, by cases m <;> rfl⟩
  | .tuple ds, 0, m, h, l => by cases h
  | .tuple ds, k + 1, 0, h, l => by omega
  | .tuple ds, k + 1, m + 1, h, l => th_upA ds k m h (by omega)
  | .bool b, k, m, h, l => by cases k <;> cases h
  | .list b, k, m, h, l => by cases k <;> cases h
  | .dict b, k, m, h, l => by cases k <;> cases h
theorem th_upA : ∀ (ds : List PyData) (k m : Nat), ds.all (thingB k) = true → k ≤ m → ds.all (thingB m) = true ∧ ds.all (depB m) = true
  | [], k, m, h, l => ⟨rfl, rfl⟩
  | d :: ds, k, m, h, l => by
    simp only [List.all_cons, Bool.and_eq_true] at h ⊢
    have z1 := th_up d k m h.1 l
    have z2 := th_upA ds k m h.2 l
    exact ⟨⟨z1.1, z2.1⟩, z1.2, z2.2⟩
end
theorem words_ok : ∀ s ∈ words, wordB (Str.ofString s) = true := by
  intro s h
  simp only [words, List.mem_cons, List.not_mem_nil, or_false] at h
  rcases h with rfl | rfl | rfl | rfl | rfl | rfl | rfl <;> decide +kernel
theorem Dr.thing {k : Nat} {d : PyData} (h : Dr k d) : thingB k d = true := by
  induction h with
  | word h => rw [thing_str]; exact words_ok _ h
  | int h1 h2 => rw [thing_int]; simp [h1, h2]
  | @none k => cases k <;> rfl
  | tup _ _ ih => exact List.all_eq_true.mpr ih
def bd : Nat → Nat
  | 0 => 2
  | k + 1 => 2 + 3 * (bd k + 1)
theorem bd2 (k : Nat) : 2 ≤ bd k := by
  cases k with
  | zero => exact Nat.le_refl _
  | succ k => show 2 ≤ 2 + _; omega
theorem grpK_len {m : Nat} : ∀ ds : List PyData, (∀ d ∈ ds, (grp d).length ≤ m) → (grpK ds).length ≤ (m + 1) * ds.length
  | [], _ => Nat.zero_le _
  | d :: ds, h => by
    have z := grpK_len ds fun x hx => h x (List.mem_cons_of_mem _ hx)
    have q := h d (List.mem_cons_self ..)
    show (cp "," :: (grp d ++ grpK ds)).length ≤ (m + 1) * (ds.length + 1)
    rw [List.length_cons, List.length_append, Nat.mul_add, Nat.mul_one]
    omega
theorem grpJ_len {m : Nat} : ∀ ds : List PyData, (∀ d ∈ ds, (grp d).length ≤ m) → (grpJ ds).length ≤ (m + 1) * ds.length
  | [], _ => Nat.zero_le _
  | d :: ds, h => by
    have z := grpK_len ds fun x hx => h x (List.mem_cons_of_mem _ hx)
    have q := h d (List.mem_cons_self ..)
    show (grp d ++ grpK ds).length ≤ (m + 1) * (ds.length + 1)
    rw [List.length_append, Nat.mul_add, Nat.mul_one]
    omega
theorem Dr.len {k : Nat} {d : PyData} (h : Dr k d) : (grp d).length ≤ bd k := by
  induction h with
  | @word k => rw [grp]; exact Nat.le_trans (by simp) (bd2 k)
  | @int k => rw [grp]; exact Nat.le_trans (by split <;> simp) (bd2 k)
  | @none k => rw [grp]; exact Nat.le_trans (by decide) (bd2 k)
  | @tup k ds hl _ ih =>
    rw [grp, List.length_cons, List.length_append]
    have z := grpJ_len ds ih
    show (grpJ ds).length + 1 + 1 ≤ 2 + 3 * (bd k + 1)
    have q : (bd k + 1) * ds.length ≤ (bd k + 1) * 3 := Nat.mul_le_mul_left _ hl
    omega
theorem Dr.sz {k : Nat} {d : PyData} (h : Dr k d) : SzOk d := by
  induction h with
  | word h =>
    refine .str ?_
    have e := (word_facts (words_ok _ h)).2.1
    rw [sizeLine_eq]
    simp only [Str.length]
    simp only [Array.length_toList] at e
    omega
  | int => exact .int _
  | none => exact .none
  | tup hl _ ih => exact .tuple (by rw [sizeLine_eq]; omega) ih
/-- a value of the law -/
structure Good (d : PyData) : Prop where
  noL : NoL d
  thing : thingB 12 d = true
  dep : depB 20 d = true
  sz : SzOk d
  len : (grp d).length ≤ 400
  tk : ∀ g ∈ grp d, Tk g
theorem Dr.good {k : Nat} {d : PyData} (h : Dr k d) (hk : k = 1 ∨ k = 2 ∨ k = 4) : Good d :=
  ⟨h.noL, (th_up d k 12 h.thing (by omega)).1, (th_up d k 20 h.thing (by omega)).2, h.sz, Nat.le_trans h.len (by rcases hk with rfl | rfl | rfl <;> decide), grp_tk d k h.thing⟩
theorem Good.shown {d : PyData} (h : Good d) : txt d = shown d := txt_shown h.thing
theorem Good.txtlen {d : PyData} (h : Good d) : (txt d).length ≤ 5600 := by
  have z := wr_len (m := 13) (grp d) (cp "(") fun g hg => (h.tk g hg).2
  have q := h.len
  unfold txt
  omega
/-! ### cuts -/
structure Cuts (t : G) (gs : List G) : Prop where
  len : t.length ≤ 60000
  ok : t.all okC = true
  few : gs.length ≤ 4000
  cut : toks t = gs
theorem Good.cuts {d : PyData} (h : Good d) : Cuts (K85.shown d) (grp d) := by
  rw [← h.shown]
  exact ⟨by have := h.txtlen; omega, wr_okC _ _ fun g hg => (h.tk g hg).1, by have := h.len; omega, toks_wr _ _ fun g hg => (h.tk g hg).1⟩
theorem join_cuts {sep : G} (hb : sep.all (inB BLK) = true) (hn : sep ≠ []) (hs : sep.length ≤ 2) {gs : List G} (ht : ∀ g ∈ gs, Tk g) (hl : gs.length ≤ 500) : Cuts (TL.joinL sep gs) gs := by
  have z := join_len (m := 13) hs gs fun g hg => (ht g hg).2
  exact ⟨by omega, join_okC hb _ fun g hg => (ht g hg).1, by omega, toks_join hb hn _ fun g hg => (ht g hg).1⟩
theorem Cuts.cutG {K : PySem.W.Frag} {E : XK} {H : Hp} {F : List G → Prop} {t : G} {gs : List G} (c : Cuts t gs) (h : F gs) : CutG K E H F (.str (S t)) := by
  unfold CutG
  dsimp only
  rw [S_len, S_cps, if_neg (by have := c.len; omega), badFrom_ok _ _ c.ok, c.cut]
  dsimp only
  rw [if_neg (by have := c.few; omega)]
  exact h
theorem Cuts.reads {told : Bool} {due : PyData} {t : G} {gs : List G} (c : Cuts t gs) (h : ∀ res, Whole gs res → due = resT told res) : ReadsTo told due (.str (S t)) := by
  unfold ReadsTo
  dsimp only
  rw [S_len, S_cps, if_neg (by have := c.len; omega), badFrom_ok _ _ c.ok, c.cut]
  dsimp only
  rw [if_neg (by have := c.few; omega)]
  exact h
theorem Cuts.szl {t : G} {gs : List G} (c : Cuts t gs) : (S t).length ≤ sizeLine := by
  rw [S_len, sizeLine_eq]
  have := c.len
  omega
theorem gs_of {gs : List G} (ht : ∀ g ∈ gs, Tk g) (hl : gs.length ≤ 500) : Gs gs where
  short := fun g hg => by have := (ht g hg).2; omega
  few := by omega
  plain := fun g hg c hc => by
    have z := tok_okC (ht g hg).1
    have q := List.all_eq_true.mp z c hc
    have f : ∀ x ∈ LET ++ FIG ++ SIG ++ BLK, x < 1114112 := by decide +kernel
    refine f c ?_
    unfold okC inB at q
    simp only [Bool.or_eq_true, decide_eq_true_eq] at q
    simp only [List.mem_append]
    exact q
  digs := fun g hg hn c hc => by
    rcases (ht g hg).1 with ⟨h1, h2⟩ | ⟨h1, h2⟩ | ⟨x, h1, rfl⟩
    · rw [name_num (let_name h1 h2)] at hn
      cases hn
    · exact fig_dig (List.all_eq_true.mp h2 c hc)
    · rw [List.mem_singleton.mp hc]
      exact fig_dig hn
  ne := fun g hg e => by
    rcases (ht g hg).1 with ⟨h1, h2⟩ | ⟨h1, h2⟩ | ⟨x, h1, h2⟩
    · exact h1 e
    · exact h1 e
    · rw [h2] at e
      cases e
/-! ### what is no thing -/
def bads (d : PyData) : List PyData := [.int 10000, .int (-10000), .bool true, .str (Str.ofString ""), .str (Str.ofString "none"), .str (Str.ofString "A"), .str (Str.ofString "a1"), .str (Str.ofString "abcdefghijklm"), .list [d], .list [], .str (Str.ofString "a b"), .tuple [d, .bool false], .tuple [.tuple [], .list [.int 1]]]
theorem sz_lit {s : String} (h : (Str.ofString s).length ≤ 60 := by decide +kernel) : SzOk (.str (Str.ofString s)) := .str (by rw [sizeLine_eq]; omega)
theorem bads_ok {d : PyData} (h : SzOk d) : ∀ x ∈ bads d, thingB 12 x = false ∧ SzOk x := by
  intro x hx
  simp only [bads, List.mem_cons, List.not_mem_nil, or_false] at hx
  rcases hx with rfl | rfl | rfl | rfl | rfl | rfl | rfl | rfl | rfl | rfl | rfl | rfl | rfl
  · exact ⟨by decide +kernel, .int _⟩
  · exact ⟨by decide +kernel, .int _⟩
  · exact ⟨by decide +kernel, .bool _⟩
  · exact ⟨by decide +kernel, sz_lit⟩
  · exact ⟨by decide +kernel, sz_lit⟩
  · exact ⟨by decide +kernel, sz_lit⟩
  · exact ⟨by decide +kernel, sz_lit⟩
  · exact ⟨by decide +kernel, sz_lit⟩
  · exact ⟨rfl, .list _⟩
  · exact ⟨rfl, .list _⟩
  · exact ⟨by decide +kernel, sz_lit⟩
  · refine ⟨?_, .tuple (by rw [sizeLine_eq]; simp) fun y hy => ?_⟩
    · show (thingB 11 d && (false && true)) = false
      simp
    · simp only [List.mem_cons, List.not_mem_nil, or_false] at hy
      rcases hy with rfl | rfl
      · exact h
      · exact .bool _
  · refine ⟨by decide +kernel, .tuple (by rw [sizeLine_eq]; decide) fun y hy => ?_⟩
    simp only [List.mem_cons, List.not_mem_nil, or_false] at hy
    rcases hy with rfl | rfl
    · exact .tuple (Nat.zero_le _) fun _ h => by cases h
    · exact .list _
def thingD : PyData := .tuple [.str (Str.ofString "thing"), .int (-1)]
theorem text_bad {d : PyData} (h : thingB 12 d = false) (told : Bool) : TextTo told thingD d := by
  unfold TextTo
  rw [if_neg (by rw [h]; simp)]
  rfl
/-! ### nested -/
def nst : Nat → PyData
  | 0 => .tuple []
  | m + 1 => .tuple [nst m]
theorem nst_noL : ∀ m, NoL (nst m)
  | 0 => .tuple fun _ h => by cases h
  | m + 1 => .tuple fun d h => by rw [List.mem_singleton.mp h]; exact nst_noL m
theorem nst_sz : ∀ m, SzOk (nst m)
  | 0 => .tuple (Nat.zero_le _) fun _ h => by cases h
  | m + 1 => .tuple (by rw [sizeLine_eq]; simp) fun d h => by rw [List.mem_singleton.mp h]; exact nst_sz m
theorem nst_facts : ∀ n < 6, thingB 12 (nst (8 + n)) = decide (9 + n ≤ 12) ∧ depB 20 (nst (8 + n)) = true ∧ (grp (nst (8 + n))).length ≤ 30 := by decide +kernel
def hill (n : Nat) : List G := List.replicate (9 + n) (cp "(") ++ List.replicate (9 + n) (cp ")")
def hillT (n : Nat) : G := List.replicate (9 + n) 40 ++ List.replicate (9 + n) 41
theorem hill_facts : ∀ n < 6, (hillT n).length ≤ 60000 ∧ (hillT n).all okC = true ∧ (hill n).length ≤ 4000 := by decide +kernel
theorem toks_rep {c : Nat} (h : inB SIG c = true) (r : G) : ∀ n, toks (List.replicate n c ++ r) = List.replicate n [c] ++ toks r
  | 0 => rfl
  | n + 1 => by
    rw [List.replicate_succ, List.replicate_succ]
    have z := toks_tok (g := [c]) (r := List.replicate n c ++ r) (.inr (.inr ⟨c, h, rfl⟩)) (.inl ⟨c, h, rfl⟩)
    show toks ([c] ++ (List.replicate n c ++ r)) = _
    rw [z, toks_rep h r n]
    rfl
theorem hill_cuts {n : Nat} (h : n < 6) : Cuts (hillT n) (hill n) := by
  obtain ⟨h1, h2, h3⟩ := hill_facts n h
  refine ⟨h1, h2, h3, ?_⟩
  have z := toks_rep (c := 41) (by decide +kernel) [] (9 + n)
  rw [List.append_nil, toks_nil, List.append_nil] at z
  unfold hillT hill
  rw [toks_rep (by decide +kernel), z]
  rw [show cp "(" = [40] by decide +kernel, show cp ")" = [41] by decide +kernel]
theorem hill_low : ∀ n < 4, hill n = grp (nst (8 + n)) := by decide +kernel
theorem hill_deep {gs : List G} (h : ∀ i ≤ 12, nowG gs i = cp "(") : ∀ j ≤ 12, Pr gs (.part (12 - j) (12 - j)) (.err 12 5)
  | 0, _ => .deep (h 12 (Nat.le_refl _))
  | j + 1, hj => by
    have z := hill_deep h j (by omega)
    have e : 12 - j = 12 - (j + 1) + 1 := by omega
    rw [e] at z
    refine .tup (h _ (by omega)) (by omega) ?_ (.sE z)
    rw [h _ (by omega)]
    decide +kernel
theorem hill_high : ∀ n < 6, 4 ≤ n → ∀ i < 13, nowG (hill n) i = cp "(" := by decide +kernel
def nestD (n : Nat) : PyData := if 9 + n ≤ 12 then .tuple [.str (Str.ofString "value"), nst (8 + n)] else errD 12 5
theorem hill_due {n : Nat} (h : n < 6) : ∀ res, Whole (hill n) res → nestD n = resT false res := by
  unfold nestD
  by_cases c : 9 + n ≤ 12
  · rw [if_pos c, hill_low n (by omega)]
    exact whole_due (d := nst (8 + n)) (by rw [(nst_facts n h).1]; exact decide_eq_true c) false
  · rw [if_neg c]
    intro res hr
    have z := hill_deep (gs := hill n) (fun i hi => hill_high n h (by omega) i (by omega)) 12 (Nat.le_refl _)
    have w : Whole (hill n) (.err 12 5) := .inl ⟨12, 5, z, rfl⟩
    rw [hr.det w]
    rfl
def toldD (n : Nat) : PyData := if 9 + n ≤ 12 then .tuple [.str (Str.ofString "told")] else thingD
theorem nest_text {n : Nat} (h : n < 6) : TextTo true (toldD n) (nst (8 + n)) := by
  obtain ⟨h1, h2, h3⟩ := nst_facts n h
  unfold TextTo toldD
  rw [h1]
  by_cases c : 9 + n ≤ 12
  · rw [if_pos (decide_eq_true c), if_pos c, if_neg (by omega)]
    rfl
  · rw [if_neg (by rw [decide_eq_false c]; simp), if_neg c]
    rfl
/-! ### wide -/
def wideD (m : Nat) : PyData := .tuple (List.replicate m (.int 0))
theorem wide_thing (m : Nat) : thingB 12 (wideD m) = true := by
  show (List.replicate m (PyData.int 0)).all (thingB 11) = true
  rw [List.all_replicate]
  split
  · rfl
  · decide +kernel
theorem wide_noL (m : Nat) : NoL (wideD m) := .tuple fun d h => by rw [List.eq_of_mem_replicate h]; exact .int _
theorem wide_sz {m : Nat} (h : m ≤ 5000) : SzOk (wideD m) := .tuple (by rw [List.length_replicate, sizeLine_eq]; omega) fun d h => by rw [List.eq_of_mem_replicate h]; exact .int _
theorem wide_grpK : ∀ m, (grpK (List.replicate m (PyData.int 0))).length = 2 * m
  | 0 => rfl
  | m + 1 => by
    rw [List.replicate_succ]
    show (cp "," :: (grp (.int 0) ++ grpK (List.replicate m (PyData.int 0)))).length = _
    rw [List.length_cons, List.length_append, wide_grpK m, show (grp (.int 0)).length = 1 by decide +kernel]
    omega
theorem wide_len {m : Nat} : (grp (wideD (m + 1))).length = 2 * (m + 1) + 1 := by
  unfold wideD
  rw [grp, List.replicate_succ]
  show (cp "(" :: ((grp (.int 0) ++ grpK (List.replicate m (PyData.int 0))) ++ [cp ")"])).length = _
  rw [List.length_cons, List.length_append, List.length_append, wide_grpK m, show (grp (.int 0)).length = 1 by decide +kernel]
  simp only [List.length_cons, List.length_nil]
  omega
def reps (n : Nat) (g : G) : G := (List.replicate n g).flatten
theorem wide_comma : ∀ m, comma (shownAll (List.replicate (m + 1) (PyData.int 0))) = reps m (cp "0, ") ++ cp "0"
  | 0 => by decide +kernel
  | m + 1 => by
    have z := wide_comma m
    rw [List.replicate_succ] at z ⊢
    rw [List.replicate_succ]
    show shown (.int 0) ++ (cp ", " ++ comma (shownAll (PyData.int 0 :: List.replicate m (PyData.int 0)))) = _
    rw [z]
    unfold reps
    rw [List.replicate_succ, List.flatten_cons, show shown (.int 0) = cp "0" by decide +kernel, show cp "0, " = cp "0" ++ cp ", " by decide +kernel]
    simp only [List.append_assoc]
theorem wide_txt (m : Nat) : txt (wideD (m + 1)) = cp "(" ++ reps m (cp "0, ") ++ cp "0)" := by
  rw [txt_shown (wide_thing _)]
  unfold wideD
  rw [shown, wide_comma, show cp "0)" = cp "0" ++ cp ")" by decide +kernel]
  simp only [List.append_assoc]
theorem reps_len (g : G) : ∀ n, (reps n g).length = n * g.length
  | 0 => by simp [reps]
  | n + 1 => by
    have z := reps_len g n
    unfold reps at z ⊢
    rw [List.replicate_succ, List.flatten_cons, List.length_append, z, Nat.succ_mul]
    omega
theorem wide_txtlen (m : Nat) : (txt (wideD (m + 1))).length = 3 * m + 3 := by
  rw [wide_txt, List.length_append, List.length_append, reps_len, show (cp "0, ").length = 3 by decide +kernel, show (cp "(").length = 1 by decide +kernel, show (cp "0)").length = 2 by decide +kernel]
  omega
def wideDue (m : Nat) : PyData := if 2 * (m + 1) + 1 ≤ 4000 then .tuple [.str (Str.ofString "value"), .str (S (cp "(" ++ reps m (cp "0, ") ++ cp "0)"))] else .tuple [.str (Str.ofString "size"), .str (Str.ofString "text")]
theorem wide_text (m : Nat) : TextTo false (wideDue m) (wideD (m + 1)) := by
  unfold TextTo wideDue
  rw [if_pos (wide_thing _), wide_len, wide_txt]
  by_cases c : 2 * (m + 1) + 1 ≤ 4000
  · rw [if_pos c, if_neg (by omega)]
    rfl
  · rw [if_neg c, if_pos (by omega)]
/-! ### the last lines -/
theorem reads_non {d : PyData} (h : ∀ s, d ≠ .str s) (told : Bool) : ReadsTo told (errD (-1) 0) d := by
  cases d with
  | str s => exact absurd rfl (h s)
  | _ => rfl
theorem empty_cuts : Cuts [] [] := ⟨by decide, rfl, by decide, toks_nil⟩
theorem empty_due (told : Bool) : ∀ res, Whole [] res → errD 0 4 = resT told res := fun res hr => by
  have z : Pr [] (.part 0 0) (.err 0 (wy [] 0 4)) := .no rfl rfl (by decide +kernel) (by decide +kernel)
  have w : Whole [] (.err 0 4) := .inl ⟨0, 4, z, rfl⟩
  rw [hr.det w]
  rfl
def m0 : List G := [cp "(", cp "-", cp "0", cp ")"]
theorem m0_tk : ∀ g ∈ m0, Tk g := by
  intro g h
  simp only [m0, List.mem_cons, List.not_mem_nil, or_false] at h
  rcases h with rfl | rfl | rfl | rfl
  · exact tk_lp
  · exact tk_mi
  · exact tk_fig (by decide +kernel) (by decide +kernel) (by decide +kernel)
  · exact tk_rp
theorem m0_cuts : Cuts (cp "(-0)") m0 := by
  refine ⟨by decide +kernel, by decide +kernel, by decide +kernel, ?_⟩
  have z := toks_wr m0 (cp "(") fun g hg => (m0_tk g hg).1
  rw [show wr (cp "(") m0 = cp "(-0)" by decide +kernel] at z
  exact z
theorem m0_due (told : Bool) : ∀ res, Whole m0 res → valD told (.tuple [.int 0]) = resT told res := fun res hr => by
  have z1 : Pr m0 (.part 1 1) (.ok (.int (-valG (cp "0"))) 3) := .neg (gs := m0) (a := 1) (by decide +kernel) (by decide +kernel) (by decide +kernel)
  have z2 : Pr m0 (.after 3 1 ([] ++ [.int (-valG (cp "0"))])) (.ok (.tuple ([] ++ [.int (-valG (cp "0"))])) 4) := .aE (by decide +kernel)
  have z := Pr.tup (gs := m0) (a := 0) (deep := 0) (by decide +kernel) (by decide) (by decide +kernel) (.sO z1 z2)
  have w : Whole m0 (.ok (.tuple [.int (-valG (cp "0"))]) 4) := .inr (.inr ⟨_, 4, z, by decide +kernel, rfl⟩)
  rw [hr.det w]
  rw [show -valG (cp "0") = 0 by decide +kernel]
  rfl
end K85

set_option Elab.async false
set_option linter.all false
set_option maxRecDepth 100000
set_option maxHeartbeats 1000000
namespace K85
open PySem PySem.Spec PyProof.Rows L2 LamX Ey
/-! ### how deep what is read is -/
theorem dep_word (k : Nat) (g : G) : depB k (word g) = true := by
  unfold word
  split <;> cases k <;> rfl
theorem dep_int (k : Nat) (i : Int) : depB k (.int i) = true := by cases k <;> rfl
theorem Pr.dep {gs : List G} {m : Mode} {r : Res} (h : Pr gs m r) : ∀ d b, r = .ok d b → (match m with
    | .part _ dq => dq ≤ 12 → depB (12 - dq) d = true
    | .seq _ dq t => dq ≤ 12 → t.all (depB (12 - dq)) = true → depB (12 - dq + 1) d = true
    | .after _ dq t => dq ≤ 12 → t.all (depB (12 - dq)) = true → depB (12 - dq + 1) d = true) := by
  induction h with
  | nameL => intro d b e; cases e
  | name => intro d b e _; cases e; exact dep_word _ _
  | numL => intro d b e; cases e
  | num => intro d b e _; cases e; exact dep_int _ _
  | negN => intro d b e; cases e
  | negL => intro d b e; cases e
  | neg => intro d b e _; cases e; exact dep_int _ _
  | no => intro d b e; cases e
  | deep => intro d b e; cases e
  | @nil a deep _ hd _ =>
    intro d b e hk
    cases e
    obtain ⟨k, hk⟩ : ∃ k, 12 - deep = k + 1 := ⟨11 - deep, by omega⟩
    show depB (12 - deep) _ = true
    rw [hk]
    rfl
  | @tup a deep r _ hd _ _ ih =>
    intro d b e hk
    have z := ih d b e (by omega) rfl
    rw [show 12 - (deep + 1) + 1 = 12 - deep by omega] at z
    exact z
  | sE => intro d b e; cases e
  | sO _ _ ih1 ih2 =>
    intro d b e hk ht
    refine ih2 d b e hk ?_
    rw [List.all_append, ht]
    show (true && (depB _ _ && true)) = true
    rw [ih1 _ _ rfl hk]
    rfl
  | aC _ _ ih => intro d b e hk ht; exact ih d b e hk ht
  | aE => intro d b e hk ht; cases e; exact ht
  | aN => intro d b e; cases e
mutual
theorem dep_up : ∀ (d : PyData) (k m : Nat), depB k d = true → k ≤ m → depB m d = true
  | .none, k, m, h, l => by cases m <;> rfl
  | .str s, k, m, h, l => by cases m <;> rfl
  | .int i, k, m, h, l => dep_int _ _
  | .tuple ds, 0, m, h, l => by cases h
  | .tuple ds, k + 1, 0, h, l => by omega
  | .tuple ds, k + 1, m + 1, h, l => dep_upA ds k m h (by omega)
  | .bool b, k, m, h, l => by cases m <;> rfl
  | .list b, k, m, h, l => by cases m <;> rfl
  | .dict b, k, m, h, l => by cases m <;> rfl
theorem dep_upA : ∀ (ds : List PyData) (k m : Nat), ds.all (depB k) = true → k ≤ m → ds.all (depB m) = true
  | [], k, m, h, l => rfl
  | d :: ds, k, m, h, l => by
    simp only [List.all_cons, Bool.and_eq_true] at h ⊢
    exact ⟨dep_up d k m h.1 l, dep_upA ds k m h.2 l⟩
end
theorem dep_val {d : PyData} (h : depB 12 d = true) : depB 20 (.tuple [.str (Str.ofString "value"), d]) = true := by
  show (true && (depB 19 d && true)) = true
  rw [dep_up d 12 19 h (by omega)]
  rfl
theorem noL_val {d : PyData} (h : NoL d) (s : Str) : NoL (.tuple [.str s, d]) := .tuple fun x hx => by
  simp only [List.mem_cons, List.not_mem_nil, or_false] at hx
  rcases hx with rfl | rfl
  · exact .str _
  · exact h
theorem noL_err (b y : Int) : NoL (errD b y) := .tuple fun x hx => by
  simp only [List.mem_cons, List.not_mem_nil, or_false] at hx
  rcases hx with rfl | rfl | rfl
  · exact .str _
  · exact .int _
  · exact .int _
theorem dep_err (b y : Int) : depB 20 (errD b y) = true := rfl
/-- what is due of groups -/
theorem due_of (gs : List G) : ∃ due, (∀ res, Whole gs res → due = resT false res) ∧ NoL due ∧ depB 20 due = true := by
  obtain ⟨due, h1, h2⟩ := one_due gs false
  refine ⟨due, h1, ?_⟩
  have err : ∀ b y, due = errD b y → NoL due ∧ depB 20 due = true := fun b y e => by
    rw [e]
    exact ⟨noL_err b y, dep_err b y⟩
  rcases h2 with ⟨res, hr⟩ | h2
  · have e := h1 res hr
    rcases hr with ⟨b, y, p, rfl⟩ | ⟨d, b, p, c, rfl⟩ | ⟨d, b, p, c, rfl⟩
    · exact err _ _ e
    · exact err _ _ e
    · have n := p.noLp
      have z := p.dep d b rfl (by omega)
      have e : due = .tuple [.str (Str.ofString "value"), d] := e
      rw [e]
      exact ⟨noL_val n _, dep_val z⟩
  · exact err _ _ h2
theorem resT_D (res : Res) : resT false res = resD res := by cases res <;> rfl
/-! ### other groups -/
def oddS : List String := ["(", ")", ",", "-", ":", "0", "00", "12345", "a", "none", "abcdefghijklm"]
theorem odd_tk : ∀ s ∈ oddS, Tk (cp s) := by
  intro s h
  simp only [oddS, List.mem_cons, List.not_mem_nil, or_false] at h
  rcases h with rfl | rfl | rfl | rfl | rfl | rfl | rfl | rfl | rfl | rfl | rfl
  · exact tk_lp
  · exact tk_rp
  · exact tk_co
  · exact tk_mi
  · exact tk_cl
  · exact tk_fig (by decide +kernel) (by decide +kernel) (by decide +kernel)
  · exact tk_fig (by decide +kernel) (by decide +kernel) (by decide +kernel)
  · exact tk_fig (by decide +kernel) (by decide +kernel) (by decide +kernel)
  · exact tk_let (by decide +kernel) (by decide +kernel) (by decide +kernel)
  · exact tk_none
  · exact tk_let (by decide +kernel) (by decide +kernel) (by decide +kernel)
theorem cut_take {xs : List V} {n : Nat} (h : n ≤ xs.length) : cutV xs none (some (n : Int)) = xs.take n := by
  unfold cutV
  rw [HT.sIx_nat, HT.sIx_none, Nat.min_eq_left h]
  rfl
theorem cut_to (xs : List V) (n : Nat) : cutV xs none (some (n : Int)) = xs.take n := by
  by_cases h : n ≤ xs.length
  · exact cut_take h
  · unfold cutV
    rw [HT.sIx_nat, HT.sIx_none, Nat.min_eq_right (by omega), List.take_of_length_le (by omega : xs.length ≤ n)]
    show xs.take _ = xs
    rw [List.take_of_length_le]
    omega
theorem cut_drop {xs : List V} {n : Nat} (h : n ≤ xs.length) : cutV xs (some (n : Int)) none = xs.drop n := by
  unfold cutV
  rw [HT.sIx_nat, HT.sIx_none, Nat.min_eq_left h, List.take_of_length_le]
  rw [List.length_drop]
  exact Nat.le_refl _
/-- others: groups, some odd -/
structure Oth (ot : List G) : Prop where
  tk : ∀ g ∈ ot, Tk g
  len : ot.length ≤ 450
theorem oth_of {gs mid : List G} {n : Nat} (h1 : ∀ g ∈ gs, Tk g) (h2 : gs.length ≤ 400) (h3 : ∀ g ∈ mid, Tk g) (h4 : mid.length ≤ 2) : Oth (gs.take n ++ mid ++ gs.drop (n + 1)) where
  tk := fun g hg => by
    rcases List.mem_append.mp hg with hg | hg
    · rcases List.mem_append.mp hg with hg | hg
      · exact h1 g (List.mem_of_mem_take hg)
      · exact h3 g hg
    · exact h1 g (List.mem_of_mem_drop hg)
  len := by
    simp only [List.length_append, List.length_take, List.length_drop]
    omega
theorem Oth.take {ot : List G} (h : Oth ot) (n : Nat) : Oth (ot.take n) := ⟨fun g hg => h.tk g (List.mem_of_mem_take hg), by rw [List.length_take]; have := h.len; omega⟩
theorem Oth.cuts {ot : List G} (h : Oth ot) : Cuts (TL.joinL (cp " ") ot) ot := join_cuts (by decide +kernel) (by decide +kernel) (by decide +kernel) h.tk (by have := h.len; omega)
theorem Oth.gs {ot : List G} (h : Oth ot) : Gs ot := gs_of h.tk (by have := h.len; omega)
theorem told_ok (n : Nat) : NoL (toldD n) ∧ depB 20 (toldD n) = true := by
  unfold toldD
  split
  · exact ⟨.tuple fun x hx => by rw [List.mem_singleton.mp hx]; exact .str _, rfl⟩
  · exact ⟨noL_val (.int _) _, rfl⟩
theorem nest_ok {n : Nat} (h : n < 6) : NoL (nestD n) ∧ depB 20 (nestD n) = true := by
  have f := nst_facts n h
  unfold nestD
  split
  · rename_i c
    have t : thingB 12 (nst (8 + n)) = true := by rw [f.1]; exact decide_eq_true c
    exact ⟨noL_val (nst_noL _) _, dep_val (th_up _ 12 12 t (Nat.le_refl _)).2⟩
  · exact ⟨noL_err _ _, rfl⟩
theorem wide_ok (m : Nat) : NoL (wideDue m) ∧ depB 20 (wideDue m) = true := by
  unfold wideDue
  split
  · exact ⟨noL_val (.str _) _, rfl⟩
  · exact ⟨noL_val (.str _) _, rfl⟩
theorem flat1 (c : Nat) : ∀ n, (List.replicate n [c]).flatten = List.replicate n c
  | 0 => rfl
  | n + 1 => by rw [List.replicate_succ, List.flatten_cons, flat1 c n]; rfl
theorem rep_S (n : Nat) (s : String) : (⟨((List.replicate n (Str.ofString s).cps.toList).flatten).toArray⟩ : Str) = S (reps n (cp s)) := by
  rw [of_cp, S_cps]
  rfl
theorem hill_txt (n : Nat) : reps (9 + n) (cp "(") ++ reps (9 + n) (cp ")") = hillT n := by
  unfold reps hillT
  rw [show cp "(" = [40] by decide +kernel, show cp ")" = [41] by decide +kernel, flat1, flat1]
theorem txt_len {d : PyData} (h : thingB 12 d = true) : (txt d).length ≤ 14 * (grp d).length := wr_len (m := 13) (grp d) (cp "(") fun g hg => (grp_tk d 12 h g hg).2
end K85

set_option Elab.async false
set_option linter.all false
set_option maxRecDepth 100000
set_option maxHeartbeats 4000000
set_option pp.maxSteps 700
set_option pp.deepTerms false
namespace K85
open PySem PySem.Spec PyProof.Rows L2 LamX Ey Clo
variable {P : Program} {w : World} {K : PySem.W.Frag} {mg : Str → Option Value} {base : Heap}
def rRepS : R2 := fun x y H Q => ∃ z n, x = .str z ∧ y = .int n ∧ 0 ≤ n ∧ n < 2 ^ 30 ∧ z.length * n.toNat ≤ sizeLine ∧ z.length < 2 ^ 30 ∧ Q (.str ⟨((List.replicate n.toNat z.cps.toList).flatten).toArray⟩) H
def rAddS : R2 := fun x y H Q => ∃ a b, x = .str a ∧ y = .str b ∧ a.length + b.length ≤ sizeLine ∧ Q (.str (a ++ b)) H
def rJoinS (K : PySem.W.Frag) : V → List V → Hp → VK → Prop := fun x xs H Q => ∃ a p, ∃ ys : List Str, x = .str a ∧ xs = [.ref p] ∧ (SqL K H p (ys.map V.str) ∨ SqT K H p (ys.map V.str)) ∧
    (ys.map (·.length)).sum + ys.length * a.length ≤ 16777216 ∧ Q (.str (Txt.join a ys)) H
def teJoin (K : PySem.W.Frag) : TE := tBM K "str" (rJoinS K) (tC (.str (Str.ofString " "))) (tCons (tVar 9) tNil)
def teHill : TE := tOp rAddS (tOp rRepS (tC (.str (Str.ofString "("))) (tVar 12)) (tOp rRepS (tC (.str (Str.ofString ")"))) (tVar 12))
def sp_law (K : PySem.W.Frag) (tb : List (Addr × Str)) : Sp := fun vs H Q _ => ∃ (a : Addr) (ns : List Int), vs = [.ref a] ∧ SqL K H a (ns.map V.int) ∧ ns.length ≤ 63 ∧ Tabs tb H ∧ ∀ H', Q (.bl true) H'
theorem Box.extN {H H' : Hp} {b : Addr} (h : Box H b) (e : ExtN H H') : Box H' b := by
  obtain ⟨r, st, rs, h1, h2, h3⟩ := h
  exact ⟨r, st, rs, e _ _ h1 (fun _ z => by cases z), e _ _ h2 (fun _ z => by cases z), h3⟩
theorem BTo.tabs {tb : List (Addr × Str)} {H H' : Hp} {b : Addr} (e : BTo b H H') (h : Box H b) (t : Tabs tb H) : Tabs tb H' := fun p hp => by
  obtain ⟨r, st, rs, h1, _⟩ := h
  obtain ⟨ps, q1, q2, q3⟩ := t p hp
  refine ⟨ps, e.ex _ _ (fun z => by rw [z, h1] at q1; cases q1) q1, q2, fun pos cv hc => ?_⟩
  obtain ⟨c, r1, r2⟩ := q3 pos cv hc
  exact ⟨c, r1, e.ex _ _ (fun z => by rw [z, h1] at r2; exact absurd (Option.some.inj r2) (by unfold CodeO; intro y; cases y)) r2⟩
theorem BTo.dp {H H' : Hp} {b : Addr} {v : V} {d : PyData} (e : BTo b H H') (h : Box H b) (n : NoL d) (hd : Dp K H v d) : Dp K H' v d := Dp.tex (h.tex e.ex) _ _ n hd
theorem BTo.lst {H H' : Hp} {b l : Addr} {xs : List V} (e : BTo b H H') (hn : l ≠ b) (hl : H l = some (.lst xs)) : H' l = some (.lst xs) := e.ex _ _ hn hl
theorem texto_of {H : Hp} {Q : VK} {E : XK} {d : PyData} (g : Good d) (hq : ∀ H', Same H H' → Q (vS (shown d)) H') : TextO K H Q E d := by
  unfold TextO
  rw [if_pos g.thing, if_neg (by have := g.len; omega), g.shown]
  exact hq
theorem Good.tsz {d : PyData} (g : Good d) : thingB 12 d = true → (grp d).length ≤ sizeLine ∧ ((grp d).length ≤ 4000 → (txt d).length ≤ sizeLine) := fun _ => ⟨by rw [sizeLine_eq]; have := g.len; omega, fun _ => by rw [sizeLine_eq]; have := g.txtlen; omega⟩
theorem Good.ssz {d : PyData} (g : Good d) : (K85.shown d).length ≤ 16000000 := by rw [← g.shown]; have := g.txtlen; omega
theorem Cuts.sz {t : G} {gs : List G} (c : Cuts t gs) : ∀ s, PyData.str (S t) = .str s → s.length ≤ sizeLine := fun s e => by
  cases e
  exact c.szl
theorem cutg_of {H : Hp} {Q : VK} {E : XK} {d : PyData} {t : G} (c : Cuts t (grp d)) (g : Good d) (hq : ∀ v H', Same H H' → Dp K H' v d → Q v H') : CutG K E H (fun gs => ∀ res, Whole gs res → OutT K H Q E res) (.str (S t)) :=
  c.cutG fun res hr => by
    rw [hr.det (whole_grp g.thing)]
    exact hq
theorem join_S (sep : G) : ∀ gs : List G, Txt.join (S sep) (gs.map S) = S (TL.joinL sep gs) := fun gs => by
  rw [TL.join_eq]
  induction gs with
  | nil => rfl
  | cons g r ih =>
    cases r with
    | nil => rfl
    | cons h r =>
      show S g ++ S sep ++ Str.join (S sep) ((h :: r).map S) = S (g ++ (sep ++ TL.joinL sep (h :: r)))
      rw [ih, S_app, S_app, List.append_assoc]
theorem sum_S {m : Nat} : ∀ gs : List G, (∀ g ∈ gs, g.length ≤ m) → ((gs.map S).map (·.length)).sum ≤ m * gs.length
  | [], _ => Nat.zero_le _
  | g :: r, h => by
    have z := sum_S r fun x hx => h x (List.mem_cons_of_mem _ hx)
    have q := h g (List.mem_cons_self ..)
    simp only [List.map_cons, List.sum_cons, List.length_cons, S_len, Nat.mul_add, Nat.mul_one] at z ⊢
    omega
theorem strs_of (gs : List G) : gs.map vS = (gs.map S).map V.str := by rw [List.map_map]; rfl
theorem join_sz {gs : List G} {s : String} (ht : ∀ g ∈ gs, g.length ≤ 13) (hn : gs.length ≤ 500) (hs : (cp s).length ≤ 2) : ((gs.map S).map (·.length)).sum + (gs.map S).length * (Str.ofString s).length ≤ 16777216 := by
  have z := sum_S gs ht
  rw [of_cp, S_len, List.length_map]
  have q : gs.length * (cp s).length ≤ gs.length * 2 := Nat.mul_le_mul_left _ hs
  omega
theorem join_cp (s : String) (gs : List G) : Txt.join (Str.ofString s) (gs.map S) = S (TL.joinL (cp s) gs) := by rw [of_cp, join_S]
theorem lst_strs {H : Hp} {l : Addr} {gs : List G} (h : H l = some (.lst (gs.map vS))) : SqL K H l ((gs.map S).map V.str) := SqL.of (by rw [← strs_of]; exact h)
/-- a lambda handed to a def, told so that it stays whole -/
structure LA (P : Program) (w : World) (K : PySem.W.Frag) (mg : Str → Option Value) (base : Heap) (tb : List (Addr × Str)) (sp : Sp) (tbody : XK → TE) (σ : L2.St) (H : Hp) (Q : VK) : Prop where
  run : tLamArg P w K mg base 20 tb sp tbody σ H Q
theorem pe_la {X : Cx} {e : Expr} {P : Program} {w : World} {K : PySem.W.Frag} {mg : Str → Option Value} {base : Heap} {tb : List (Addr × Str)} {sp : Sp} {tbody : XK → TE} (h : PE X e (tLamArg P w K mg base 20 tb sp tbody)) : PE X e (LA P w K mg base tb sp tbody) :=
  ⟨fun pins s σ H Q I q => h.run pins s σ H Q I q.run⟩
theorem la_ans {tb : List (Addr × Str)} {tbody : XK → TE} {σ : L2.St} {H : Hp} {Q : VK} (due : PyData) (ho : Outc K tbody σ H false due) (hn : NoL due) (hT : Tabs tb H) (hQ : ∀ v H', ExtN H H' → Tabs tb H' → Dp K H' v due → Q v H') : LA P w K mg base tb (sp_lanswer P w K mg base tb 21) tbody σ H Q := ⟨t_ans ho hn hT hQ⟩
theorem la_err {tb : List (Addr × Str)} {tbody : XK → TE} {σ : L2.St} {H : Hp} {Q : VK} (due : PyData) (ho : Outc K tbody σ H true due) (hT : Tabs tb H) (hQ : ∀ v H', ExtN H H' → Tabs tb H' → Dp K H' v due → Q v H') : LA P w K mg base tb (sp_lerror P w K mg base 21) tbody σ H Q := ⟨t_err ho hT hQ⟩
theorem m0_whole : Whole m0 (.ok (.tuple [.int 0]) 4) := by
  have z1 : Pr m0 (.part 1 1) (.ok (.int (-valG (cp "0"))) 3) := .neg (gs := m0) (a := 1) (by decide +kernel) (by decide +kernel) (by decide +kernel)
  have z2 : Pr m0 (.after 3 1 ([] ++ [.int (-valG (cp "0"))])) (.ok (.tuple ([] ++ [.int (-valG (cp "0"))])) 4) := .aE (by decide +kernel)
  have z := Pr.tup (gs := m0) (a := 0) (deep := 0) (by decide +kernel) (by decide) (by decide +kernel) (.sO z1 z2)
  rw [show -valG (cp "0") = 0 by decide +kernel] at z
  exact .inr (.inr ⟨_, 4, z, by decide +kernel, rfl⟩)
theorem rep_flat : ∀ n, (List.replicate n [V.int 0]).flatten = List.replicate n (V.int 0)
  | 0 => rfl
  | n + 1 => by rw [List.replicate_succ, List.flatten_cons, rep_flat n]; rfl
theorem rep_all {H : Hp} : ∀ n, DpAll K H (List.replicate n (V.int 0)) (List.replicate n (.int 0))
  | 0 => .nil
  | n + 1 => .cons (.int 0) (rep_all n)
theorem rep_dp {H : Hp} {p : Addr} {n : Nat} (h : H p = some (.tup (List.replicate n [V.int 0]).flatten)) : Dp K H (.ref p) (wideD n) := .tup (SqT.of h) (by rw [rep_flat]; exact rep_all n)
theorem hill_te {σ : L2.St} {H : Hp} {Q : VK} {h0 : Nat} (hs : σ[12]? = some (some (.int (9 + (h0 : Int))))) (hh : h0 < 6) (hq : Q (vS (hillT h0)) H) : teHill σ H Q := by
  have l1 : (Str.ofString "(").length = 1 := by decide +kernel
  have l2 : (Str.ofString ")").length = 1 := by decide +kernel
  have tn : (9 + (h0 : Int)).toNat = 9 + h0 := by omega
  refine ⟨_, hs, _, _, rfl, rfl, by omega, by omega, by rw [l1, tn, sizeLine_eq]; omega, by rw [l1]; decide, _, hs, _, _, rfl, rfl, by omega, by omega, by rw [l2, tn, sizeLine_eq]; omega, by rw [l2]; decide, _, _, rfl, rfl, ?_, ?_⟩
  · rw [rep_S, rep_S, tn, S_len, S_len, reps_len, reps_len, sizeLine_eq, show (cp "(").length = 1 by decide +kernel, show (cp ")").length = 1 by decide +kernel]
    omega
  · rw [rep_S, rep_S, tn, S_app, hill_txt]
    exact hq
theorem ok_law (T : T P K mg) {tb : List (Addr × Str)} (B : Tb K mg base tb) : FnOk P w K mg base C8.CX0 25 (He.ga K "law") (fdAt K d_law) ["script"] (sp_law K tb) := by
  have ok__law_thing := fun (T : K85.T P K mg) => ok__law_thing (w := w) (base := base) T 5
  have ok__law_is := fun (T : K85.T P K mg) => ok__law_is (w := w) (base := base) T 21
  have ok__law_groups := fun (T : K85.T P K mg) => ok__law_groups (w := w) (base := base) T 13
  have ok__law_shown := fun (T : K85.T P K mg) => ok__law_shown (w := w) (base := base) T 13
  have ok__law_answer := fun (T : K85.T P K mg) => ok__law_answer (w := w) (base := base) T B 21
  have ok__law_error := fun (T : K85.T P K mg) => ok__law_error (w := w) (base := base) T 21
  refine Ey.okC T.f_law sc_law (fun vs H Q E h => ?_) (fun A outer s H vs Q E hr h => ⟨_, PSs.nox (pss_cons
(ps_set (i := 1) sc_law.nd rfl (.inl rfl) (pe_call (ok__law_box T) (hr.mono (by first | decide | omega | (simp only [Nat.add_eq]; omega))) rfl T.g__law_box T.f__law_box.kp (bn__law_box T.f__law_box) .nil (C8.pass0 (E := C8.E0)) (pa_cons (pv 0) pa_nil)))
(pss_cons
(ps_for PassesOwn.never rfl (pi_range1 (by rfl) T.b_range (pa_cons pe_int pa_nil)) (pg_name (i := 2) sc_law.nd rfl (.inl rfl)) (pss_cons
(ps_set (i := 3) sc_law.nd rfl (.inl rfl) (pe_call (ok__law_thing T) (hr.mono (by first | decide | omega | (simp only [Nat.add_eq]; omega))) rfl T.g__law_thing T.f__law_thing.kp (bn__law_thing T.f__law_thing) .nil (C8.pass0 (E := C8.E0)) (pa_cons (pv 1) (pa_cons (pe_call (ok__law_pick T) (hr.mono (by first | decide | omega | (simp only [Nat.add_eq]; omega))) rfl T.g__law_pick T.f__law_pick.kp (bn__law_pick T.f__law_pick) .nil (C8.pass0 (E := C8.E0)) (pa_cons (pv 1) (pa_cons (pe_lst (pa_cons pe_int (pa_cons pe_int (pa_cons pe_int pa_nil)))) pa_nil))) pa_nil))))
(pss_cons
(ps_if (PW.pt (pw_or (pt_not (pt_val (pe_call (ok__law_is T) (hr.mono (by first | decide | omega | (simp only [Nat.add_eq]; omega))) rfl T.g__law_is T.f__law_is.kp (bn__law_is T.f__law_is) .nil (C8.pass0 (E := C8.E0)) (pa_cons (pe_call (ok_is_thing T) (hr.mono (by first | decide | omega | (simp only [Nat.add_eq]; omega))) rfl T.g_is_thing T.f_is_thing.kp (bn_is_thing T.f_is_thing) .nil (C8.pass0 (E := C8.E0)) (pa_cons (pv 3) pa_nil)) (pa_cons pe_bl pa_nil))))) (pw_or (pt_not (pt_val (pe_call (ok__law_is T) (hr.mono (by first | decide | omega | (simp only [Nat.add_eq]; omega))) rfl T.g__law_is T.f__law_is.kp (bn__law_is T.f__law_is) .nil (C8.pass0 (E := C8.E0)) (pa_cons (pe_call (ok_thing_text T) (hr.mono (by first | decide | omega | (simp only [Nat.add_eq]; omega))) rfl T.g_thing_text T.f_thing_text.kp (bn_thing_text T.f_thing_text) .nil Ey.passF (pa_cons (pv 3) pa_nil)) (pa_cons (pe_call (ok__law_shown T) (hr.mono (by first | decide | omega | (simp only [Nat.add_eq]; omega))) rfl T.g__law_shown T.f__law_shown.kp (bn__law_shown T.f__law_shown) .nil (C8.pass0 (E := C8.E0)) (pa_cons (pv 3) pa_nil)) pa_nil))))) (pw_or1 (pt_not (pt_val (pe_call (ok__law_is T) (hr.mono (by first | decide | omega | (simp only [Nat.add_eq]; omega))) rfl T.g__law_is T.f__law_is.kp (bn__law_is T.f__law_is) .nil (C8.pass0 (E := C8.E0)) (pa_cons (pe_call (ok_read_thing T) (hr.mono (by first | decide | omega | (simp only [Nat.add_eq]; omega))) rfl T.g_read_thing T.f_read_thing.kp (bn_read_thing T.f_read_thing) .nil Ey.passF (pa_cons (pe_call (ok__law_shown T) (hr.mono (by first | decide | omega | (simp only [Nat.add_eq]; omega))) rfl T.g__law_shown T.f__law_shown.kp (bn__law_shown T.f__law_shown) .nil (C8.pass0 (E := C8.E0)) (pa_cons (pv 3) pa_nil)) pa_nil)) (pa_cons (pv 3) pa_nil))))))))) (pss_one
(ps_ret pe_bl)) pss_nil)
(pss_cons
(ps_set (i := 4) sc_law.nd rfl (.inl rfl) (pe_call (ok__law_groups T) (hr.mono (by first | decide | omega | (simp only [Nat.add_eq]; omega))) rfl T.g__law_groups T.f__law_groups.kp (bn__law_groups T.f__law_groups) .nil (C8.pass0 (E := C8.E0)) (pa_cons (pv 3) pa_nil)))
(pss_cons
(ps_if (PW.pt (pw_or (pt_not (pt_val (pe_call (ok__law_is T) (hr.mono (by first | decide | omega | (simp only [Nat.add_eq]; omega))) rfl T.g__law_is T.f__law_is.kp (bn__law_is T.f__law_is) .nil (C8.pass0 (E := C8.E0)) (pa_cons (Ey.pe_callN0 (ok_read_thing T) (hr.mono (by first | decide | omega | (simp only [Nat.add_eq]; omega))) rfl T.g_read_thing T.f_read_thing.kp (kb_read_thing T.f_read_thing) Ey.passF (pk_cons (pe_bm PySem.F.plainAttrs_str PySem.F.slot_str_join PySem.F.type_str_join mt_join pe_str (pa_cons (pv 4) pa_nil)) pk_nil)) (pa_cons (pv 3) pa_nil))))) (pw_or1 (pt_not (pt_val (pe_call (ok__law_is T) (hr.mono (by first | decide | omega | (simp only [Nat.add_eq]; omega))) rfl T.g__law_is T.f__law_is.kp (bn__law_is T.f__law_is) .nil (C8.pass0 (E := C8.E0)) (pa_cons (Ey.pe_callN0 (ok_thing_text T) (hr.mono (by first | decide | omega | (simp only [Nat.add_eq]; omega))) rfl T.g_thing_text T.f_thing_text.kp (kb_thing_text T.f_thing_text) Ey.passF (pk_cons (pv 3) pk_nil)) (pa_cons (pe_call (ok__law_shown T) (hr.mono (by first | decide | omega | (simp only [Nat.add_eq]; omega))) rfl T.g__law_shown T.f__law_shown.kp (bn__law_shown T.f__law_shown) .nil (C8.pass0 (E := C8.E0)) (pa_cons (pv 3) pa_nil)) pa_nil)))))))) (pss_one
(ps_ret pe_bl)) pss_nil)
(pss_cons
(ps_for PassesOwn.never rfl (pi_range1 (by rfl) T.b_range (pa_cons pe_int pa_nil)) (pg_name (i := 5) sc_law.nd rfl (.inl rfl)) (pss_cons
(ps_par (i := 6) (j := 7) (by rfl) sc_law.nd rfl rfl (by decide) rfl rfl (pa_cons (pe_call (ok__law_take T) (hr.mono (by first | decide | omega | (simp only [Nat.add_eq]; omega))) rfl T.g__law_take T.f__law_take.kp (bn__law_take T.f__law_take) .nil (C8.pass0 (E := C8.E0)) (pa_cons (pv 1) (pa_cons (pe_callB call_len_seq (by rfl) T.b_len (by decide +kernel) (pa_cons (pv 4) pa_nil)) pa_nil))) (pa_cons (pe_call (ok__law_take T) (hr.mono (by first | decide | omega | (simp only [Nat.add_eq]; omega))) rfl T.g__law_take T.f__law_take.kp (bn__law_take T.f__law_take) .nil (C8.pass0 (E := C8.E0)) (pa_cons (pv 1) (pa_cons pe_int pa_nil))) pa_nil)) (by rfl))
(pss_cons
(ps_set (i := 8) sc_law.nd rfl (.inl rfl) (pe_call (ok__law_pick T) (hr.mono (by first | decide | omega | (simp only [Nat.add_eq]; omega))) rfl T.g__law_pick T.f__law_pick.kp (bn__law_pick T.f__law_pick) .nil (C8.pass0 (E := C8.E0)) (pa_cons (pv 1) (pa_cons (pe_lst (pa_cons pe_str (pa_cons pe_str (pa_cons pe_str (pa_cons pe_str (pa_cons pe_str (pa_cons pe_str (pa_cons pe_str (pa_cons pe_str (pa_cons pe_str (pa_cons pe_str (pa_cons pe_str pa_nil)))))))))))) pa_nil))))
(pss_cons
(ps_set (i := 9) sc_law.nd rfl (.inr rfl) (pe_op op_cat (pe_op op_cat (pe_slice sl_list (pv 4) po_none (po_some (pv 6))) (pe_ifExp (pt_cmpR op_eq (pv 7) pe_int (nomark _)) (pe_lst pa_nil) (pe_ifExp (pt_cmpR op_eq (pv 7) pe_int (nomark _)) (pe_lst (pa_cons (pv 8) (pa_cons (pe_ix ix_list (pv 4) (pv 6) (fun _ _ => rfl)) pa_nil))) (pe_lst (pa_cons (pv 8) pa_nil))))) (pe_slice sl_list (pv 4) (po_some (pe_op op_add (pv 6) pe_int)) po_none)))
(pss_cons
(ps_set (i := 9) sc_law.nd rfl (.inr rfl) (pe_ifExp (PW.pt (pw_and (pt_cmpR op_eq (pv 7) pe_int (nomark _)) (pw_and1 (pt_cmpR op_eq (pe_call (ok__law_take T) (hr.mono (by first | decide | omega | (simp only [Nat.add_eq]; omega))) rfl T.g__law_take T.f__law_take.kp (bn__law_take T.f__law_take) .nil (C8.pass0 (E := C8.E0)) (pa_cons (pv 1) (pa_cons pe_int pa_nil))) pe_int (nomark _))))) (pe_slice sl_list (pv 9) po_none (po_some (pv 6))) (pv 9)))
(pss_one
(ps_if (pt_not (pt_val (pe_call (ok__law_is T) (hr.mono (by first | decide | omega | (simp only [Nat.add_eq]; omega))) rfl T.g__law_is T.f__law_is.kp (bn__law_is T.f__law_is) .nil (C8.pass0 (E := C8.E0)) (pa_cons (pe_la <| Clo.pe_lamarg (k := 20) (tb := fun E => tRd K (teJoin K) E) rfl T.g__law_answer T.f__law_answer.kp (ok__law_answer T) (bn__law_answer T.f__law_answer) B.b2 rfl (by exact B.m2) (by exact B.u2) (hr.mono (by first | decide | omega | (simp only [Nat.add_eq]; omega))) (lamS_by (sc := d_law.scope) (by decide +kernel)) rfl (fun _ _ _ _ _ => rfl) (fun _ _ _ => rfl) (fun A outer s H E f c' hr2 => show PE _ _ (tRd K (teJoin K) E) from (pe_call (ok_read_thing T) (hr2.mono (by first | decide | omega | (simp only [Nat.add_eq]; omega))) rfl T.g_read_thing T.f_read_thing.kp (bn_read_thing T.f_read_thing) .nil (passes_call rT (fun _ _ _ _ h => h)) (pa_cons (pe_bm PySem.F.plainAttrs_str PySem.F.slot_str_join PySem.F.type_str_join mt_join pe_str (pa_cons (pv 9) pa_nil)) pa_nil)))) (pa_cons (pe_call (ok__law_read T) (hr.mono (by first | decide | omega | (simp only [Nat.add_eq]; omega))) rfl T.g__law_read T.f__law_read.kp (bn__law_read T.f__law_read) .nil (C8.pass0 (E := C8.E0)) (pa_cons (pv 9) pa_nil)) pa_nil))))) (pss_one
(ps_ret pe_bl)) pss_nil)))))))
(pss_one
(ps_for PassesOwn.never rfl (pi_list (pe_lst (pa_cons pe_int (pa_cons (pe_un un_neg pe_int) (pa_cons pe_bl (pa_cons pe_str (pa_cons pe_str (pa_cons pe_str (pa_cons pe_str (pa_cons pe_str (pa_cons (pe_lst (pa_cons (pv 3) pa_nil)) (pa_cons (pe_lst pa_nil) (pa_cons pe_str (pa_cons (pe_tup (pa_cons (pv 3) (pa_cons pe_bl pa_nil))) (pa_cons (pe_tup (pa_cons (pe_tup pa_nil) (pa_cons (pe_lst (pa_cons pe_int pa_nil)) pa_nil))) pa_nil))))))))))))))) (pg_name (i := 10) sc_law.nd rfl (.inr rfl)) (pss_one
(ps_if (PW.pt (pw_or (pt_not (pt_val (pe_call (ok__law_is T) (hr.mono (by first | decide | omega | (simp only [Nat.add_eq]; omega))) rfl T.g__law_is T.f__law_is.kp (bn__law_is T.f__law_is) .nil (C8.pass0 (E := C8.E0)) (pa_cons (pe_call (ok_is_thing T) (hr.mono (by first | decide | omega | (simp only [Nat.add_eq]; omega))) rfl T.g_is_thing T.f_is_thing.kp (bn_is_thing T.f_is_thing) .nil (C8.pass0 (E := C8.E0)) (pa_cons (pv 10) pa_nil)) (pa_cons pe_bl pa_nil))))) (pw_or1 (pt_not (pt_val (pe_call (ok__law_is T) (hr.mono (by first | decide | omega | (simp only [Nat.add_eq]; omega))) rfl T.g__law_is T.f__law_is.kp (bn__law_is T.f__law_is) .nil (C8.pass0 (E := C8.E0)) (pa_cons (pe_la <| Clo.pe_lamarg (k := 20) (tb := fun E => tTx K (tVar 10) E) rfl T.g__law_error T.f__law_error.kp (ok__law_error T) (bn__law_error T.f__law_error) B.b2 rfl (by exact B.m2) (by exact B.u2) (hr.mono (by first | decide | omega | (simp only [Nat.add_eq]; omega))) (lamS_by (sc := d_law.scope) (by decide +kernel)) rfl (fun _ _ _ _ _ => rfl) (fun _ _ _ => rfl) (fun A outer s H E f c' hr2 => show PE _ _ (tTx K (tVar 10) E) from (pe_call (ok_thing_text T) (hr2.mono (by first | decide | omega | (simp only [Nat.add_eq]; omega))) rfl T.g_thing_text T.f_thing_text.kp (bn_thing_text T.f_thing_text) .nil (passes_call rT (fun _ _ _ _ h => h)) (pa_cons (pv 10) pa_nil)))) (pa_cons (pe_tup (pa_cons pe_str (pa_cons (pe_un un_neg pe_int) pa_nil))) pa_nil)))))))) (pss_one
(ps_ret pe_bl)) pss_nil))))))))))
(pss_cons
(ps_asg (pe_tup (pa_cons (pe_tup pa_nil) (pa_cons (pe_op op_add pe_int (pe_call (ok__law_take T) (hr.mono (by first | decide | omega | (simp only [Nat.add_eq]; omega))) rfl T.g__law_take T.f__law_take.kp (bn__law_take T.f__law_take) .nil (C8.pass0 (E := C8.E0)) (pa_cons (pv 1) (pa_cons pe_int pa_nil)))) pa_nil))) (pg_tup rfl (pgs_cons (pg_name (i := 11) sc_law.nd rfl (.inr rfl)) (pgs_cons (pg_name (i := 12) sc_law.nd rfl (.inr rfl)) pgs_nil))))
(pss_cons
(ps_for PassesOwn.never rfl (pi_range1 (by rfl) T.b_range (pa_cons (pe_op op_sub (pv 12) pe_int) pa_nil)) (pg_name (i := 2) sc_law.nd rfl (.inl rfl)) (pss_one
(ps_set (i := 11) sc_law.nd rfl (.inr rfl) (pe_tup (pa_cons (pv 11) pa_nil)))))
(pss_cons
(ps_if (PW.pt (pw_or (pt_not (pt_val (pe_call (ok__law_is T) (hr.mono (by first | decide | omega | (simp only [Nat.add_eq]; omega))) rfl T.g__law_is T.f__law_is.kp (bn__law_is T.f__law_is) .nil (C8.pass0 (E := C8.E0)) (pa_cons (Ey.pe_callN0 (ok_is_thing T) (hr.mono (by first | decide | omega | (simp only [Nat.add_eq]; omega))) rfl T.g_is_thing T.f_is_thing.kp (kb_is_thing T.f_is_thing) (C8.pass0 (E := C8.E0)) (pk_cons (pv 11) pk_nil)) (pa_cons (pe_cmpR op_le (pv 12) pe_int (nomark _)) pa_nil))))) (pw_or1 (pt_not (pt_val (pe_call (ok__law_is T) (hr.mono (by first | decide | omega | (simp only [Nat.add_eq]; omega))) rfl T.g__law_is T.f__law_is.kp (bn__law_is T.f__law_is) .nil (C8.pass0 (E := C8.E0)) (pa_cons (pe_la <| Clo.pe_lamarg (k := 20) (tb := fun E => tTx K (tVar 11) E) rfl T.g__law_error T.f__law_error.kp (ok__law_error T) (bn__law_error T.f__law_error) B.b2 rfl (by exact B.m2) (by exact B.u2) (hr.mono (by first | decide | omega | (simp only [Nat.add_eq]; omega))) (lamS_by (sc := d_law.scope) (by decide +kernel)) rfl (fun _ _ _ _ _ => rfl) (fun _ _ _ => rfl) (fun A outer s H E f c' hr2 => show PE _ _ (tTx K (tVar 11) E) from (pe_call (ok_thing_text T) (hr2.mono (by first | decide | omega | (simp only [Nat.add_eq]; omega))) rfl T.g_thing_text T.f_thing_text.kp (bn_thing_text T.f_thing_text) .nil (passes_call rT (fun _ _ _ _ h => h)) (pa_cons (pv 11) pa_nil)))) (pa_cons (pe_ifExp (pt_cmpR op_le (pv 12) pe_int (nomark _)) (pe_tup (pa_cons pe_str pa_nil)) (pe_tup (pa_cons pe_str (pa_cons (pe_un un_neg pe_int) pa_nil)))) pa_nil)))))))) (pss_one
(ps_ret pe_bl)) pss_nil)
(pss_cons
(ps_if (pt_not (pt_val (pe_call (ok__law_is T) (hr.mono (by first | decide | omega | (simp only [Nat.add_eq]; omega))) rfl T.g__law_is T.f__law_is.kp (bn__law_is T.f__law_is) .nil (C8.pass0 (E := C8.E0)) (pa_cons (pe_la <| Clo.pe_lamarg (k := 20) (tb := fun E => tRd K teHill E) rfl T.g__law_answer T.f__law_answer.kp (ok__law_answer T) (bn__law_answer T.f__law_answer) B.b2 rfl (by exact B.m2) (by exact B.u2) (hr.mono (by first | decide | omega | (simp only [Nat.add_eq]; omega))) (lamS_by (sc := d_law.scope) (by decide +kernel)) rfl (fun _ _ _ _ _ => rfl) (fun _ _ _ => rfl) (fun A outer s H E f c' hr2 => show PE _ _ (tRd K teHill E) from (pe_call (ok_read_thing T) (hr2.mono (by first | decide | omega | (simp only [Nat.add_eq]; omega))) rfl T.g_read_thing T.f_read_thing.kp (bn_read_thing T.f_read_thing) .nil (passes_call rT (fun _ _ _ _ h => h)) (pa_cons (pe_op op_add_str (pe_op Ey.op_repS pe_str (pv 12)) (pe_op Ey.op_repS pe_str (pv 12))) pa_nil)))) (pa_cons (pe_ifExp (pt_cmpR op_le (pv 12) pe_int (nomark _)) (pe_tup (pa_cons pe_str (pa_cons (pv 11) pa_nil))) (pe_tup (pa_cons pe_str (pa_cons pe_int (pa_cons pe_int pa_nil))))) pa_nil))))) (pss_one
(ps_ret pe_bl)) pss_nil)
(pss_cons
(ps_set (i := 13) sc_law.nd rfl (.inl rfl) (pe_op op_add pe_int (pe_call (ok__law_take T) (hr.mono (by first | decide | omega | (simp only [Nat.add_eq]; omega))) rfl T.g__law_take T.f__law_take.kp (bn__law_take T.f__law_take) .nil (C8.pass0 (E := C8.E0)) (pa_cons (pv 1) (pa_cons pe_int pa_nil)))))
(pss_cons
(ps_set (i := 14) sc_law.nd rfl (.inr rfl) (pe_callTy call_tuple_of (by rfl) T.b_tuple (by decide +kernel) (pa_cons (pe_op op_rep (pe_lst (pa_cons pe_int pa_nil)) (pv 13)) pa_nil)))
(pss_cons
(ps_set (i := 15) sc_law.nd rfl (.inl rfl) (pe_ifExp (pt_cmpR op_le (pe_op op_add (pe_op op_mul pe_int (pv 13)) pe_int) pe_int (nomark _)) (pe_tup (pa_cons pe_str (pa_cons (pe_op op_add_str (pe_op op_add_str pe_str (pe_op Ey.op_repS pe_str (pe_op op_sub (pv 13) pe_int))) pe_str) pa_nil))) (pe_tup (pa_cons pe_str (pa_cons pe_str pa_nil)))))
(pss_cons
(ps_if (PW.pt (pw_or (pt_not (pt_val (pe_call (ok__law_is T) (hr.mono (by first | decide | omega | (simp only [Nat.add_eq]; omega))) rfl T.g__law_is T.f__law_is.kp (bn__law_is T.f__law_is) .nil (C8.pass0 (E := C8.E0)) (pa_cons (pe_la <| Clo.pe_lamarg (k := 20) (tb := fun E => tTx K (tVar 14) E) rfl T.g__law_answer T.f__law_answer.kp (ok__law_answer T) (bn__law_answer T.f__law_answer) B.b2 rfl (by exact B.m2) (by exact B.u2) (hr.mono (by first | decide | omega | (simp only [Nat.add_eq]; omega))) (lamS_by (sc := d_law.scope) (by decide +kernel)) rfl (fun _ _ _ _ _ => rfl) (fun _ _ _ => rfl) (fun A outer s H E f c' hr2 => show PE _ _ (tTx K (tVar 14) E) from (pe_call (ok_thing_text T) (hr2.mono (by first | decide | omega | (simp only [Nat.add_eq]; omega))) rfl T.g_thing_text T.f_thing_text.kp (bn_thing_text T.f_thing_text) .nil (passes_call rT (fun _ _ _ _ h => h)) (pa_cons (pv 14) pa_nil)))) (pa_cons (pv 15) pa_nil))))) (pw_or1 (pt_not (pt_val (pe_call (ok__law_is T) (hr.mono (by first | decide | omega | (simp only [Nat.add_eq]; omega))) rfl T.g__law_is T.f__law_is.kp (bn__law_is T.f__law_is) .nil (C8.pass0 (E := C8.E0)) (pa_cons (pe_call (ok_is_thing T) (hr.mono (by first | decide | omega | (simp only [Nat.add_eq]; omega))) rfl T.g_is_thing T.f_is_thing.kp (bn_is_thing T.f_is_thing) .nil (C8.pass0 (E := C8.E0)) (pa_cons (pv 14) pa_nil)) (pa_cons pe_bl pa_nil)))))))) (pss_one
(ps_ret pe_bl)) pss_nil)
(pss_cons
(ps_for PassesOwn.never rfl (pi_list (pe_lst (pa_cons pe_non (pa_cons pe_int (pa_cons pe_bl (pa_cons (pe_tup (pa_cons pe_str pa_nil)) pa_nil)))))) (pg_name (i := 10) sc_law.nd rfl (.inr rfl)) (pss_one
(ps_if (pt_not (pt_val (pe_call (ok__law_is T) (hr.mono (by first | decide | omega | (simp only [Nat.add_eq]; omega))) rfl T.g__law_is T.f__law_is.kp (bn__law_is T.f__law_is) .nil (C8.pass0 (E := C8.E0)) (pa_cons (pe_la <| Clo.pe_lamarg (k := 20) (tb := fun E => tRd K (tVar 10) E) rfl T.g__law_error T.f__law_error.kp (ok__law_error T) (bn__law_error T.f__law_error) B.b2 rfl (by exact B.m2) (by exact B.u2) (hr.mono (by first | decide | omega | (simp only [Nat.add_eq]; omega))) (lamS_by (sc := d_law.scope) (by decide +kernel)) rfl (fun _ _ _ _ _ => rfl) (fun _ _ _ => rfl) (fun A outer s H E f c' hr2 => show PE _ _ (tRd K (tVar 10) E) from (pe_call (ok_read_thing T) (hr2.mono (by first | decide | omega | (simp only [Nat.add_eq]; omega))) rfl T.g_read_thing T.f_read_thing.kp (bn_read_thing T.f_read_thing) .nil (passes_call rT (fun _ _ _ _ h => h)) (pa_cons (pv 10) pa_nil)))) (pa_cons (pe_tup (pa_cons pe_str (pa_cons (pe_un un_neg pe_int) (pa_cons pe_int pa_nil)))) pa_nil))))) (pss_one
(ps_ret pe_bl)) pss_nil)))
(pss_one
(ps_ret (pe_and (pe_call (ok__law_is T) (hr.mono (by first | decide | omega | (simp only [Nat.add_eq]; omega))) rfl T.g__law_is T.f__law_is.kp (bn__law_is T.f__law_is) .nil (C8.pass0 (E := C8.E0)) (pa_cons (pe_la <| Clo.pe_lamarg (k := 20) (tb := fun E => tRd K (tC (.str (Str.ofString ""))) E) rfl T.g__law_answer T.f__law_answer.kp (ok__law_answer T) (bn__law_answer T.f__law_answer) B.b2 rfl (by exact B.m2) (by exact B.u2) (hr.mono (by first | decide | omega | (simp only [Nat.add_eq]; omega))) (lamS_by (sc := d_law.scope) (by decide +kernel)) rfl (fun _ _ _ _ _ => rfl) (fun _ _ _ => rfl) (fun A outer s H E f c' hr2 => show PE _ _ (tRd K (tC (.str (Str.ofString ""))) E) from (pe_call (ok_read_thing T) (hr2.mono (by first | decide | omega | (simp only [Nat.add_eq]; omega))) rfl T.g_read_thing T.f_read_thing.kp (bn_read_thing T.f_read_thing) .nil (passes_call rT (fun _ _ _ _ h => h)) (pa_cons pe_str pa_nil)))) (pa_cons (pe_tup (pa_cons pe_str (pa_cons pe_int (pa_cons pe_int pa_nil)))) pa_nil))) (pe_one (pe_call (ok__law_is T) (hr.mono (by first | decide | omega | (simp only [Nat.add_eq]; omega))) rfl T.g__law_is T.f__law_is.kp (bn__law_is T.f__law_is) .nil (C8.pass0 (E := C8.E0)) (pa_cons (pe_call (ok_read_thing T) (hr.mono (by first | decide | omega | (simp only [Nat.add_eq]; omega))) rfl T.g_read_thing T.f_read_thing.kp (bn_read_thing T.f_read_thing) .nil Ey.passF (pa_cons pe_str pa_nil)) (pa_cons (pe_tup (pa_cons pe_int pa_nil)) pa_nil)))))))))))))))))), ?_⟩)
  · obtain ⟨a, ns, rfl, _⟩ := h
    rfl
  · obtain ⟨a, ns, rfl, ha, hl, hT, hQ⟩ := h
    refine ⟨_, rfl, a, ns, rfl, ha, hl, fun H1 b e1 B1 => ?_⟩
    have T1 : Tabs tb H1 := hT.ext e1
    refine ⟨6, rfl, by omega, by omega, ?_⟩
    refine for_range (lo := 0) (n := 6) (fun i σ Hc => Box Hc b ∧ Tabs tb Hc ∧ ∃ x2 x3 x4 x5 x6 x7 x8 x9 x10, σ = [some (.ref a), some (.ref b), x2, x3, x4, x5, x6, x7, x8, x9, x10, none, none, none, none, none]) ⟨B1, T1, _, _, _, _, _, _, _, _, _, rfl⟩ ?_ ?_
    · rintro i σ Hc hi ⟨Bc, Tc, x2, x3, x4, x5, x6, x7, x8, x9, x10, rfl⟩
      refine ⟨_, rfl, _, rfl, len3, fun l nl => ?_⟩
      have e2 := upd_ext (o := .lst ([1, 2, 4].map V.int)) nl
      refine ⟨b, l, [1, 2, 4].map V.int, rfl, Bc.ext e2, upd_same, Bc.ne nl, by decide, by decide, fun x hx H3 e3 => ?_⟩
      obtain ⟨k, hk, rfl⟩ : ∃ k : Nat, (k = 1 ∨ k = 2 ∨ k = 4) ∧ x = .int (k : Int) := by
        simp only [List.map_cons, List.map_nil, List.mem_cons, List.not_mem_nil, or_false] at hx
        rcases hx with rfl | rfl | rfl
        · exact ⟨1, .inl rfl, rfl⟩
        · exact ⟨2, .inr (.inl rfl), rfl⟩
        · exact ⟨4, .inr (.inr rfl), rfl⟩
      have B3 := e3.box
      refine ⟨b, k, rfl, B3, by omega, fun v d H4 hdr hv e4 => ?_⟩
      have g := hdr.good hk
      have B4 := e4.box
      have T4 : Tabs tb H4 := e4.tabs B3 (e3.tabs (Bc.ext e2) (Tc.ext e2))
      refine ⟨_, rfl, v, d, rfl, hv, g.sz, fun H5 e5 => ?_⟩
      have hv5 := Dp.ext e5 _ _ hv
      refine ⟨_, _, .bool true, 20, rfl, by rw [g.thing]; exact .bl _, .bl _, .bool _, rfl, by omega, fun H6 e6 => ⟨_, rfl, if_f rfl ?_⟩⟩
      have hv6 := Dp.ext e6 _ _ hv5
      refine ⟨_, rfl, v, d, rfl, hv6, g.sz, g.tsz, texto_of g fun H7 e7 => ?_⟩
      have hv7 := Dp.ext e7 _ _ hv6
      refine ⟨_, rfl, v, d, 12, rfl, hv7, g.thing, by omega, g.ssz, fun H8 e8 => ?_⟩
      have hv8 := Dp.ext e8 _ _ hv7
      refine ⟨_, _, .str (S (shown d)), 20, rfl, .str _, .str _, .str _, rfl, by omega, fun H9 e9 => ⟨_, rfl, if_f rfl ?_⟩⟩
      have hv9 := Dp.ext e9 _ _ hv8
      refine ⟨_, rfl, v, d, 12, rfl, hv9, g.thing, by omega, g.ssz, fun H10 e10 => ?_⟩
      have hv10 := Dp.ext e10 _ _ hv9
      refine ⟨_, _, rfl, .str _, g.cuts.sz, cutg_of g.cuts g fun v2 H11 e11 hv2 => ?_⟩
      have hv11 := Dp.ext e11 _ _ hv10
      refine ⟨_, rfl, _, _, d, 20, rfl, hv2, hv11, g.noL, g.dep, by omega, fun H12 e12 => ⟨_, rfl, if_f rfl ?_⟩⟩
      have hv12 := Dp.ext e12 _ _ hv11
      refine ⟨_, rfl, v, d, 12, rfl, hv12, g.thing, by omega, by rw [sizeLine_eq]; have := g.len; omega, fun H13 l2 e13 hl2 => ?_⟩
      have hv13 := Dp.ext e13 _ _ hv12
      have E13 := Same.trans e5 (Same.trans e6 (Same.trans e7 (Same.trans e8 (Same.trans e9 (Same.trans e10 (Same.trans e11 (Same.trans e12 e13)))))))
      have htk : ∀ x ∈ grp d, x.length ≤ 13 := fun x hx => (g.tk x hx).2
      have c2 : Cuts (TL.joinL (cp " \n") (grp d)) (grp d) := join_cuts (by decide +kernel) (by decide +kernel) (by decide +kernel) g.tk (by have := g.len; omega)
      refine ⟨rfl, _, rfl, _, l2, (grp d).map S, rfl, rfl, .inl (lst_strs hl2), join_sz htk (by have := g.len; omega) (by decide +kernel), ?_⟩
      rw [join_cp]
      refine ⟨_, _, rfl, .str _, c2.sz, cutg_of c2 g fun v3 H14 e14 hv3 => ?_⟩
      have hv14 := Dp.ext e14 _ _ hv13
      refine ⟨_, rfl, _, _, d, 20, rfl, hv3, hv14, g.noL, g.dep, by omega, fun H15 e15 => ⟨_, rfl, if_f rfl ?_⟩⟩
      have hv15 := Dp.ext e15 _ _ hv14
      refine ⟨_, rfl, v, d, rfl, hv15, g.sz, g.tsz, texto_of g fun H16 e16 => ?_⟩
      have hv16 := Dp.ext e16 _ _ hv15
      refine ⟨_, rfl, v, d, 12, rfl, hv16, g.thing, by omega, g.ssz, fun H17 e17 => ?_⟩
      refine ⟨_, _, .str (S (shown d)), 20, rfl, .str _, .str _, .str _, rfl, by omega, fun H18 e18 => ⟨_, rfl, if_f rfl ?_⟩⟩
      have E18 := Same.trans e14 (Same.trans e15 (Same.trans e16 (Same.trans e17 e18)))
      have hv18 := Dp.ext E18 _ _ hv13
      have hl18 := E18 l2 _ hl2
      have B13 := B4.ext E13
      have B18 := B13.ext E18
      have T18 : Tabs tb H18 := (T4.ext E13).ext E18
      have nl2 : l2 ≠ b := fun z => by
        obtain ⟨r, st, rs, q1, _⟩ := B13
        rw [← z, hl2] at q1
        have q2 := Option.some.inj q1
        have q3 := HO.lst.inj q2
        cases q : grp d with
        | nil => exact grp_ne d g.thing q
        | cons x r =>
          rw [q] at q3
          cases q3
      refine ⟨6, rfl, by omega, by omega, ?_⟩
      refine for_range (lo := 0) (n := 6) (fun j σ Hc => Box Hc b ∧ Tabs tb Hc ∧ Dp K Hc v d ∧ Hc l2 = some (.lst ((grp d).map vS)) ∧ ∃ x5 x6 x7 x8 x9, σ = [some (.ref a), some (.ref b), some (.int (0 + (i : Int))), some v, some (.ref l2), x5, x6, x7, x8, x9, x10, none, none, none, none, none]) ⟨B18, T18, hv18, hl18, _, _, _, _, _, rfl⟩ ?_ ?_
      · rintro j σ Hd hj ⟨Bd, Td, hvd, hld, y5, y6, y7, y8, y9, rfl⟩
        refine ⟨_, rfl, _, rfl, l2, _, rfl, .inl (SqL.of hld), b, ((grp d).map vS).length, rfl, Bd, ?_, ?_, fun n Hw1 hn f1 => ?_⟩
        · rw [List.length_map]
          exact List.length_pos_iff.mpr (grp_ne d g.thing)
        · rw [List.length_map]
          have := g.len
          omega
        have hvw1 := f1.dp Bd g.noL hvd
        have hlw1 := f1.lst nl2 hld
        have Tw1 := f1.tabs Bd Td
        have Bw1 := f1.box
        refine ⟨_, rfl, b, 4, rfl, Bw1, by omega, by omega, fun wy Hw2 hwy f2 => ?_⟩
        have hvw2 := f2.dp Bw1 g.noL hvw1
        have hlw2 := f2.lst nl2 hlw1
        have Tw2 := f2.tabs Bw1 Tw1
        have Bw2 := f2.box
        refine ⟨_, _, rfl, ?_⟩
        refine ⟨_, rfl, by show 11 ≤ sizeLine; rw [sizeLine_eq]; decide, fun l3 nl3 => ?_⟩
        have f3 := upd_ext (o := .lst (oddS.map fun s => V.str (Str.ofString s))) nl3
        refine ⟨b, l3, oddS.map fun s => V.str (Str.ofString s), rfl, Bw2.ext f3, upd_same, Bw2.ne nl3, by decide, by decide, fun x hx Hw3 f4 => ?_⟩
        obtain ⟨so, hso, rfl⟩ := List.mem_map.mp hx
        have hvw3 := f4.dp (Bw2.ext f3) g.noL (Dp.ext f3 _ _ hvw2)
        have hlw3 := f4.lst nl2 (f3 _ _ hlw2)
        have Tw3 := f4.tabs (Bw2.ext f3) (Tw2.ext f3)
        have Bw3 := f4.box
        have hn' : n ≤ ((grp d).map vS).length := Nat.le_of_lt hn
        have ho := odd_tk so hso
        refine ⟨_, rfl, _, rfl, (n : Int), rfl, l2, _, rfl, SqL.of hlw3, fun l4 nl4 => ?_⟩
        rw [cut_take hn']
        have f5 := upd_ext (o := .lst (((grp d).map vS).take n)) nl4
        have hx4 : upd Hw3 l4 (.lst (((grp d).map vS).take n)) l4 = some (.lst (((grp d).map vS).take n)) := upd_same
        generalize upd Hw3 l4 (.lst (((grp d).map vS).take n)) = Hx at f5 hx4 ⊢
        refine ⟨_, rfl, rfl, _, rfl, ?_⟩
        have hlx := f5 l2 _ hlw3
        have two2 : 2 ≤ sizeLine := Nat.le_trans (by decide) len3
        obtain ⟨gn, hgn⟩ : ∃ gn, (grp d)[n]? = some gn := ⟨_, List.getElem?_eq_getElem (by rw [List.length_map] at hn; exact hn)⟩
        have hgx : ((grp d).map vS)[n]? = some (vS gn) := by rw [List.getElem?_map, hgn]; rfl
        have hgt : Tk gn := g.tk gn (List.mem_of_getElem? hgn)
        refine if_b (fun c => ⟨Nat.zero_le _, fun l5 nl5 => ?_⟩) fun c => ⟨_, rfl, rfl, _, rfl, if_b (fun c2 => ⟨_, rfl, _, rfl, _, rfl, l2, _, _, _, rfl, rfl, SqL.of hlx, atI_nat hgx, two2, fun l5 nl5 => ?_⟩) fun c2 => ⟨_, rfl, one_line, fun l5 nl5 => ?_⟩⟩
        · obtain ⟨mid, hmt, hml, em⟩ : ∃ mid : List G, (∀ g ∈ mid, Tk g) ∧ mid.length ≤ 2 ∧ ([] : List V) = mid.map vS := ⟨[], fun _ h => (by cases h), by decide, rfl⟩
          have hm5 : upd Hx l5 (.lst []) l5 = some (.lst (mid.map vS)) := by rw [← em]; exact upd_same
          have f6 := upd_ext (o := .lst []) nl5
          generalize upd Hx l5 (.lst []) = Hm at hm5 f6 ⊢
          have hot : Oth ((grp d).take n ++ mid ++ (grp d).drop (n + 1)) := oth_of g.tk g.len hmt hml
          have hdl := g.len
          refine ⟨l4, l5, _, _, rfl, rfl, f6 _ _ hx4, hm5, by rw [sizeLine_eq]; simp only [List.length_map, List.length_take]; omega, fun l6 nl6 => ?_⟩
          have f7 := upd_ext (o := .lst (((grp d).map vS).take n ++ mid.map vS)) nl6
          have h6 : upd Hm l6 (.lst (((grp d).map vS).take n ++ mid.map vS)) l6 = some (.lst (((grp d).map vS).take n ++ mid.map vS)) := upd_same
          generalize upd Hm l6 (.lst (((grp d).map vS).take n ++ mid.map vS)) = Hn at f7 h6 ⊢
          refine ⟨_, rfl, _, rfl, _, _, rfl, rfl, _, rfl, l2, _, rfl, SqL.of (f7 _ _ (f6 _ _ hlx)), fun l7 nl7 => ?_⟩
          rw [a1, cut_drop (by omega)]
          have f8 := upd_ext (o := .lst (((grp d).map vS).drop (n + 1))) nl7
          refine ⟨l6, l7, _, _, rfl, rfl, f8 _ _ h6, upd_same, by rw [sizeLine_eq]; simp only [List.length_map, List.length_take, List.length_append, List.length_drop]; omega, fun l8 nl8 => ?_⟩
          have nl8b : l8 ≠ b := (Bw3.ext (Same.trans f5 (Same.trans f6 (Same.trans f7 f8)))).ne nl8
          have f9 := upd_ext (o := .lst ((((grp d).map vS).take n ++ mid.map vS) ++ ((grp d).map vS).drop (n + 1))) nl8
          have eot : ((((grp d).map vS).take n ++ mid.map vS) ++ ((grp d).map vS).drop (n + 1)) = ((grp d).take n ++ mid ++ (grp d).drop (n + 1)).map vS := by
            rw [List.map_append, List.map_append, List.map_take, List.map_drop]
          have hl8 : upd (upd Hn l7 (.lst (((grp d).map vS).drop (n + 1)))) l8 (.lst ((((grp d).map vS).take n ++ mid.map vS) ++ ((grp d).map vS).drop (n + 1))) l8 = some (.lst (((grp d).take n ++ mid ++ (grp d).drop (n + 1)).map vS)) := by rw [← eot]; exact upd_same
          have F := Same.trans f5 (Same.trans f6 (Same.trans f7 (Same.trans f8 f9)))
          generalize upd (upd Hn l7 (.lst (((grp d).map vS).drop (n + 1)))) l8 (.lst ((((grp d).map vS).take n ++ mid.map vS) ++ ((grp d).map vS).drop (n + 1))) = Ho at F hl8 ⊢
          generalize (grp d).take n ++ mid ++ (grp d).drop (n + 1) = ot at hot hl8
          have hvo := Dp.ext F _ _ hvw3
          have hlo := F _ _ hlw3
          have To : Tabs tb Ho := Tw3.ext F
          have Bo := Bw3.ext F
          clear f7 f8 f9 h6 hm5 f6 nl7 nl8 eot
          refine ⟨_, rfl, rfl, _, rfl, if_b (fun c3 => ⟨_, rfl, b, 2, rfl, Bo, by omega, by omega, fun m Hp hm f10 => ⟨rfl, _, rfl, if_b (fun c4 => ⟨_, rfl, _, rfl, _, rfl, l8, _, rfl, SqL.of (f10.lst nl8b hl8), fun l9 nl9 => ?_⟩) fun c4 => ⟨_, rfl, ?_⟩⟩⟩) fun c3 => ⟨_, rfl, ?_⟩⟩
          · rw [cut_to, ← List.map_take]
            have hoq := hot.take n
            have f11 := upd_ext (o := .lst ((ot.take n).map vS)) nl9
            have hlq : upd Hp l9 (.lst ((ot.take n).map vS)) l9 = some (.lst ((ot.take n).map vS)) := upd_same
            have Bq := f10.box.ext f11
            have Tq : Tabs tb _ := (f10.tabs Bo To).ext f11
            have hvq := Dp.ext f11 _ _ (f10.dp Bo g.noL hvo)
            have hl2q := f11 _ _ (f10.lst nl2 hlo)
            generalize upd Hp l9 (.lst ((ot.take n).map vS)) = Hq at hlq Bq Tq hvq hl2q ⊢
            generalize ot.take n = oq at hoq hlq
            obtain ⟨due, hdue, hdn, hdd⟩ := due_of oq
            refine la_ans due (out_read (td := .str (S (TL.joinL (cp " ") oq))) (fun H20 Q' e20 hq => ?_) hoq.cuts.sz (hoq.cuts.reads hdue)) hdn Tq fun va H20 e20 T20 hva => ?_
            · refine ⟨rfl, _, rfl, _, l9, oq.map S, rfl, rfl, .inl (lst_strs (e20 _ _ hlq (fun _ z => by cases z))), join_sz (fun x hx => (hoq.tk x hx).2) (by have := hoq.len; omega) (by decide +kernel), ?_⟩
              rw [join_cp]
              exact hq _ _ (Same.refl _) (.str _)
            · refine ⟨_, rfl, l9, oq, rfl, e20 _ _ hlq (fun _ z => by cases z), hoq.gs, fun res hres H21 vr e21 hvr => ?_⟩
              refine ⟨_, _, due, 20, rfl, Dp.ext e21 _ _ hva, (by rw [hdue res hres, resT_D]; exact hvr), hdn, hdd, by omega, fun H22 e22 => ⟨_, rfl, if_f rfl ?_⟩⟩
              have e23 := Same.trans e21 e22
              exact ⟨(Bq.extN e20).ext e23, T20.ext e23, Dp.ext e23 _ _ (Dp.extN e20 _ _ hvq), e23 _ _ (e20 _ _ hl2q (fun _ z => by cases z)), _, _, _, _, _, rfl⟩
          · have hoq := hot
            have hlq := f10.lst nl8b hl8
            have Bq := f10.box
            have Tq : Tabs tb _ := f10.tabs Bo To
            have hvq := f10.dp Bo g.noL hvo
            have hl2q := f10.lst nl2 hlo
            obtain ⟨due, hdue, hdn, hdd⟩ := due_of ot
            refine la_ans due (out_read (td := .str (S (TL.joinL (cp " ") ot))) (fun H20 Q' e20 hq => ?_) hoq.cuts.sz (hoq.cuts.reads hdue)) hdn Tq fun va H20 e20 T20 hva => ?_
            · refine ⟨rfl, _, rfl, _, l8, ot.map S, rfl, rfl, .inl (lst_strs (e20 _ _ hlq (fun _ z => by cases z))), join_sz (fun x hx => (hoq.tk x hx).2) (by have := hoq.len; omega) (by decide +kernel), ?_⟩
              rw [join_cp]
              exact hq _ _ (Same.refl _) (.str _)
            · refine ⟨_, rfl, l8, ot, rfl, e20 _ _ hlq (fun _ z => by cases z), hoq.gs, fun res hres H21 vr e21 hvr => ?_⟩
              refine ⟨_, _, due, 20, rfl, Dp.ext e21 _ _ hva, (by rw [hdue res hres, resT_D]; exact hvr), hdn, hdd, by omega, fun H22 e22 => ⟨_, rfl, if_f rfl ?_⟩⟩
              have e23 := Same.trans e21 e22
              exact ⟨(Bq.extN e20).ext e23, T20.ext e23, Dp.ext e23 _ _ (Dp.extN e20 _ _ hvq), e23 _ _ (e20 _ _ hl2q (fun _ z => by cases z)), _, _, _, _, _, rfl⟩
          · have hoq := hot
            have hlq := hl8
            have Bq := Bo
            have Tq : Tabs tb _ := To
            have hvq := hvo
            have hl2q := hlo
            obtain ⟨due, hdue, hdn, hdd⟩ := due_of ot
            refine la_ans due (out_read (td := .str (S (TL.joinL (cp " ") ot))) (fun H20 Q' e20 hq => ?_) hoq.cuts.sz (hoq.cuts.reads hdue)) hdn Tq fun va H20 e20 T20 hva => ?_
            · refine ⟨rfl, _, rfl, _, l8, ot.map S, rfl, rfl, .inl (lst_strs (e20 _ _ hlq (fun _ z => by cases z))), join_sz (fun x hx => (hoq.tk x hx).2) (by have := hoq.len; omega) (by decide +kernel), ?_⟩
              rw [join_cp]
              exact hq _ _ (Same.refl _) (.str _)
            · refine ⟨_, rfl, l8, ot, rfl, e20 _ _ hlq (fun _ z => by cases z), hoq.gs, fun res hres H21 vr e21 hvr => ?_⟩
              refine ⟨_, _, due, 20, rfl, Dp.ext e21 _ _ hva, (by rw [hdue res hres, resT_D]; exact hvr), hdn, hdd, by omega, fun H22 e22 => ⟨_, rfl, if_f rfl ?_⟩⟩
              have e23 := Same.trans e21 e22
              exact ⟨(Bq.extN e20).ext e23, T20.ext e23, Dp.ext e23 _ _ (Dp.extN e20 _ _ hvq), e23 _ _ (e20 _ _ hl2q (fun _ z => by cases z)), _, _, _, _, _, rfl⟩
        · obtain ⟨mid, hmt, hml, em⟩ : ∃ mid : List G, (∀ g ∈ mid, Tk g) ∧ mid.length ≤ 2 ∧ [V.str (Str.ofString so), vS gn] = mid.map vS := ⟨[cp so, gn], fun x hx => (by
            simp only [List.mem_cons, List.not_mem_nil, or_false] at hx
            rcases hx with rfl | rfl
            · exact ho
            · exact hgt), by simp, by rw [of_cp]; rfl⟩
          have hm5 : upd Hx l5 (.lst [V.str (Str.ofString so), vS gn]) l5 = some (.lst (mid.map vS)) := by rw [← em]; exact upd_same
          have f6 := upd_ext (o := .lst [V.str (Str.ofString so), vS gn]) nl5
          generalize upd Hx l5 (.lst [V.str (Str.ofString so), vS gn]) = Hm at hm5 f6 ⊢
          have hot : Oth ((grp d).take n ++ mid ++ (grp d).drop (n + 1)) := oth_of g.tk g.len hmt hml
          have hdl := g.len
          refine ⟨l4, l5, _, _, rfl, rfl, f6 _ _ hx4, hm5, by rw [sizeLine_eq]; simp only [List.length_map, List.length_take]; omega, fun l6 nl6 => ?_⟩
          have f7 := upd_ext (o := .lst (((grp d).map vS).take n ++ mid.map vS)) nl6
          have h6 : upd Hm l6 (.lst (((grp d).map vS).take n ++ mid.map vS)) l6 = some (.lst (((grp d).map vS).take n ++ mid.map vS)) := upd_same
          generalize upd Hm l6 (.lst (((grp d).map vS).take n ++ mid.map vS)) = Hn at f7 h6 ⊢
          refine ⟨_, rfl, _, rfl, _, _, rfl, rfl, _, rfl, l2, _, rfl, SqL.of (f7 _ _ (f6 _ _ hlx)), fun l7 nl7 => ?_⟩
          rw [a1, cut_drop (by omega)]
          have f8 := upd_ext (o := .lst (((grp d).map vS).drop (n + 1))) nl7
          refine ⟨l6, l7, _, _, rfl, rfl, f8 _ _ h6, upd_same, by rw [sizeLine_eq]; simp only [List.length_map, List.length_take, List.length_append, List.length_drop]; omega, fun l8 nl8 => ?_⟩
          have nl8b : l8 ≠ b := (Bw3.ext (Same.trans f5 (Same.trans f6 (Same.trans f7 f8)))).ne nl8
          have f9 := upd_ext (o := .lst ((((grp d).map vS).take n ++ mid.map vS) ++ ((grp d).map vS).drop (n + 1))) nl8
          have eot : ((((grp d).map vS).take n ++ mid.map vS) ++ ((grp d).map vS).drop (n + 1)) = ((grp d).take n ++ mid ++ (grp d).drop (n + 1)).map vS := by
            rw [List.map_append, List.map_append, List.map_take, List.map_drop]
          have hl8 : upd (upd Hn l7 (.lst (((grp d).map vS).drop (n + 1)))) l8 (.lst ((((grp d).map vS).take n ++ mid.map vS) ++ ((grp d).map vS).drop (n + 1))) l8 = some (.lst (((grp d).take n ++ mid ++ (grp d).drop (n + 1)).map vS)) := by rw [← eot]; exact upd_same
          have F := Same.trans f5 (Same.trans f6 (Same.trans f7 (Same.trans f8 f9)))
          generalize upd (upd Hn l7 (.lst (((grp d).map vS).drop (n + 1)))) l8 (.lst ((((grp d).map vS).take n ++ mid.map vS) ++ ((grp d).map vS).drop (n + 1))) = Ho at F hl8 ⊢
          generalize (grp d).take n ++ mid ++ (grp d).drop (n + 1) = ot at hot hl8
          have hvo := Dp.ext F _ _ hvw3
          have hlo := F _ _ hlw3
          have To : Tabs tb Ho := Tw3.ext F
          have Bo := Bw3.ext F
          clear f7 f8 f9 h6 hm5 f6 nl7 nl8 eot
          refine ⟨_, rfl, rfl, _, rfl, if_b (fun c3 => ⟨_, rfl, b, 2, rfl, Bo, by omega, by omega, fun m Hp hm f10 => ⟨rfl, _, rfl, if_b (fun c4 => ⟨_, rfl, _, rfl, _, rfl, l8, _, rfl, SqL.of (f10.lst nl8b hl8), fun l9 nl9 => ?_⟩) fun c4 => ⟨_, rfl, ?_⟩⟩⟩) fun c3 => ⟨_, rfl, ?_⟩⟩
          · rw [cut_to, ← List.map_take]
            have hoq := hot.take n
            have f11 := upd_ext (o := .lst ((ot.take n).map vS)) nl9
            have hlq : upd Hp l9 (.lst ((ot.take n).map vS)) l9 = some (.lst ((ot.take n).map vS)) := upd_same
            have Bq := f10.box.ext f11
            have Tq : Tabs tb _ := (f10.tabs Bo To).ext f11
            have hvq := Dp.ext f11 _ _ (f10.dp Bo g.noL hvo)
            have hl2q := f11 _ _ (f10.lst nl2 hlo)
            generalize upd Hp l9 (.lst ((ot.take n).map vS)) = Hq at hlq Bq Tq hvq hl2q ⊢
            generalize ot.take n = oq at hoq hlq
            obtain ⟨due, hdue, hdn, hdd⟩ := due_of oq
            refine la_ans due (out_read (td := .str (S (TL.joinL (cp " ") oq))) (fun H20 Q' e20 hq => ?_) hoq.cuts.sz (hoq.cuts.reads hdue)) hdn Tq fun va H20 e20 T20 hva => ?_
            · refine ⟨rfl, _, rfl, _, l9, oq.map S, rfl, rfl, .inl (lst_strs (e20 _ _ hlq (fun _ z => by cases z))), join_sz (fun x hx => (hoq.tk x hx).2) (by have := hoq.len; omega) (by decide +kernel), ?_⟩
              rw [join_cp]
              exact hq _ _ (Same.refl _) (.str _)
            · refine ⟨_, rfl, l9, oq, rfl, e20 _ _ hlq (fun _ z => by cases z), hoq.gs, fun res hres H21 vr e21 hvr => ?_⟩
              refine ⟨_, _, due, 20, rfl, Dp.ext e21 _ _ hva, (by rw [hdue res hres, resT_D]; exact hvr), hdn, hdd, by omega, fun H22 e22 => ⟨_, rfl, if_f rfl ?_⟩⟩
              have e23 := Same.trans e21 e22
              exact ⟨(Bq.extN e20).ext e23, T20.ext e23, Dp.ext e23 _ _ (Dp.extN e20 _ _ hvq), e23 _ _ (e20 _ _ hl2q (fun _ z => by cases z)), _, _, _, _, _, rfl⟩
          · have hoq := hot
            have hlq := f10.lst nl8b hl8
            have Bq := f10.box
            have Tq : Tabs tb _ := f10.tabs Bo To
            have hvq := f10.dp Bo g.noL hvo
            have hl2q := f10.lst nl2 hlo
            obtain ⟨due, hdue, hdn, hdd⟩ := due_of ot
            refine la_ans due (out_read (td := .str (S (TL.joinL (cp " ") ot))) (fun H20 Q' e20 hq => ?_) hoq.cuts.sz (hoq.cuts.reads hdue)) hdn Tq fun va H20 e20 T20 hva => ?_
            · refine ⟨rfl, _, rfl, _, l8, ot.map S, rfl, rfl, .inl (lst_strs (e20 _ _ hlq (fun _ z => by cases z))), join_sz (fun x hx => (hoq.tk x hx).2) (by have := hoq.len; omega) (by decide +kernel), ?_⟩
              rw [join_cp]
              exact hq _ _ (Same.refl _) (.str _)
            · refine ⟨_, rfl, l8, ot, rfl, e20 _ _ hlq (fun _ z => by cases z), hoq.gs, fun res hres H21 vr e21 hvr => ?_⟩
              refine ⟨_, _, due, 20, rfl, Dp.ext e21 _ _ hva, (by rw [hdue res hres, resT_D]; exact hvr), hdn, hdd, by omega, fun H22 e22 => ⟨_, rfl, if_f rfl ?_⟩⟩
              have e23 := Same.trans e21 e22
              exact ⟨(Bq.extN e20).ext e23, T20.ext e23, Dp.ext e23 _ _ (Dp.extN e20 _ _ hvq), e23 _ _ (e20 _ _ hl2q (fun _ z => by cases z)), _, _, _, _, _, rfl⟩
          · have hoq := hot
            have hlq := hl8
            have Bq := Bo
            have Tq : Tabs tb _ := To
            have hvq := hvo
            have hl2q := hlo
            obtain ⟨due, hdue, hdn, hdd⟩ := due_of ot
            refine la_ans due (out_read (td := .str (S (TL.joinL (cp " ") ot))) (fun H20 Q' e20 hq => ?_) hoq.cuts.sz (hoq.cuts.reads hdue)) hdn Tq fun va H20 e20 T20 hva => ?_
            · refine ⟨rfl, _, rfl, _, l8, ot.map S, rfl, rfl, .inl (lst_strs (e20 _ _ hlq (fun _ z => by cases z))), join_sz (fun x hx => (hoq.tk x hx).2) (by have := hoq.len; omega) (by decide +kernel), ?_⟩
              rw [join_cp]
              exact hq _ _ (Same.refl _) (.str _)
            · refine ⟨_, rfl, l8, ot, rfl, e20 _ _ hlq (fun _ z => by cases z), hoq.gs, fun res hres H21 vr e21 hvr => ?_⟩
              refine ⟨_, _, due, 20, rfl, Dp.ext e21 _ _ hva, (by rw [hdue res hres, resT_D]; exact hvr), hdn, hdd, by omega, fun H22 e22 => ⟨_, rfl, if_f rfl ?_⟩⟩
              have e23 := Same.trans e21 e22
              exact ⟨(Bq.extN e20).ext e23, T20.ext e23, Dp.ext e23 _ _ (Dp.extN e20 _ _ hvq), e23 _ _ (e20 _ _ hl2q (fun _ z => by cases z)), _, _, _, _, _, rfl⟩
        · obtain ⟨mid, hmt, hml, em⟩ : ∃ mid : List G, (∀ g ∈ mid, Tk g) ∧ mid.length ≤ 2 ∧ [V.str (Str.ofString so)] = mid.map vS := ⟨[cp so], fun x hx => (by
            rw [List.mem_singleton.mp hx]
            exact ho), by simp, by rw [of_cp]; rfl⟩
          have hm5 : upd Hx l5 (.lst [V.str (Str.ofString so)]) l5 = some (.lst (mid.map vS)) := by rw [← em]; exact upd_same
          have f6 := upd_ext (o := .lst [V.str (Str.ofString so)]) nl5
          generalize upd Hx l5 (.lst [V.str (Str.ofString so)]) = Hm at hm5 f6 ⊢
          have hot : Oth ((grp d).take n ++ mid ++ (grp d).drop (n + 1)) := oth_of g.tk g.len hmt hml
          have hdl := g.len
          refine ⟨l4, l5, _, _, rfl, rfl, f6 _ _ hx4, hm5, by rw [sizeLine_eq]; simp only [List.length_map, List.length_take]; omega, fun l6 nl6 => ?_⟩
          have f7 := upd_ext (o := .lst (((grp d).map vS).take n ++ mid.map vS)) nl6
          have h6 : upd Hm l6 (.lst (((grp d).map vS).take n ++ mid.map vS)) l6 = some (.lst (((grp d).map vS).take n ++ mid.map vS)) := upd_same
          generalize upd Hm l6 (.lst (((grp d).map vS).take n ++ mid.map vS)) = Hn at f7 h6 ⊢
          refine ⟨_, rfl, _, rfl, _, _, rfl, rfl, _, rfl, l2, _, rfl, SqL.of (f7 _ _ (f6 _ _ hlx)), fun l7 nl7 => ?_⟩
          rw [a1, cut_drop (by omega)]
          have f8 := upd_ext (o := .lst (((grp d).map vS).drop (n + 1))) nl7
          refine ⟨l6, l7, _, _, rfl, rfl, f8 _ _ h6, upd_same, by rw [sizeLine_eq]; simp only [List.length_map, List.length_take, List.length_append, List.length_drop]; omega, fun l8 nl8 => ?_⟩
          have nl8b : l8 ≠ b := (Bw3.ext (Same.trans f5 (Same.trans f6 (Same.trans f7 f8)))).ne nl8
          have f9 := upd_ext (o := .lst ((((grp d).map vS).take n ++ mid.map vS) ++ ((grp d).map vS).drop (n + 1))) nl8
          have eot : ((((grp d).map vS).take n ++ mid.map vS) ++ ((grp d).map vS).drop (n + 1)) = ((grp d).take n ++ mid ++ (grp d).drop (n + 1)).map vS := by
            rw [List.map_append, List.map_append, List.map_take, List.map_drop]
          have hl8 : upd (upd Hn l7 (.lst (((grp d).map vS).drop (n + 1)))) l8 (.lst ((((grp d).map vS).take n ++ mid.map vS) ++ ((grp d).map vS).drop (n + 1))) l8 = some (.lst (((grp d).take n ++ mid ++ (grp d).drop (n + 1)).map vS)) := by rw [← eot]; exact upd_same
          have F := Same.trans f5 (Same.trans f6 (Same.trans f7 (Same.trans f8 f9)))
          generalize upd (upd Hn l7 (.lst (((grp d).map vS).drop (n + 1)))) l8 (.lst ((((grp d).map vS).take n ++ mid.map vS) ++ ((grp d).map vS).drop (n + 1))) = Ho at F hl8 ⊢
          generalize (grp d).take n ++ mid ++ (grp d).drop (n + 1) = ot at hot hl8
          have hvo := Dp.ext F _ _ hvw3
          have hlo := F _ _ hlw3
          have To : Tabs tb Ho := Tw3.ext F
          have Bo := Bw3.ext F
          clear f7 f8 f9 h6 hm5 f6 nl7 nl8 eot
          refine ⟨_, rfl, rfl, _, rfl, if_b (fun c3 => ⟨_, rfl, b, 2, rfl, Bo, by omega, by omega, fun m Hp hm f10 => ⟨rfl, _, rfl, if_b (fun c4 => ⟨_, rfl, _, rfl, _, rfl, l8, _, rfl, SqL.of (f10.lst nl8b hl8), fun l9 nl9 => ?_⟩) fun c4 => ⟨_, rfl, ?_⟩⟩⟩) fun c3 => ⟨_, rfl, ?_⟩⟩
          · rw [cut_to, ← List.map_take]
            have hoq := hot.take n
            have f11 := upd_ext (o := .lst ((ot.take n).map vS)) nl9
            have hlq : upd Hp l9 (.lst ((ot.take n).map vS)) l9 = some (.lst ((ot.take n).map vS)) := upd_same
            have Bq := f10.box.ext f11
            have Tq : Tabs tb _ := (f10.tabs Bo To).ext f11
            have hvq := Dp.ext f11 _ _ (f10.dp Bo g.noL hvo)
            have hl2q := f11 _ _ (f10.lst nl2 hlo)
            generalize upd Hp l9 (.lst ((ot.take n).map vS)) = Hq at hlq Bq Tq hvq hl2q ⊢
            generalize ot.take n = oq at hoq hlq
            obtain ⟨due, hdue, hdn, hdd⟩ := due_of oq
            refine la_ans due (out_read (td := .str (S (TL.joinL (cp " ") oq))) (fun H20 Q' e20 hq => ?_) hoq.cuts.sz (hoq.cuts.reads hdue)) hdn Tq fun va H20 e20 T20 hva => ?_
            · refine ⟨rfl, _, rfl, _, l9, oq.map S, rfl, rfl, .inl (lst_strs (e20 _ _ hlq (fun _ z => by cases z))), join_sz (fun x hx => (hoq.tk x hx).2) (by have := hoq.len; omega) (by decide +kernel), ?_⟩
              rw [join_cp]
              exact hq _ _ (Same.refl _) (.str _)
            · refine ⟨_, rfl, l9, oq, rfl, e20 _ _ hlq (fun _ z => by cases z), hoq.gs, fun res hres H21 vr e21 hvr => ?_⟩
              refine ⟨_, _, due, 20, rfl, Dp.ext e21 _ _ hva, (by rw [hdue res hres, resT_D]; exact hvr), hdn, hdd, by omega, fun H22 e22 => ⟨_, rfl, if_f rfl ?_⟩⟩
              have e23 := Same.trans e21 e22
              exact ⟨(Bq.extN e20).ext e23, T20.ext e23, Dp.ext e23 _ _ (Dp.extN e20 _ _ hvq), e23 _ _ (e20 _ _ hl2q (fun _ z => by cases z)), _, _, _, _, _, rfl⟩
          · have hoq := hot
            have hlq := f10.lst nl8b hl8
            have Bq := f10.box
            have Tq : Tabs tb _ := f10.tabs Bo To
            have hvq := f10.dp Bo g.noL hvo
            have hl2q := f10.lst nl2 hlo
            obtain ⟨due, hdue, hdn, hdd⟩ := due_of ot
            refine la_ans due (out_read (td := .str (S (TL.joinL (cp " ") ot))) (fun H20 Q' e20 hq => ?_) hoq.cuts.sz (hoq.cuts.reads hdue)) hdn Tq fun va H20 e20 T20 hva => ?_
            · refine ⟨rfl, _, rfl, _, l8, ot.map S, rfl, rfl, .inl (lst_strs (e20 _ _ hlq (fun _ z => by cases z))), join_sz (fun x hx => (hoq.tk x hx).2) (by have := hoq.len; omega) (by decide +kernel), ?_⟩
              rw [join_cp]
              exact hq _ _ (Same.refl _) (.str _)
            · refine ⟨_, rfl, l8, ot, rfl, e20 _ _ hlq (fun _ z => by cases z), hoq.gs, fun res hres H21 vr e21 hvr => ?_⟩
              refine ⟨_, _, due, 20, rfl, Dp.ext e21 _ _ hva, (by rw [hdue res hres, resT_D]; exact hvr), hdn, hdd, by omega, fun H22 e22 => ⟨_, rfl, if_f rfl ?_⟩⟩
              have e23 := Same.trans e21 e22
              exact ⟨(Bq.extN e20).ext e23, T20.ext e23, Dp.ext e23 _ _ (Dp.extN e20 _ _ hvq), e23 _ _ (e20 _ _ hl2q (fun _ z => by cases z)), _, _, _, _, _, rfl⟩
          · have hoq := hot
            have hlq := hl8
            have Bq := Bo
            have Tq : Tabs tb _ := To
            have hvq := hvo
            have hl2q := hlo
            obtain ⟨due, hdue, hdn, hdd⟩ := due_of ot
            refine la_ans due (out_read (td := .str (S (TL.joinL (cp " ") ot))) (fun H20 Q' e20 hq => ?_) hoq.cuts.sz (hoq.cuts.reads hdue)) hdn Tq fun va H20 e20 T20 hva => ?_
            · refine ⟨rfl, _, rfl, _, l8, ot.map S, rfl, rfl, .inl (lst_strs (e20 _ _ hlq (fun _ z => by cases z))), join_sz (fun x hx => (hoq.tk x hx).2) (by have := hoq.len; omega) (by decide +kernel), ?_⟩
              rw [join_cp]
              exact hq _ _ (Same.refl _) (.str _)
            · refine ⟨_, rfl, l8, ot, rfl, e20 _ _ hlq (fun _ z => by cases z), hoq.gs, fun res hres H21 vr e21 hvr => ?_⟩
              refine ⟨_, _, due, 20, rfl, Dp.ext e21 _ _ hva, (by rw [hdue res hres, resT_D]; exact hvr), hdn, hdd, by omega, fun H22 e22 => ⟨_, rfl, if_f rfl ?_⟩⟩
              have e23 := Same.trans e21 e22
              exact ⟨(Bq.extN e20).ext e23, T20.ext e23, Dp.ext e23 _ _ (Dp.extN e20 _ _ hvq), e23 _ _ (e20 _ _ hl2q (fun _ z => by cases z)), _, _, _, _, _, rfl⟩
      · rintro σ Hd ⟨Bd, Td, hvd, hld, y5, y6, y7, y8, y9, rfl⟩
        have two2 : 2 ≤ sizeLine := Nat.le_trans (by decide) len3
        refine ⟨_, rfl, _, rfl, one_line, fun p1 n1 => ⟨Nat.zero_le _, fun p2 n2 => ⟨_, rfl, two2, fun p3 n3 => ⟨Nat.zero_le _, fun p4 n4 => ⟨one_line, fun p5 n5 => ⟨two2, fun p6 n6 => ⟨by show 13 ≤ sizeLine; rw [sizeLine_eq]; decide, fun p7 n7 => ?_⟩⟩⟩⟩⟩⟩⟩
        have k1 := upd_ext (o := .lst [v]) n1
        have k2 := upd_ext (o := .lst []) n2
        have k3 := upd_ext (o := .tup [v, .bl false]) n3
        have k4 := upd_ext (o := .tup []) n4
        have k5 := upd_ext (o := .lst [.int 1]) n5
        have k6 := upd_ext (o := .tup [.ref p4, .ref p5]) n6
        have k7 := upd_ext (o := .lst [.int 10000, .int (-10000), .bl true, .str (Str.ofString ""), .str (Str.ofString "none"), .str (Str.ofString "A"), .str (Str.ofString "a1"), .str (Str.ofString "abcdefghijklm"), .ref p1, .ref p2, .str (Str.ofString "a b"), .ref p3, .ref p6]) n7
        have d1 : Dp K _ (.ref p1) (.list [d]) := Dp.ext (Same.trans k2 (Same.trans k3 (Same.trans k4 (Same.trans k5 (Same.trans k6 k7))))) _ _ (.lst (SqL.of upd_same) (.cons (Dp.ext k1 _ _ hvd) .nil))
        have d2 : Dp K _ (.ref p2) (.list []) := Dp.ext (Same.trans k3 (Same.trans k4 (Same.trans k5 (Same.trans k6 k7)))) _ _ (.lst (SqL.of upd_same) .nil)
        have d3 : Dp K _ (.ref p3) (.tuple [d, .bool false]) := Dp.ext (Same.trans k4 (Same.trans k5 (Same.trans k6 k7))) _ _ (.tup (SqT.of upd_same) (.cons (Dp.ext (Same.trans k1 (Same.trans k2 k3)) _ _ hvd) (.cons (.bl _) .nil)))
        have d4 : Dp K _ (.ref p4) (.tuple []) := Dp.ext k5 _ _ (.tup (SqT.of upd_same) .nil)
        have d6 : Dp K _ (.ref p6) (.tuple [.tuple [], .list [.int 1]]) := Dp.ext k7 _ _ (.tup (SqT.of upd_same) (.cons (Dp.ext k6 _ _ d4) (.cons (Dp.ext k6 _ _ (.lst (SqL.of upd_same) (.cons (.int _) .nil))) .nil)))
        have dA : DpAll K _ [.int 10000, .int (-10000), .bl true, .str (Str.ofString ""), .str (Str.ofString "none"), .str (Str.ofString "A"), .str (Str.ofString "a1"), .str (Str.ofString "abcdefghijklm"), .ref p1, .ref p2, .str (Str.ofString "a b"), .ref p3, .ref p6] (bads d) :=
          .cons (.int _) (.cons (.int _) (.cons (.bl _) (.cons (.str _) (.cons (.str _) (.cons (.str _) (.cons (.str _) (.cons (.str _) (.cons d1 (.cons d2 (.cons (.str _) (.cons d3 (.cons d6 .nil))))))))))))
        have KE := Same.trans k1 (Same.trans k2 (Same.trans k3 (Same.trans k4 (Same.trans k5 (Same.trans k6 k7)))))
        refine ⟨p7, rfl, ⟨_, SqL.of upd_same⟩, ?_⟩
        refine for_list (K := K) (xs := [.int 10000, .int (-10000), .bl true, .str (Str.ofString ""), .str (Str.ofString "none"), .str (Str.ofString "A"), .str (Str.ofString "a1"), .str (Str.ofString "abcdefghijklm"), .ref p1, .ref p2, .str (Str.ofString "a b"), .ref p3, .ref p6]) (fun _ σ Hc => Box Hc b ∧ Tabs tb Hc ∧ SqL K Hc p7 [.int 10000, .int (-10000), .bl true, .str (Str.ofString ""), .str (Str.ofString "none"), .str (Str.ofString "A"), .str (Str.ofString "a1"), .str (Str.ofString "abcdefghijklm"), .ref p1, .ref p2, .str (Str.ofString "a b"), .ref p3, .ref p6] ∧ DpAll K Hc [.int 10000, .int (-10000), .bl true, .str (Str.ofString ""), .str (Str.ofString "none"), .str (Str.ofString "A"), .str (Str.ofString "a1"), .str (Str.ofString "abcdefghijklm"), .ref p1, .ref p2, .str (Str.ofString "a b"), .ref p3, .ref p6] (bads d) ∧ ∃ x10, σ = [some (.ref a), some (.ref b), some (.int (0 + (i : Int))), some v, some (.ref l2), y5, y6, y7, y8, y9, x10, none, none, none, none, none]) ⟨Bd.ext KE, Td.ext KE, SqL.of upd_same, dA, _, rfl⟩ (fun i σ H _ h => h.2.2.1) ?_ ?_
        · rintro i2 x σ Hf hx ⟨Bf, Tf, hLf, hAf, x10, rfl⟩
          obtain ⟨dx, hdx, hxd⟩ := Ey.DpAll.get hAf hx
          obtain ⟨hb1, hb2⟩ := bads_ok g.sz dx (List.mem_of_getElem? hdx)
          refine ⟨_, rfl, x, dx, rfl, hxd, hb2, fun H5 e5 => ?_⟩
          refine ⟨_, _, .bool false, 20, rfl, by rw [hb1]; exact .bl _, .bl _, .bool _, rfl, by omega, fun H6 e6 => ⟨_, rfl, if_f rfl ?_⟩⟩
          have E6 := Same.trans e5 e6
          refine la_err thingD (out_text (td := dx) (fun H7 Q' e7 hq => ⟨_, rfl, hq _ _ (Same.refl _) (Dp.extN e7 _ _ (Dp.ext E6 _ _ hxd))⟩) hb2 (fun h => absurd h (by rw [hb1]; simp)) (text_bad hb1 true)) (Tf.ext E6) fun va H7 e7 T7 hva => ?_
          refine ⟨_, rfl, two2, fun p np => ?_⟩
          have e8 := upd_ext (o := .tup [.str (Str.ofString "thing"), .int (-1)]) np
          refine ⟨_, _, thingD, 20, rfl, Dp.ext e8 _ _ hva, .tup (SqT.of upd_same) (.cons (.str _) (.cons (.int _) .nil)), noL_val (.int _) _, rfl, by omega, fun H8 e9 => ⟨_, rfl, if_f rfl ?_⟩⟩
          have E8 := Same.trans e8 e9
          exact ⟨((Bf.ext E6).extN e7).ext E8, T7.ext E8, SqL.ext E8 (SqL.extN e7 (SqL.ext E6 hLf)), Dp.extAll E8 _ _ (Dp.extAllN e7 _ _ (Dp.extAll E6 _ _ hAf)), _, rfl⟩
        · rintro σ Hf ⟨Bf, Tf, _, _, x10, rfl⟩
          exact ⟨Bf, Tf, _, _, _, _, _, _, _, _, _, rfl⟩
    · rintro σ Hc ⟨Bc, Tc, x2, x3, x4, x5, x6, x7, x8, x9, x10, rfl⟩
      have two2 : 2 ≤ sizeLine := Nat.le_trans (by decide) len3
      refine ⟨Nat.zero_le _, fun p1 n1 => ⟨_, rfl, b, 6, rfl, Bc.ext (upd_ext n1), by omega, by omega, fun h0 Hg hh f1 => ⟨_, _, rfl, rfl, two2, fun p2 n2 => ?_⟩⟩⟩
      have q1 := upd_ext (o := .tup []) n1
      have q2 := upd_ext (o := .tup [.ref p1, .int (9 + (h0 : Int))]) n2
      have Bq := f1.box.ext q2
      have Tq : Tabs tb _ := (f1.tabs (Bc.ext q1) (Tc.ext q1)).ext q2
      have dq : Dp K _ (.ref p1) (nst 0) := Dp.ext q2 _ _ (f1.dp (Bc.ext q1) (nst_noL 0) (.tup (SqT.of upd_same) .nil))
      refine ⟨p2, _, rfl, SqT.of upd_same, rfl, _, _, rfl, _, _, rfl, rfl, ?_⟩
      refine ⟨_, rfl, _, _, rfl, rfl, 9 + (h0 : Int) - 1, rfl, by omega, by omega, ?_⟩
      refine for_range (lo := 0) (n := (9 + (h0 : Int) - 1).toNat) (fun i σ Hc => Box Hc b ∧ Tabs tb Hc ∧ ∃ x2 v, Dp K Hc v (nst i) ∧ σ = [some (.ref a), some (.ref b), x2, x3, x4, x5, x6, x7, x8, x9, x10, some v, some (.int (9 + (h0 : Int))), none, none, none]) ⟨Bq, Tq, _, _, dq, rfl⟩ ?_ ?_
      · rintro i σ Hd hi ⟨Bd, Td, y2, v, hv, rfl⟩
        refine ⟨_, rfl, one_line, fun p np => ?_⟩
        have e := upd_ext (o := .tup [v]) np
        exact ⟨Bd.ext e, Td.ext e, _, _, .tup (SqT.of upd_same) (.cons (Dp.ext e _ _ hv) .nil), rfl⟩
      · rintro σ Hd ⟨Bd, Td, y2, v, hv, rfl⟩
        rw [show (9 + (h0 : Int) - 1).toNat = 8 + h0 by omega] at hv
        have nf := nst_facts h0 hh
        have ed : decide ((9 + (h0 : Int)) ≤ 12) = decide (9 + h0 ≤ 12) := by
          rw [Bool.eq_iff_iff, decide_eq_true_iff, decide_eq_true_iff]
          omega
        refine ⟨_, rfl, v, _, rfl, hv, nst_sz _, fun H5 e5 => ?_⟩
        refine ⟨_, rfl, _, _, rfl, rfl, ?_⟩
        refine ⟨_, _, .bool (decide (9 + h0 ≤ 12)), 20, rfl, by rw [nf.1]; exact .bl _, (by show Dp K H5 (.bl (decide ((9 + (h0 : Int)) ≤ 12))) _; rw [ed]; exact .bl _), .bool _, rfl, by omega, fun H6 e6 => ⟨_, rfl, if_f rfl ?_⟩⟩
        have E6 := Same.trans e5 e6
        have hv6 := Dp.ext E6 _ _ hv
        refine la_err (toldD h0) (out_text (td := nst (8 + h0)) (fun H7 Q' e7 hq => ⟨_, rfl, hq _ _ (Same.refl _) (Dp.extN e7 _ _ hv6)⟩) (nst_sz _) (fun ht => ⟨by rw [sizeLine_eq]; omega, fun _ => by have z := txt_len ht; rw [sizeLine_eq]; omega⟩) (nest_text hh)) (Td.ext E6) fun va H7 e7 T7 hva => ?_
        refine ⟨_, rfl, _, _, rfl, rfl, _, rfl, if_b (fun c => ⟨one_line, fun p np => ?_⟩) fun c => ⟨_, rfl, two2, fun p np => ?_⟩⟩
        · have c := of_decide_eq_true c
          have e8 := upd_ext (o := .tup [.str (Str.ofString "told")]) np
          refine ⟨_, _, toldD h0, 20, rfl, Dp.ext e8 _ _ hva, (by unfold toldD; rw [if_pos (by omega)]; exact .tup (SqT.of upd_same) (.cons (.str _) .nil)), (told_ok h0).1, (told_ok h0).2, by omega, fun H8 e9 => ⟨_, rfl, if_f rfl ?_⟩⟩
          have E8 := Same.trans e8 e9
          have T8 := T7.ext E8
          have B8 := ((Bd.ext E6).extN e7).ext E8
          have hv8 := Dp.ext E8 _ _ (Dp.extN e7 _ _ hv6)
          refine la_ans (nestD h0) (out_read (td := .str (S (hillT h0))) (fun H10 Q' e10 hq => hill_te rfl hh (hq _ _ (Same.refl _) (.str _))) (hill_cuts hh).sz ((hill_cuts hh).reads (hill_due hh))) (nest_ok hh).1 T8 fun va2 H10 e10 T10 hva2 => ?_
          have hv10 := Dp.extN e10 _ _ hv8
          refine ⟨_, rfl, _, _, rfl, rfl, _, rfl, if_b (fun c' => ⟨_, rfl, two2, fun p' np' => ?_⟩) fun c' => ⟨len3, fun p' np' => ?_⟩⟩
          · have c' := of_decide_eq_true c'
            have e11 := upd_ext (o := .tup [.str (Str.ofString "value"), v]) np'
            refine ⟨_, _, nestD h0, 20, rfl, Dp.ext e11 _ _ hva2, (by unfold nestD; rw [if_pos (by omega)]; exact .tup (SqT.of upd_same) (.cons (.str _) (.cons (Dp.ext e11 _ _ hv10) .nil))), (nest_ok hh).1, (nest_ok hh).2, by omega, fun H12 e12 => ⟨_, rfl, if_f rfl ?_⟩⟩
            have E12 := Same.trans e11 e12
            have T12 := T10.ext E12
            have B12 := (B8.extN e10).ext E12
            refine ⟨_, rfl, b, 20, rfl, B12, by omega, by omega, fun mq H13 hm f13 => ⟨_, _, rfl, rfl, ?_⟩⟩
            have T13 := f13.tabs B12 T12
            have B13 := f13.box
            have em : (1990 + (mq : Int)).toNat = 1989 + mq + 1 := by omega
            refine ⟨one_line, fun l nl => ⟨_, rfl, l, _, _, rfl, rfl, upd_same, by omega, by omega, by rw [em, sizeLine_eq]; show 1 * _ ≤ _; omega, fun p5 np5 => ⟨p5, _, rfl, .inl ⟨SqL.of upd_same, fun p6 np6 => ?_⟩⟩⟩⟩
            rw [em] at np6 ⊢
            have g1 := upd_ext (o := .lst [V.int 0]) nl
            have g2 := upd_ext (o := .lst (List.replicate (1989 + mq + 1) [V.int 0]).flatten) np5
            have g3 := upd_ext (o := .tup (List.replicate (1989 + mq + 1) [V.int 0]).flatten) np6
            have hw : Dp K (upd (upd (upd H13 l (.lst [V.int 0])) p5 (.lst (List.replicate (1989 + mq + 1) [V.int 0]).flatten)) p6 (.tup (List.replicate (1989 + mq + 1) [V.int 0]).flatten)) (.ref p6) (wideD (1989 + mq + 1)) := rep_dp upd_same
            have B14 := (B13.ext g1).ext (Same.trans g2 g3)
            have T14 := (T13.ext g1).ext (Same.trans g2 g3)
            generalize upd (upd (upd H13 l (.lst [V.int 0])) p5 (.lst (List.replicate (1989 + mq + 1) [V.int 0]).flatten)) p6 (.tup (List.replicate (1989 + mq + 1) [V.int 0]).flatten) = H14 at hw B14 T14 ⊢
            refine ⟨_, rfl, _, _, rfl, rfl, .inl ⟨by decide, by decide⟩, _, _, rfl, rfl, _, _, rfl, rfl, _, rfl, if_b (fun c5 => ⟨_, rfl, _, _, rfl, rfl, _, _, rfl, rfl, by omega, by omega, by rw [show (Str.ofString "0, ").length = 3 by decide +kernel, sizeLine_eq]; omega, by rw [show (Str.ofString "0, ").length = 3 by decide +kernel]; decide, _, _, rfl, rfl, (by rw [rep_S, S_len, reps_len, show (Str.ofString "(").length = 1 by decide +kernel, show (cp "0, ").length = 3 by decide +kernel, sizeLine_eq]; omega), _, _, rfl, rfl, ?_, two2, fun p7 np7 => ?_⟩) fun c5 => ⟨two2, fun p7 np7 => ?_⟩⟩
            · rw [rep_S, of_cp "(", S_app, S_len, List.length_append, reps_len, show (cp "(").length = 1 by decide +kernel, show (cp "0, ").length = 3 by decide +kernel, show (Str.ofString "0)").length = 2 by decide +kernel, sizeLine_eq]
              omega
            · have c5 : 2 * (1990 + (mq : Int)) + 1 ≤ 4000 := of_decide_eq_true c5
              have es : Str.ofString "(" ++ (⟨((List.replicate (1990 + (mq : Int) - 1).toNat (Str.ofString "0, ").cps.toList).flatten).toArray⟩ : Str) ++ Str.ofString "0)" = S (cp "(" ++ reps (1989 + mq) (cp "0, ") ++ cp "0)") := by
                rw [rep_S, of_cp "(", of_cp "0)", S_app, S_app, show (1990 + (mq : Int) - 1).toNat = 1989 + mq by omega]
              have g4 := upd_ext (o := .tup [.str (Str.ofString "value"), .str (Str.ofString "(" ++ (⟨((List.replicate (1990 + (mq : Int) - 1).toNat (Str.ofString "0, ").cps.toList).flatten).toArray⟩ : Str) ++ Str.ofString "0)")]) np7
              have dw : Dp K (upd H14 p7 (.tup [.str (Str.ofString "value"), .str (Str.ofString "(" ++ (⟨((List.replicate (1990 + (mq : Int) - 1).toNat (Str.ofString "0, ").cps.toList).flatten).toArray⟩ : Str) ++ Str.ofString "0)")])) (.ref p7) (wideDue (1989 + mq)) := by
                unfold wideDue
                rw [if_pos (by omega), ← es]
                exact .tup (SqT.of upd_same) (.cons (.str _) (.cons (.str _) .nil))
              have hw15 := Dp.ext g4 _ _ hw
              have T15 := T14.ext g4
              have B15 := B14.ext g4
              have wz : SzOk (wideD (1989 + mq + 1)) := wide_sz (by omega)
              refine la_ans (wideDue (1989 + mq)) (out_text (td := wideD (1989 + mq + 1)) (fun H20 Q' e20 hq => ⟨_, rfl, hq _ _ (Same.refl _) (Dp.extN e20 _ _ hw15)⟩) wz (fun _ => ⟨by rw [wide_len, sizeLine_eq]; omega, fun _ => by rw [wide_txtlen, sizeLine_eq]; omega⟩) (wide_text _)) (wide_ok _).1 T15 fun va3 H16 e16 T16 hva3 => ?_
              refine ⟨_, rfl, _, _, wideDue (1989 + mq), 20, rfl, hva3, Dp.extN e16 _ _ dw, (wide_ok _).1, (wide_ok _).2, by omega, fun H17 e17 => ⟨_, rfl, if_f rfl ?_⟩⟩
              have hw17 := Dp.ext e17 _ _ (Dp.extN e16 _ _ hw15)
              refine ⟨_, rfl, .ref p6, wideD (1989 + mq + 1), rfl, hw17, wz, fun H18 e18 => ⟨_, _, .bool true, 20, rfl, by rw [wide_thing]; exact .bl _, .bl _, .bool _, rfl, by omega, fun H19 e19 => ⟨_, rfl, if_f rfl ?_⟩⟩⟩
              have T19 := T16.ext (Same.trans e17 (Same.trans e18 e19))
              refine ⟨one_line, fun p8 n8 => ⟨by show 4 ≤ sizeLine; rw [sizeLine_eq]; decide, fun p9 n9 => ?_⟩⟩
              have j1 := upd_ext (o := .tup [.str (Str.ofString "a")]) n8
              have j2 := upd_ext (o := .lst [.non, .int 3, .bl true, .ref p8]) n9
              refine ⟨p9, rfl, ⟨_, SqL.of upd_same⟩, ?_⟩
              refine for_list (K := K) (xs := [.non, .int 3, .bl true, .ref p8]) (fun _ σ Hc => Tabs tb Hc ∧ SqL K Hc p9 [.non, .int 3, .bl true, .ref p8] ∧ DpAll K Hc [.non, .int 3, .bl true, .ref p8] [.none, .int 3, .bool true, .tuple [.str (Str.ofString "a")]] ∧ ∃ z10 z13 z14 z15, σ = [some (.ref a), some (.ref b), y2, x3, x4, x5, x6, x7, x8, x9, z10, some v, some (.int (9 + (h0 : Int))), z13, z14, z15]) ⟨(T19.ext j1).ext j2, SqL.of upd_same, .cons .non (.cons (.int _) (.cons (.bl _) (.cons (Dp.ext j2 _ _ (.tup (SqT.of upd_same) (.cons (.str _) .nil))) .nil))), _, _, _, _, rfl⟩ (fun i σ H _ h => h.2.1) ?_ ?_
              · rintro i2 x σ Hf hx ⟨Tf, hLf, hAf, z10, z13, z14, z15, rfl⟩
                obtain ⟨dx, hdx, hxd⟩ := Ey.DpAll.get hAf hx
                have hns : ∀ s, dx ≠ .str s := fun s e => by
                  have m := List.mem_of_getElem? hdx
                  rw [e] at m
                  simp at m
                refine la_err (errD (-1) 0) (out_read (td := dx) (fun H20 Q' e20 hq => ⟨_, rfl, hq _ _ (Same.refl _) (Dp.extN e20 _ _ hxd)⟩) (fun s e => absurd e (hns s)) (reads_non hns true)) Tf fun va H20 e20 T20 hva => ?_
                refine ⟨_, rfl, len3, fun p np => ?_⟩
                have e8 := upd_ext (o := .tup [.str (Str.ofString "text"), .int (-1), .int 0]) np
                refine ⟨_, _, errD (-1) 0, 20, rfl, Dp.ext e8 _ _ hva, errD_of upd_same, noL_err _ _, rfl, by omega, fun H8 e9 => ⟨_, rfl, if_f rfl ?_⟩⟩
                have E8 := Same.trans e8 e9
                exact ⟨T20.ext E8, SqL.ext E8 (SqL.extN e20 hLf), Dp.extAll E8 _ _ (Dp.extAllN e20 _ _ hAf), _, _, _, _, rfl⟩
              · rintro σ Hf ⟨Tf, _, _, z10, z13, z14, z15, rfl⟩
                refine la_ans (errD 0 4) (out_read (td := .str (Str.ofString "")) (fun H20 Q' e20 hq => hq _ _ (Same.refl _) (.str _)) (by rw [of_cp]; exact empty_cuts.sz) (by rw [of_cp]; exact empty_cuts.reads (empty_due false))) (noL_err _ _) Tf fun va H20 e20 T20 hva => ?_
                refine ⟨len3, fun p np => ?_⟩
                have e8 := upd_ext (o := .tup [.str (Str.ofString "text"), .int 0, .int 4]) np
                refine ⟨_, _, errD 0 4, 20, rfl, Dp.ext e8 _ _ hva, errD_of upd_same, noL_err _ _, rfl, by omega, fun H8 e9 => ?_⟩
                refine ⟨_, rfl, if_t rfl ⟨_, .str (Str.ofString "(-0)"), rfl, .str _, by rw [of_cp]; exact m0_cuts.sz, ?_⟩⟩
                rw [of_cp "(-0)"]
                refine m0_cuts.cutG fun res hr => ?_
                rw [hr.det m0_whole]
                intro v0 H9 e10 hv0
                refine ⟨one_line, fun p10 n10 => ?_⟩
                exact ⟨_, _, .tuple [.int 0], 20, rfl, Dp.ext (upd_ext n10) _ _ hv0, .tup (SqT.of upd_same) (.cons (.int _) .nil), .tuple fun x hx => by rw [List.mem_singleton.mp hx]; exact .int _, rfl, by omega, fun H' _ => hQ H'⟩
            · have c5 : ¬ 2 * (1990 + (mq : Int)) + 1 ≤ 4000 := of_decide_eq_false c5
              have g4 := upd_ext (o := .tup [.str (Str.ofString "size"), .str (Str.ofString "text")]) np7
              have dw : Dp K (upd H14 p7 (.tup [.str (Str.ofString "size"), .str (Str.ofString "text")])) (.ref p7) (wideDue (1989 + mq)) := by
                unfold wideDue
                rw [if_neg (by omega)]
                exact .tup (SqT.of upd_same) (.cons (.str _) (.cons (.str _) .nil))
              have hw15 := Dp.ext g4 _ _ hw
              have T15 := T14.ext g4
              have B15 := B14.ext g4
              have wz : SzOk (wideD (1989 + mq + 1)) := wide_sz (by omega)
              refine la_ans (wideDue (1989 + mq)) (out_text (td := wideD (1989 + mq + 1)) (fun H20 Q' e20 hq => ⟨_, rfl, hq _ _ (Same.refl _) (Dp.extN e20 _ _ hw15)⟩) wz (fun _ => ⟨by rw [wide_len, sizeLine_eq]; omega, fun _ => by rw [wide_txtlen, sizeLine_eq]; omega⟩) (wide_text _)) (wide_ok _).1 T15 fun va3 H16 e16 T16 hva3 => ?_
              refine ⟨_, rfl, _, _, wideDue (1989 + mq), 20, rfl, hva3, Dp.extN e16 _ _ dw, (wide_ok _).1, (wide_ok _).2, by omega, fun H17 e17 => ⟨_, rfl, if_f rfl ?_⟩⟩
              have hw17 := Dp.ext e17 _ _ (Dp.extN e16 _ _ hw15)
              refine ⟨_, rfl, .ref p6, wideD (1989 + mq + 1), rfl, hw17, wz, fun H18 e18 => ⟨_, _, .bool true, 20, rfl, by rw [wide_thing]; exact .bl _, .bl _, .bool _, rfl, by omega, fun H19 e19 => ⟨_, rfl, if_f rfl ?_⟩⟩⟩
              have T19 := T16.ext (Same.trans e17 (Same.trans e18 e19))
              refine ⟨one_line, fun p8 n8 => ⟨by show 4 ≤ sizeLine; rw [sizeLine_eq]; decide, fun p9 n9 => ?_⟩⟩
              have j1 := upd_ext (o := .tup [.str (Str.ofString "a")]) n8
              have j2 := upd_ext (o := .lst [.non, .int 3, .bl true, .ref p8]) n9
              refine ⟨p9, rfl, ⟨_, SqL.of upd_same⟩, ?_⟩
              refine for_list (K := K) (xs := [.non, .int 3, .bl true, .ref p8]) (fun _ σ Hc => Tabs tb Hc ∧ SqL K Hc p9 [.non, .int 3, .bl true, .ref p8] ∧ DpAll K Hc [.non, .int 3, .bl true, .ref p8] [.none, .int 3, .bool true, .tuple [.str (Str.ofString "a")]] ∧ ∃ z10 z13 z14 z15, σ = [some (.ref a), some (.ref b), y2, x3, x4, x5, x6, x7, x8, x9, z10, some v, some (.int (9 + (h0 : Int))), z13, z14, z15]) ⟨(T19.ext j1).ext j2, SqL.of upd_same, .cons .non (.cons (.int _) (.cons (.bl _) (.cons (Dp.ext j2 _ _ (.tup (SqT.of upd_same) (.cons (.str _) .nil))) .nil))), _, _, _, _, rfl⟩ (fun i σ H _ h => h.2.1) ?_ ?_
              · rintro i2 x σ Hf hx ⟨Tf, hLf, hAf, z10, z13, z14, z15, rfl⟩
                obtain ⟨dx, hdx, hxd⟩ := Ey.DpAll.get hAf hx
                have hns : ∀ s, dx ≠ .str s := fun s e => by
                  have m := List.mem_of_getElem? hdx
                  rw [e] at m
                  simp at m
                refine la_err (errD (-1) 0) (out_read (td := dx) (fun H20 Q' e20 hq => ⟨_, rfl, hq _ _ (Same.refl _) (Dp.extN e20 _ _ hxd)⟩) (fun s e => absurd e (hns s)) (reads_non hns true)) Tf fun va H20 e20 T20 hva => ?_
                refine ⟨_, rfl, len3, fun p np => ?_⟩
                have e8 := upd_ext (o := .tup [.str (Str.ofString "text"), .int (-1), .int 0]) np
                refine ⟨_, _, errD (-1) 0, 20, rfl, Dp.ext e8 _ _ hva, errD_of upd_same, noL_err _ _, rfl, by omega, fun H8 e9 => ⟨_, rfl, if_f rfl ?_⟩⟩
                have E8 := Same.trans e8 e9
                exact ⟨T20.ext E8, SqL.ext E8 (SqL.extN e20 hLf), Dp.extAll E8 _ _ (Dp.extAllN e20 _ _ hAf), _, _, _, _, rfl⟩
              · rintro σ Hf ⟨Tf, _, _, z10, z13, z14, z15, rfl⟩
                refine la_ans (errD 0 4) (out_read (td := .str (Str.ofString "")) (fun H20 Q' e20 hq => hq _ _ (Same.refl _) (.str _)) (by rw [of_cp]; exact empty_cuts.sz) (by rw [of_cp]; exact empty_cuts.reads (empty_due false))) (noL_err _ _) Tf fun va H20 e20 T20 hva => ?_
                refine ⟨len3, fun p np => ?_⟩
                have e8 := upd_ext (o := .tup [.str (Str.ofString "text"), .int 0, .int 4]) np
                refine ⟨_, _, errD 0 4, 20, rfl, Dp.ext e8 _ _ hva, errD_of upd_same, noL_err _ _, rfl, by omega, fun H8 e9 => ?_⟩
                refine ⟨_, rfl, if_t rfl ⟨_, .str (Str.ofString "(-0)"), rfl, .str _, by rw [of_cp]; exact m0_cuts.sz, ?_⟩⟩
                rw [of_cp "(-0)"]
                refine m0_cuts.cutG fun res hr => ?_
                rw [hr.det m0_whole]
                intro v0 H9 e10 hv0
                refine ⟨one_line, fun p10 n10 => ?_⟩
                exact ⟨_, _, .tuple [.int 0], 20, rfl, Dp.ext (upd_ext n10) _ _ hv0, .tup (SqT.of upd_same) (.cons (.int _) .nil), .tuple fun x hx => by rw [List.mem_singleton.mp hx]; exact .int _, rfl, by omega, fun H' _ => hQ H'⟩
          · have c' := of_decide_eq_false c'
            have e11 := upd_ext (o := .tup [.str (Str.ofString "text"), .int 12, .int 5]) np'
            refine ⟨_, _, nestD h0, 20, rfl, Dp.ext e11 _ _ hva2, (by unfold nestD; rw [if_neg (by omega)]; exact errD_of upd_same), (nest_ok hh).1, (nest_ok hh).2, by omega, fun H12 e12 => ⟨_, rfl, if_f rfl ?_⟩⟩
            have E12 := Same.trans e11 e12
            have T12 := T10.ext E12
            have B12 := (B8.extN e10).ext E12
            refine ⟨_, rfl, b, 20, rfl, B12, by omega, by omega, fun mq H13 hm f13 => ⟨_, _, rfl, rfl, ?_⟩⟩
            have T13 := f13.tabs B12 T12
            have B13 := f13.box
            have em : (1990 + (mq : Int)).toNat = 1989 + mq + 1 := by omega
            refine ⟨one_line, fun l nl => ⟨_, rfl, l, _, _, rfl, rfl, upd_same, by omega, by omega, by rw [em, sizeLine_eq]; show 1 * _ ≤ _; omega, fun p5 np5 => ⟨p5, _, rfl, .inl ⟨SqL.of upd_same, fun p6 np6 => ?_⟩⟩⟩⟩
            rw [em] at np6 ⊢
            have g1 := upd_ext (o := .lst [V.int 0]) nl
            have g2 := upd_ext (o := .lst (List.replicate (1989 + mq + 1) [V.int 0]).flatten) np5
            have g3 := upd_ext (o := .tup (List.replicate (1989 + mq + 1) [V.int 0]).flatten) np6
            have hw : Dp K (upd (upd (upd H13 l (.lst [V.int 0])) p5 (.lst (List.replicate (1989 + mq + 1) [V.int 0]).flatten)) p6 (.tup (List.replicate (1989 + mq + 1) [V.int 0]).flatten)) (.ref p6) (wideD (1989 + mq + 1)) := rep_dp upd_same
            have B14 := (B13.ext g1).ext (Same.trans g2 g3)
            have T14 := (T13.ext g1).ext (Same.trans g2 g3)
            generalize upd (upd (upd H13 l (.lst [V.int 0])) p5 (.lst (List.replicate (1989 + mq + 1) [V.int 0]).flatten)) p6 (.tup (List.replicate (1989 + mq + 1) [V.int 0]).flatten) = H14 at hw B14 T14 ⊢
            refine ⟨_, rfl, _, _, rfl, rfl, .inl ⟨by decide, by decide⟩, _, _, rfl, rfl, _, _, rfl, rfl, _, rfl, if_b (fun c5 => ⟨_, rfl, _, _, rfl, rfl, _, _, rfl, rfl, by omega, by omega, by rw [show (Str.ofString "0, ").length = 3 by decide +kernel, sizeLine_eq]; omega, by rw [show (Str.ofString "0, ").length = 3 by decide +kernel]; decide, _, _, rfl, rfl, (by rw [rep_S, S_len, reps_len, show (Str.ofString "(").length = 1 by decide +kernel, show (cp "0, ").length = 3 by decide +kernel, sizeLine_eq]; omega), _, _, rfl, rfl, ?_, two2, fun p7 np7 => ?_⟩) fun c5 => ⟨two2, fun p7 np7 => ?_⟩⟩
            · rw [rep_S, of_cp "(", S_app, S_len, List.length_append, reps_len, show (cp "(").length = 1 by decide +kernel, show (cp "0, ").length = 3 by decide +kernel, show (Str.ofString "0)").length = 2 by decide +kernel, sizeLine_eq]
              omega
            · have c5 : 2 * (1990 + (mq : Int)) + 1 ≤ 4000 := of_decide_eq_true c5
              have es : Str.ofString "(" ++ (⟨((List.replicate (1990 + (mq : Int) - 1).toNat (Str.ofString "0, ").cps.toList).flatten).toArray⟩ : Str) ++ Str.ofString "0)" = S (cp "(" ++ reps (1989 + mq) (cp "0, ") ++ cp "0)") := by
                rw [rep_S, of_cp "(", of_cp "0)", S_app, S_app, show (1990 + (mq : Int) - 1).toNat = 1989 + mq by omega]
              have g4 := upd_ext (o := .tup [.str (Str.ofString "value"), .str (Str.ofString "(" ++ (⟨((List.replicate (1990 + (mq : Int) - 1).toNat (Str.ofString "0, ").cps.toList).flatten).toArray⟩ : Str) ++ Str.ofString "0)")]) np7
              have dw : Dp K (upd H14 p7 (.tup [.str (Str.ofString "value"), .str (Str.ofString "(" ++ (⟨((List.replicate (1990 + (mq : Int) - 1).toNat (Str.ofString "0, ").cps.toList).flatten).toArray⟩ : Str) ++ Str.ofString "0)")])) (.ref p7) (wideDue (1989 + mq)) := by
                unfold wideDue
                rw [if_pos (by omega), ← es]
                exact .tup (SqT.of upd_same) (.cons (.str _) (.cons (.str _) .nil))
              have hw15 := Dp.ext g4 _ _ hw
              have T15 := T14.ext g4
              have B15 := B14.ext g4
              have wz : SzOk (wideD (1989 + mq + 1)) := wide_sz (by omega)
              refine la_ans (wideDue (1989 + mq)) (out_text (td := wideD (1989 + mq + 1)) (fun H20 Q' e20 hq => ⟨_, rfl, hq _ _ (Same.refl _) (Dp.extN e20 _ _ hw15)⟩) wz (fun _ => ⟨by rw [wide_len, sizeLine_eq]; omega, fun _ => by rw [wide_txtlen, sizeLine_eq]; omega⟩) (wide_text _)) (wide_ok _).1 T15 fun va3 H16 e16 T16 hva3 => ?_
              refine ⟨_, rfl, _, _, wideDue (1989 + mq), 20, rfl, hva3, Dp.extN e16 _ _ dw, (wide_ok _).1, (wide_ok _).2, by omega, fun H17 e17 => ⟨_, rfl, if_f rfl ?_⟩⟩
              have hw17 := Dp.ext e17 _ _ (Dp.extN e16 _ _ hw15)
              refine ⟨_, rfl, .ref p6, wideD (1989 + mq + 1), rfl, hw17, wz, fun H18 e18 => ⟨_, _, .bool true, 20, rfl, by rw [wide_thing]; exact .bl _, .bl _, .bool _, rfl, by omega, fun H19 e19 => ⟨_, rfl, if_f rfl ?_⟩⟩⟩
              have T19 := T16.ext (Same.trans e17 (Same.trans e18 e19))
              refine ⟨one_line, fun p8 n8 => ⟨by show 4 ≤ sizeLine; rw [sizeLine_eq]; decide, fun p9 n9 => ?_⟩⟩
              have j1 := upd_ext (o := .tup [.str (Str.ofString "a")]) n8
              have j2 := upd_ext (o := .lst [.non, .int 3, .bl true, .ref p8]) n9
              refine ⟨p9, rfl, ⟨_, SqL.of upd_same⟩, ?_⟩
              refine for_list (K := K) (xs := [.non, .int 3, .bl true, .ref p8]) (fun _ σ Hc => Tabs tb Hc ∧ SqL K Hc p9 [.non, .int 3, .bl true, .ref p8] ∧ DpAll K Hc [.non, .int 3, .bl true, .ref p8] [.none, .int 3, .bool true, .tuple [.str (Str.ofString "a")]] ∧ ∃ z10 z13 z14 z15, σ = [some (.ref a), some (.ref b), y2, x3, x4, x5, x6, x7, x8, x9, z10, some v, some (.int (9 + (h0 : Int))), z13, z14, z15]) ⟨(T19.ext j1).ext j2, SqL.of upd_same, .cons .non (.cons (.int _) (.cons (.bl _) (.cons (Dp.ext j2 _ _ (.tup (SqT.of upd_same) (.cons (.str _) .nil))) .nil))), _, _, _, _, rfl⟩ (fun i σ H _ h => h.2.1) ?_ ?_
              · rintro i2 x σ Hf hx ⟨Tf, hLf, hAf, z10, z13, z14, z15, rfl⟩
                obtain ⟨dx, hdx, hxd⟩ := Ey.DpAll.get hAf hx
                have hns : ∀ s, dx ≠ .str s := fun s e => by
                  have m := List.mem_of_getElem? hdx
                  rw [e] at m
                  simp at m
                refine la_err (errD (-1) 0) (out_read (td := dx) (fun H20 Q' e20 hq => ⟨_, rfl, hq _ _ (Same.refl _) (Dp.extN e20 _ _ hxd)⟩) (fun s e => absurd e (hns s)) (reads_non hns true)) Tf fun va H20 e20 T20 hva => ?_
                refine ⟨_, rfl, len3, fun p np => ?_⟩
                have e8 := upd_ext (o := .tup [.str (Str.ofString "text"), .int (-1), .int 0]) np
                refine ⟨_, _, errD (-1) 0, 20, rfl, Dp.ext e8 _ _ hva, errD_of upd_same, noL_err _ _, rfl, by omega, fun H8 e9 => ⟨_, rfl, if_f rfl ?_⟩⟩
                have E8 := Same.trans e8 e9
                exact ⟨T20.ext E8, SqL.ext E8 (SqL.extN e20 hLf), Dp.extAll E8 _ _ (Dp.extAllN e20 _ _ hAf), _, _, _, _, rfl⟩
              · rintro σ Hf ⟨Tf, _, _, z10, z13, z14, z15, rfl⟩
                refine la_ans (errD 0 4) (out_read (td := .str (Str.ofString "")) (fun H20 Q' e20 hq => hq _ _ (Same.refl _) (.str _)) (by rw [of_cp]; exact empty_cuts.sz) (by rw [of_cp]; exact empty_cuts.reads (empty_due false))) (noL_err _ _) Tf fun va H20 e20 T20 hva => ?_
                refine ⟨len3, fun p np => ?_⟩
                have e8 := upd_ext (o := .tup [.str (Str.ofString "text"), .int 0, .int 4]) np
                refine ⟨_, _, errD 0 4, 20, rfl, Dp.ext e8 _ _ hva, errD_of upd_same, noL_err _ _, rfl, by omega, fun H8 e9 => ?_⟩
                refine ⟨_, rfl, if_t rfl ⟨_, .str (Str.ofString "(-0)"), rfl, .str _, by rw [of_cp]; exact m0_cuts.sz, ?_⟩⟩
                rw [of_cp "(-0)"]
                refine m0_cuts.cutG fun res hr => ?_
                rw [hr.det m0_whole]
                intro v0 H9 e10 hv0
                refine ⟨one_line, fun p10 n10 => ?_⟩
                exact ⟨_, _, .tuple [.int 0], 20, rfl, Dp.ext (upd_ext n10) _ _ hv0, .tup (SqT.of upd_same) (.cons (.int _) .nil), .tuple fun x hx => by rw [List.mem_singleton.mp hx]; exact .int _, rfl, by omega, fun H' _ => hQ H'⟩
            · have c5 : ¬ 2 * (1990 + (mq : Int)) + 1 ≤ 4000 := of_decide_eq_false c5
              have g4 := upd_ext (o := .tup [.str (Str.ofString "size"), .str (Str.ofString "text")]) np7
              have dw : Dp K (upd H14 p7 (.tup [.str (Str.ofString "size"), .str (Str.ofString "text")])) (.ref p7) (wideDue (1989 + mq)) := by
                unfold wideDue
                rw [if_neg (by omega)]
                exact .tup (SqT.of upd_same) (.cons (.str _) (.cons (.str _) .nil))
              have hw15 := Dp.ext g4 _ _ hw
              have T15 := T14.ext g4
              have B15 := B14.ext g4
              have wz : SzOk (wideD (1989 + mq + 1)) := wide_sz (by omega)
              refine la_ans (wideDue (1989 + mq)) (out_text (td := wideD (1989 + mq + 1)) (fun H20 Q' e20 hq => ⟨_, rfl, hq _ _ (Same.refl _) (Dp.extN e20 _ _ hw15)⟩) wz (fun _ => ⟨by rw [wide_len, sizeLine_eq]; omega, fun _ => by rw [wide_txtlen, sizeLine_eq]; omega⟩) (wide_text _)) (wide_ok _).1 T15 fun va3 H16 e16 T16 hva3 => ?_
              refine ⟨_, rfl, _, _, wideDue (1989 + mq), 20, rfl, hva3, Dp.extN e16 _ _ dw, (wide_ok _).1, (wide_ok _).2, by omega, fun H17 e17 => ⟨_, rfl, if_f rfl ?_⟩⟩
              have hw17 := Dp.ext e17 _ _ (Dp.extN e16 _ _ hw15)
              refine ⟨_, rfl, .ref p6, wideD (1989 + mq + 1), rfl, hw17, wz, fun H18 e18 => ⟨_, _, .bool true, 20, rfl, by rw [wide_thing]; exact .bl _, .bl _, .bool _, rfl, by omega, fun H19 e19 => ⟨_, rfl, if_f rfl ?_⟩⟩⟩
              have T19 := T16.ext (Same.trans e17 (Same.trans e18 e19))
              refine ⟨one_line, fun p8 n8 => ⟨by show 4 ≤ sizeLine; rw [sizeLine_eq]; decide, fun p9 n9 => ?_⟩⟩
              have j1 := upd_ext (o := .tup [.str (Str.ofString "a")]) n8
              have j2 := upd_ext (o := .lst [.non, .int 3, .bl true, .ref p8]) n9
              refine ⟨p9, rfl, ⟨_, SqL.of upd_same⟩, ?_⟩
              refine for_list (K := K) (xs := [.non, .int 3, .bl true, .ref p8]) (fun _ σ Hc => Tabs tb Hc ∧ SqL K Hc p9 [.non, .int 3, .bl true, .ref p8] ∧ DpAll K Hc [.non, .int 3, .bl true, .ref p8] [.none, .int 3, .bool true, .tuple [.str (Str.ofString "a")]] ∧ ∃ z10 z13 z14 z15, σ = [some (.ref a), some (.ref b), y2, x3, x4, x5, x6, x7, x8, x9, z10, some v, some (.int (9 + (h0 : Int))), z13, z14, z15]) ⟨(T19.ext j1).ext j2, SqL.of upd_same, .cons .non (.cons (.int _) (.cons (.bl _) (.cons (Dp.ext j2 _ _ (.tup (SqT.of upd_same) (.cons (.str _) .nil))) .nil))), _, _, _, _, rfl⟩ (fun i σ H _ h => h.2.1) ?_ ?_
              · rintro i2 x σ Hf hx ⟨Tf, hLf, hAf, z10, z13, z14, z15, rfl⟩
                obtain ⟨dx, hdx, hxd⟩ := Ey.DpAll.get hAf hx
                have hns : ∀ s, dx ≠ .str s := fun s e => by
                  have m := List.mem_of_getElem? hdx
                  rw [e] at m
                  simp at m
                refine la_err (errD (-1) 0) (out_read (td := dx) (fun H20 Q' e20 hq => ⟨_, rfl, hq _ _ (Same.refl _) (Dp.extN e20 _ _ hxd)⟩) (fun s e => absurd e (hns s)) (reads_non hns true)) Tf fun va H20 e20 T20 hva => ?_
                refine ⟨_, rfl, len3, fun p np => ?_⟩
                have e8 := upd_ext (o := .tup [.str (Str.ofString "text"), .int (-1), .int 0]) np
                refine ⟨_, _, errD (-1) 0, 20, rfl, Dp.ext e8 _ _ hva, errD_of upd_same, noL_err _ _, rfl, by omega, fun H8 e9 => ⟨_, rfl, if_f rfl ?_⟩⟩
                have E8 := Same.trans e8 e9
                exact ⟨T20.ext E8, SqL.ext E8 (SqL.extN e20 hLf), Dp.extAll E8 _ _ (Dp.extAllN e20 _ _ hAf), _, _, _, _, rfl⟩
              · rintro σ Hf ⟨Tf, _, _, z10, z13, z14, z15, rfl⟩
                refine la_ans (errD 0 4) (out_read (td := .str (Str.ofString "")) (fun H20 Q' e20 hq => hq _ _ (Same.refl _) (.str _)) (by rw [of_cp]; exact empty_cuts.sz) (by rw [of_cp]; exact empty_cuts.reads (empty_due false))) (noL_err _ _) Tf fun va H20 e20 T20 hva => ?_
                refine ⟨len3, fun p np => ?_⟩
                have e8 := upd_ext (o := .tup [.str (Str.ofString "text"), .int 0, .int 4]) np
                refine ⟨_, _, errD 0 4, 20, rfl, Dp.ext e8 _ _ hva, errD_of upd_same, noL_err _ _, rfl, by omega, fun H8 e9 => ?_⟩
                refine ⟨_, rfl, if_t rfl ⟨_, .str (Str.ofString "(-0)"), rfl, .str _, by rw [of_cp]; exact m0_cuts.sz, ?_⟩⟩
                rw [of_cp "(-0)"]
                refine m0_cuts.cutG fun res hr => ?_
                rw [hr.det m0_whole]
                intro v0 H9 e10 hv0
                refine ⟨one_line, fun p10 n10 => ?_⟩
                exact ⟨_, _, .tuple [.int 0], 20, rfl, Dp.ext (upd_ext n10) _ _ hv0, .tup (SqT.of upd_same) (.cons (.int _) .nil), .tuple fun x hx => by rw [List.mem_singleton.mp hx]; exact .int _, rfl, by omega, fun H' _ => hQ H'⟩
        · have c := of_decide_eq_false c
          have e8 := upd_ext (o := .tup [.str (Str.ofString "thing"), .int (-1)]) np
          refine ⟨_, _, toldD h0, 20, rfl, Dp.ext e8 _ _ hva, (by unfold toldD; rw [if_neg (by omega)]; exact .tup (SqT.of upd_same) (.cons (.str _) (.cons (.int _) .nil))), (told_ok h0).1, (told_ok h0).2, by omega, fun H8 e9 => ⟨_, rfl, if_f rfl ?_⟩⟩
          have E8 := Same.trans e8 e9
          have T8 := T7.ext E8
          have B8 := ((Bd.ext E6).extN e7).ext E8
          have hv8 := Dp.ext E8 _ _ (Dp.extN e7 _ _ hv6)
          refine la_ans (nestD h0) (out_read (td := .str (S (hillT h0))) (fun H10 Q' e10 hq => hill_te rfl hh (hq _ _ (Same.refl _) (.str _))) (hill_cuts hh).sz ((hill_cuts hh).reads (hill_due hh))) (nest_ok hh).1 T8 fun va2 H10 e10 T10 hva2 => ?_
          have hv10 := Dp.extN e10 _ _ hv8
          refine ⟨_, rfl, _, _, rfl, rfl, _, rfl, if_b (fun c' => ⟨_, rfl, two2, fun p' np' => ?_⟩) fun c' => ⟨len3, fun p' np' => ?_⟩⟩
          · have c' := of_decide_eq_true c'
            have e11 := upd_ext (o := .tup [.str (Str.ofString "value"), v]) np'
            refine ⟨_, _, nestD h0, 20, rfl, Dp.ext e11 _ _ hva2, (by unfold nestD; rw [if_pos (by omega)]; exact .tup (SqT.of upd_same) (.cons (.str _) (.cons (Dp.ext e11 _ _ hv10) .nil))), (nest_ok hh).1, (nest_ok hh).2, by omega, fun H12 e12 => ⟨_, rfl, if_f rfl ?_⟩⟩
            have E12 := Same.trans e11 e12
            have T12 := T10.ext E12
            have B12 := (B8.extN e10).ext E12
            refine ⟨_, rfl, b, 20, rfl, B12, by omega, by omega, fun mq H13 hm f13 => ⟨_, _, rfl, rfl, ?_⟩⟩
            have T13 := f13.tabs B12 T12
            have B13 := f13.box
            have em : (1990 + (mq : Int)).toNat = 1989 + mq + 1 := by omega
            refine ⟨one_line, fun l nl => ⟨_, rfl, l, _, _, rfl, rfl, upd_same, by omega, by omega, by rw [em, sizeLine_eq]; show 1 * _ ≤ _; omega, fun p5 np5 => ⟨p5, _, rfl, .inl ⟨SqL.of upd_same, fun p6 np6 => ?_⟩⟩⟩⟩
            rw [em] at np6 ⊢
            have g1 := upd_ext (o := .lst [V.int 0]) nl
            have g2 := upd_ext (o := .lst (List.replicate (1989 + mq + 1) [V.int 0]).flatten) np5
            have g3 := upd_ext (o := .tup (List.replicate (1989 + mq + 1) [V.int 0]).flatten) np6
            have hw : Dp K (upd (upd (upd H13 l (.lst [V.int 0])) p5 (.lst (List.replicate (1989 + mq + 1) [V.int 0]).flatten)) p6 (.tup (List.replicate (1989 + mq + 1) [V.int 0]).flatten)) (.ref p6) (wideD (1989 + mq + 1)) := rep_dp upd_same
            have B14 := (B13.ext g1).ext (Same.trans g2 g3)
            have T14 := (T13.ext g1).ext (Same.trans g2 g3)
            generalize upd (upd (upd H13 l (.lst [V.int 0])) p5 (.lst (List.replicate (1989 + mq + 1) [V.int 0]).flatten)) p6 (.tup (List.replicate (1989 + mq + 1) [V.int 0]).flatten) = H14 at hw B14 T14 ⊢
            refine ⟨_, rfl, _, _, rfl, rfl, .inl ⟨by decide, by decide⟩, _, _, rfl, rfl, _, _, rfl, rfl, _, rfl, if_b (fun c5 => ⟨_, rfl, _, _, rfl, rfl, _, _, rfl, rfl, by omega, by omega, by rw [show (Str.ofString "0, ").length = 3 by decide +kernel, sizeLine_eq]; omega, by rw [show (Str.ofString "0, ").length = 3 by decide +kernel]; decide, _, _, rfl, rfl, (by rw [rep_S, S_len, reps_len, show (Str.ofString "(").length = 1 by decide +kernel, show (cp "0, ").length = 3 by decide +kernel, sizeLine_eq]; omega), _, _, rfl, rfl, ?_, two2, fun p7 np7 => ?_⟩) fun c5 => ⟨two2, fun p7 np7 => ?_⟩⟩
            · rw [rep_S, of_cp "(", S_app, S_len, List.length_append, reps_len, show (cp "(").length = 1 by decide +kernel, show (cp "0, ").length = 3 by decide +kernel, show (Str.ofString "0)").length = 2 by decide +kernel, sizeLine_eq]
              omega
            · have c5 : 2 * (1990 + (mq : Int)) + 1 ≤ 4000 := of_decide_eq_true c5
              have es : Str.ofString "(" ++ (⟨((List.replicate (1990 + (mq : Int) - 1).toNat (Str.ofString "0, ").cps.toList).flatten).toArray⟩ : Str) ++ Str.ofString "0)" = S (cp "(" ++ reps (1989 + mq) (cp "0, ") ++ cp "0)") := by
                rw [rep_S, of_cp "(", of_cp "0)", S_app, S_app, show (1990 + (mq : Int) - 1).toNat = 1989 + mq by omega]
              have g4 := upd_ext (o := .tup [.str (Str.ofString "value"), .str (Str.ofString "(" ++ (⟨((List.replicate (1990 + (mq : Int) - 1).toNat (Str.ofString "0, ").cps.toList).flatten).toArray⟩ : Str) ++ Str.ofString "0)")]) np7
              have dw : Dp K (upd H14 p7 (.tup [.str (Str.ofString "value"), .str (Str.ofString "(" ++ (⟨((List.replicate (1990 + (mq : Int) - 1).toNat (Str.ofString "0, ").cps.toList).flatten).toArray⟩ : Str) ++ Str.ofString "0)")])) (.ref p7) (wideDue (1989 + mq)) := by
                unfold wideDue
                rw [if_pos (by omega), ← es]
                exact .tup (SqT.of upd_same) (.cons (.str _) (.cons (.str _) .nil))
              have hw15 := Dp.ext g4 _ _ hw
              have T15 := T14.ext g4
              have B15 := B14.ext g4
              have wz : SzOk (wideD (1989 + mq + 1)) := wide_sz (by omega)
              refine la_ans (wideDue (1989 + mq)) (out_text (td := wideD (1989 + mq + 1)) (fun H20 Q' e20 hq => ⟨_, rfl, hq _ _ (Same.refl _) (Dp.extN e20 _ _ hw15)⟩) wz (fun _ => ⟨by rw [wide_len, sizeLine_eq]; omega, fun _ => by rw [wide_txtlen, sizeLine_eq]; omega⟩) (wide_text _)) (wide_ok _).1 T15 fun va3 H16 e16 T16 hva3 => ?_
              refine ⟨_, rfl, _, _, wideDue (1989 + mq), 20, rfl, hva3, Dp.extN e16 _ _ dw, (wide_ok _).1, (wide_ok _).2, by omega, fun H17 e17 => ⟨_, rfl, if_f rfl ?_⟩⟩
              have hw17 := Dp.ext e17 _ _ (Dp.extN e16 _ _ hw15)
              refine ⟨_, rfl, .ref p6, wideD (1989 + mq + 1), rfl, hw17, wz, fun H18 e18 => ⟨_, _, .bool true, 20, rfl, by rw [wide_thing]; exact .bl _, .bl _, .bool _, rfl, by omega, fun H19 e19 => ⟨_, rfl, if_f rfl ?_⟩⟩⟩
              have T19 := T16.ext (Same.trans e17 (Same.trans e18 e19))
              refine ⟨one_line, fun p8 n8 => ⟨by show 4 ≤ sizeLine; rw [sizeLine_eq]; decide, fun p9 n9 => ?_⟩⟩
              have j1 := upd_ext (o := .tup [.str (Str.ofString "a")]) n8
              have j2 := upd_ext (o := .lst [.non, .int 3, .bl true, .ref p8]) n9
              refine ⟨p9, rfl, ⟨_, SqL.of upd_same⟩, ?_⟩
              refine for_list (K := K) (xs := [.non, .int 3, .bl true, .ref p8]) (fun _ σ Hc => Tabs tb Hc ∧ SqL K Hc p9 [.non, .int 3, .bl true, .ref p8] ∧ DpAll K Hc [.non, .int 3, .bl true, .ref p8] [.none, .int 3, .bool true, .tuple [.str (Str.ofString "a")]] ∧ ∃ z10 z13 z14 z15, σ = [some (.ref a), some (.ref b), y2, x3, x4, x5, x6, x7, x8, x9, z10, some v, some (.int (9 + (h0 : Int))), z13, z14, z15]) ⟨(T19.ext j1).ext j2, SqL.of upd_same, .cons .non (.cons (.int _) (.cons (.bl _) (.cons (Dp.ext j2 _ _ (.tup (SqT.of upd_same) (.cons (.str _) .nil))) .nil))), _, _, _, _, rfl⟩ (fun i σ H _ h => h.2.1) ?_ ?_
              · rintro i2 x σ Hf hx ⟨Tf, hLf, hAf, z10, z13, z14, z15, rfl⟩
                obtain ⟨dx, hdx, hxd⟩ := Ey.DpAll.get hAf hx
                have hns : ∀ s, dx ≠ .str s := fun s e => by
                  have m := List.mem_of_getElem? hdx
                  rw [e] at m
                  simp at m
                refine la_err (errD (-1) 0) (out_read (td := dx) (fun H20 Q' e20 hq => ⟨_, rfl, hq _ _ (Same.refl _) (Dp.extN e20 _ _ hxd)⟩) (fun s e => absurd e (hns s)) (reads_non hns true)) Tf fun va H20 e20 T20 hva => ?_
                refine ⟨_, rfl, len3, fun p np => ?_⟩
                have e8 := upd_ext (o := .tup [.str (Str.ofString "text"), .int (-1), .int 0]) np
                refine ⟨_, _, errD (-1) 0, 20, rfl, Dp.ext e8 _ _ hva, errD_of upd_same, noL_err _ _, rfl, by omega, fun H8 e9 => ⟨_, rfl, if_f rfl ?_⟩⟩
                have E8 := Same.trans e8 e9
                exact ⟨T20.ext E8, SqL.ext E8 (SqL.extN e20 hLf), Dp.extAll E8 _ _ (Dp.extAllN e20 _ _ hAf), _, _, _, _, rfl⟩
              · rintro σ Hf ⟨Tf, _, _, z10, z13, z14, z15, rfl⟩
                refine la_ans (errD 0 4) (out_read (td := .str (Str.ofString "")) (fun H20 Q' e20 hq => hq _ _ (Same.refl _) (.str _)) (by rw [of_cp]; exact empty_cuts.sz) (by rw [of_cp]; exact empty_cuts.reads (empty_due false))) (noL_err _ _) Tf fun va H20 e20 T20 hva => ?_
                refine ⟨len3, fun p np => ?_⟩
                have e8 := upd_ext (o := .tup [.str (Str.ofString "text"), .int 0, .int 4]) np
                refine ⟨_, _, errD 0 4, 20, rfl, Dp.ext e8 _ _ hva, errD_of upd_same, noL_err _ _, rfl, by omega, fun H8 e9 => ?_⟩
                refine ⟨_, rfl, if_t rfl ⟨_, .str (Str.ofString "(-0)"), rfl, .str _, by rw [of_cp]; exact m0_cuts.sz, ?_⟩⟩
                rw [of_cp "(-0)"]
                refine m0_cuts.cutG fun res hr => ?_
                rw [hr.det m0_whole]
                intro v0 H9 e10 hv0
                refine ⟨one_line, fun p10 n10 => ?_⟩
                exact ⟨_, _, .tuple [.int 0], 20, rfl, Dp.ext (upd_ext n10) _ _ hv0, .tup (SqT.of upd_same) (.cons (.int _) .nil), .tuple fun x hx => by rw [List.mem_singleton.mp hx]; exact .int _, rfl, by omega, fun H' _ => hQ H'⟩
            · have c5 : ¬ 2 * (1990 + (mq : Int)) + 1 ≤ 4000 := of_decide_eq_false c5
              have g4 := upd_ext (o := .tup [.str (Str.ofString "size"), .str (Str.ofString "text")]) np7
              have dw : Dp K (upd H14 p7 (.tup [.str (Str.ofString "size"), .str (Str.ofString "text")])) (.ref p7) (wideDue (1989 + mq)) := by
                unfold wideDue
                rw [if_neg (by omega)]
                exact .tup (SqT.of upd_same) (.cons (.str _) (.cons (.str _) .nil))
              have hw15 := Dp.ext g4 _ _ hw
              have T15 := T14.ext g4
              have B15 := B14.ext g4
              have wz : SzOk (wideD (1989 + mq + 1)) := wide_sz (by omega)
              refine la_ans (wideDue (1989 + mq)) (out_text (td := wideD (1989 + mq + 1)) (fun H20 Q' e20 hq => ⟨_, rfl, hq _ _ (Same.refl _) (Dp.extN e20 _ _ hw15)⟩) wz (fun _ => ⟨by rw [wide_len, sizeLine_eq]; omega, fun _ => by rw [wide_txtlen, sizeLine_eq]; omega⟩) (wide_text _)) (wide_ok _).1 T15 fun va3 H16 e16 T16 hva3 => ?_
              refine ⟨_, rfl, _, _, wideDue (1989 + mq), 20, rfl, hva3, Dp.extN e16 _ _ dw, (wide_ok _).1, (wide_ok _).2, by omega, fun H17 e17 => ⟨_, rfl, if_f rfl ?_⟩⟩
              have hw17 := Dp.ext e17 _ _ (Dp.extN e16 _ _ hw15)
              refine ⟨_, rfl, .ref p6, wideD (1989 + mq + 1), rfl, hw17, wz, fun H18 e18 => ⟨_, _, .bool true, 20, rfl, by rw [wide_thing]; exact .bl _, .bl _, .bool _, rfl, by omega, fun H19 e19 => ⟨_, rfl, if_f rfl ?_⟩⟩⟩
              have T19 := T16.ext (Same.trans e17 (Same.trans e18 e19))
              refine ⟨one_line, fun p8 n8 => ⟨by show 4 ≤ sizeLine; rw [sizeLine_eq]; decide, fun p9 n9 => ?_⟩⟩
              have j1 := upd_ext (o := .tup [.str (Str.ofString "a")]) n8
              have j2 := upd_ext (o := .lst [.non, .int 3, .bl true, .ref p8]) n9
              refine ⟨p9, rfl, ⟨_, SqL.of upd_same⟩, ?_⟩
              refine for_list (K := K) (xs := [.non, .int 3, .bl true, .ref p8]) (fun _ σ Hc => Tabs tb Hc ∧ SqL K Hc p9 [.non, .int 3, .bl true, .ref p8] ∧ DpAll K Hc [.non, .int 3, .bl true, .ref p8] [.none, .int 3, .bool true, .tuple [.str (Str.ofString "a")]] ∧ ∃ z10 z13 z14 z15, σ = [some (.ref a), some (.ref b), y2, x3, x4, x5, x6, x7, x8, x9, z10, some v, some (.int (9 + (h0 : Int))), z13, z14, z15]) ⟨(T19.ext j1).ext j2, SqL.of upd_same, .cons .non (.cons (.int _) (.cons (.bl _) (.cons (Dp.ext j2 _ _ (.tup (SqT.of upd_same) (.cons (.str _) .nil))) .nil))), _, _, _, _, rfl⟩ (fun i σ H _ h => h.2.1) ?_ ?_
              · rintro i2 x σ Hf hx ⟨Tf, hLf, hAf, z10, z13, z14, z15, rfl⟩
                obtain ⟨dx, hdx, hxd⟩ := Ey.DpAll.get hAf hx
                have hns : ∀ s, dx ≠ .str s := fun s e => by
                  have m := List.mem_of_getElem? hdx
                  rw [e] at m
                  simp at m
                refine la_err (errD (-1) 0) (out_read (td := dx) (fun H20 Q' e20 hq => ⟨_, rfl, hq _ _ (Same.refl _) (Dp.extN e20 _ _ hxd)⟩) (fun s e => absurd e (hns s)) (reads_non hns true)) Tf fun va H20 e20 T20 hva => ?_
                refine ⟨_, rfl, len3, fun p np => ?_⟩
                have e8 := upd_ext (o := .tup [.str (Str.ofString "text"), .int (-1), .int 0]) np
                refine ⟨_, _, errD (-1) 0, 20, rfl, Dp.ext e8 _ _ hva, errD_of upd_same, noL_err _ _, rfl, by omega, fun H8 e9 => ⟨_, rfl, if_f rfl ?_⟩⟩
                have E8 := Same.trans e8 e9
                exact ⟨T20.ext E8, SqL.ext E8 (SqL.extN e20 hLf), Dp.extAll E8 _ _ (Dp.extAllN e20 _ _ hAf), _, _, _, _, rfl⟩
              · rintro σ Hf ⟨Tf, _, _, z10, z13, z14, z15, rfl⟩
                refine la_ans (errD 0 4) (out_read (td := .str (Str.ofString "")) (fun H20 Q' e20 hq => hq _ _ (Same.refl _) (.str _)) (by rw [of_cp]; exact empty_cuts.sz) (by rw [of_cp]; exact empty_cuts.reads (empty_due false))) (noL_err _ _) Tf fun va H20 e20 T20 hva => ?_
                refine ⟨len3, fun p np => ?_⟩
                have e8 := upd_ext (o := .tup [.str (Str.ofString "text"), .int 0, .int 4]) np
                refine ⟨_, _, errD 0 4, 20, rfl, Dp.ext e8 _ _ hva, errD_of upd_same, noL_err _ _, rfl, by omega, fun H8 e9 => ?_⟩
                refine ⟨_, rfl, if_t rfl ⟨_, .str (Str.ofString "(-0)"), rfl, .str _, by rw [of_cp]; exact m0_cuts.sz, ?_⟩⟩
                rw [of_cp "(-0)"]
                refine m0_cuts.cutG fun res hr => ?_
                rw [hr.det m0_whole]
                intro v0 H9 e10 hv0
                refine ⟨one_line, fun p10 n10 => ?_⟩
                exact ⟨_, _, .tuple [.int 0], 20, rfl, Dp.ext (upd_ext n10) _ _ hv0, .tup (SqT.of upd_same) (.cons (.int _) .nil), .tuple fun x hx => by rw [List.mem_singleton.mp hx]; exact .int _, rfl, by omega, fun H' _ => hQ H'⟩
          · have c' := of_decide_eq_false c'
            have e11 := upd_ext (o := .tup [.str (Str.ofString "text"), .int 12, .int 5]) np'
            refine ⟨_, _, nestD h0, 20, rfl, Dp.ext e11 _ _ hva2, (by unfold nestD; rw [if_neg (by omega)]; exact errD_of upd_same), (nest_ok hh).1, (nest_ok hh).2, by omega, fun H12 e12 => ⟨_, rfl, if_f rfl ?_⟩⟩
            have E12 := Same.trans e11 e12
            have T12 := T10.ext E12
            have B12 := (B8.extN e10).ext E12
            refine ⟨_, rfl, b, 20, rfl, B12, by omega, by omega, fun mq H13 hm f13 => ⟨_, _, rfl, rfl, ?_⟩⟩
            have T13 := f13.tabs B12 T12
            have B13 := f13.box
            have em : (1990 + (mq : Int)).toNat = 1989 + mq + 1 := by omega
            refine ⟨one_line, fun l nl => ⟨_, rfl, l, _, _, rfl, rfl, upd_same, by omega, by omega, by rw [em, sizeLine_eq]; show 1 * _ ≤ _; omega, fun p5 np5 => ⟨p5, _, rfl, .inl ⟨SqL.of upd_same, fun p6 np6 => ?_⟩⟩⟩⟩
            rw [em] at np6 ⊢
            have g1 := upd_ext (o := .lst [V.int 0]) nl
            have g2 := upd_ext (o := .lst (List.replicate (1989 + mq + 1) [V.int 0]).flatten) np5
            have g3 := upd_ext (o := .tup (List.replicate (1989 + mq + 1) [V.int 0]).flatten) np6
            have hw : Dp K (upd (upd (upd H13 l (.lst [V.int 0])) p5 (.lst (List.replicate (1989 + mq + 1) [V.int 0]).flatten)) p6 (.tup (List.replicate (1989 + mq + 1) [V.int 0]).flatten)) (.ref p6) (wideD (1989 + mq + 1)) := rep_dp upd_same
            have B14 := (B13.ext g1).ext (Same.trans g2 g3)
            have T14 := (T13.ext g1).ext (Same.trans g2 g3)
            generalize upd (upd (upd H13 l (.lst [V.int 0])) p5 (.lst (List.replicate (1989 + mq + 1) [V.int 0]).flatten)) p6 (.tup (List.replicate (1989 + mq + 1) [V.int 0]).flatten) = H14 at hw B14 T14 ⊢
            refine ⟨_, rfl, _, _, rfl, rfl, .inl ⟨by decide, by decide⟩, _, _, rfl, rfl, _, _, rfl, rfl, _, rfl, if_b (fun c5 => ⟨_, rfl, _, _, rfl, rfl, _, _, rfl, rfl, by omega, by omega, by rw [show (Str.ofString "0, ").length = 3 by decide +kernel, sizeLine_eq]; omega, by rw [show (Str.ofString "0, ").length = 3 by decide +kernel]; decide, _, _, rfl, rfl, (by rw [rep_S, S_len, reps_len, show (Str.ofString "(").length = 1 by decide +kernel, show (cp "0, ").length = 3 by decide +kernel, sizeLine_eq]; omega), _, _, rfl, rfl, ?_, two2, fun p7 np7 => ?_⟩) fun c5 => ⟨two2, fun p7 np7 => ?_⟩⟩
            · rw [rep_S, of_cp "(", S_app, S_len, List.length_append, reps_len, show (cp "(").length = 1 by decide +kernel, show (cp "0, ").length = 3 by decide +kernel, show (Str.ofString "0)").length = 2 by decide +kernel, sizeLine_eq]
              omega
            · have c5 : 2 * (1990 + (mq : Int)) + 1 ≤ 4000 := of_decide_eq_true c5
              have es : Str.ofString "(" ++ (⟨((List.replicate (1990 + (mq : Int) - 1).toNat (Str.ofString "0, ").cps.toList).flatten).toArray⟩ : Str) ++ Str.ofString "0)" = S (cp "(" ++ reps (1989 + mq) (cp "0, ") ++ cp "0)") := by
                rw [rep_S, of_cp "(", of_cp "0)", S_app, S_app, show (1990 + (mq : Int) - 1).toNat = 1989 + mq by omega]
              have g4 := upd_ext (o := .tup [.str (Str.ofString "value"), .str (Str.ofString "(" ++ (⟨((List.replicate (1990 + (mq : Int) - 1).toNat (Str.ofString "0, ").cps.toList).flatten).toArray⟩ : Str) ++ Str.ofString "0)")]) np7
              have dw : Dp K (upd H14 p7 (.tup [.str (Str.ofString "value"), .str (Str.ofString "(" ++ (⟨((List.replicate (1990 + (mq : Int) - 1).toNat (Str.ofString "0, ").cps.toList).flatten).toArray⟩ : Str) ++ Str.ofString "0)")])) (.ref p7) (wideDue (1989 + mq)) := by
                unfold wideDue
                rw [if_pos (by omega), ← es]
                exact .tup (SqT.of upd_same) (.cons (.str _) (.cons (.str _) .nil))
              have hw15 := Dp.ext g4 _ _ hw
              have T15 := T14.ext g4
              have B15 := B14.ext g4
              have wz : SzOk (wideD (1989 + mq + 1)) := wide_sz (by omega)
              refine la_ans (wideDue (1989 + mq)) (out_text (td := wideD (1989 + mq + 1)) (fun H20 Q' e20 hq => ⟨_, rfl, hq _ _ (Same.refl _) (Dp.extN e20 _ _ hw15)⟩) wz (fun _ => ⟨by rw [wide_len, sizeLine_eq]; omega, fun _ => by rw [wide_txtlen, sizeLine_eq]; omega⟩) (wide_text _)) (wide_ok _).1 T15 fun va3 H16 e16 T16 hva3 => ?_
              refine ⟨_, rfl, _, _, wideDue (1989 + mq), 20, rfl, hva3, Dp.extN e16 _ _ dw, (wide_ok _).1, (wide_ok _).2, by omega, fun H17 e17 => ⟨_, rfl, if_f rfl ?_⟩⟩
              have hw17 := Dp.ext e17 _ _ (Dp.extN e16 _ _ hw15)
              refine ⟨_, rfl, .ref p6, wideD (1989 + mq + 1), rfl, hw17, wz, fun H18 e18 => ⟨_, _, .bool true, 20, rfl, by rw [wide_thing]; exact .bl _, .bl _, .bool _, rfl, by omega, fun H19 e19 => ⟨_, rfl, if_f rfl ?_⟩⟩⟩
              have T19 := T16.ext (Same.trans e17 (Same.trans e18 e19))
              refine ⟨one_line, fun p8 n8 => ⟨by show 4 ≤ sizeLine; rw [sizeLine_eq]; decide, fun p9 n9 => ?_⟩⟩
              have j1 := upd_ext (o := .tup [.str (Str.ofString "a")]) n8
              have j2 := upd_ext (o := .lst [.non, .int 3, .bl true, .ref p8]) n9
              refine ⟨p9, rfl, ⟨_, SqL.of upd_same⟩, ?_⟩
              refine for_list (K := K) (xs := [.non, .int 3, .bl true, .ref p8]) (fun _ σ Hc => Tabs tb Hc ∧ SqL K Hc p9 [.non, .int 3, .bl true, .ref p8] ∧ DpAll K Hc [.non, .int 3, .bl true, .ref p8] [.none, .int 3, .bool true, .tuple [.str (Str.ofString "a")]] ∧ ∃ z10 z13 z14 z15, σ = [some (.ref a), some (.ref b), y2, x3, x4, x5, x6, x7, x8, x9, z10, some v, some (.int (9 + (h0 : Int))), z13, z14, z15]) ⟨(T19.ext j1).ext j2, SqL.of upd_same, .cons .non (.cons (.int _) (.cons (.bl _) (.cons (Dp.ext j2 _ _ (.tup (SqT.of upd_same) (.cons (.str _) .nil))) .nil))), _, _, _, _, rfl⟩ (fun i σ H _ h => h.2.1) ?_ ?_
              · rintro i2 x σ Hf hx ⟨Tf, hLf, hAf, z10, z13, z14, z15, rfl⟩
                obtain ⟨dx, hdx, hxd⟩ := Ey.DpAll.get hAf hx
                have hns : ∀ s, dx ≠ .str s := fun s e => by
                  have m := List.mem_of_getElem? hdx
                  rw [e] at m
                  simp at m
                refine la_err (errD (-1) 0) (out_read (td := dx) (fun H20 Q' e20 hq => ⟨_, rfl, hq _ _ (Same.refl _) (Dp.extN e20 _ _ hxd)⟩) (fun s e => absurd e (hns s)) (reads_non hns true)) Tf fun va H20 e20 T20 hva => ?_
                refine ⟨_, rfl, len3, fun p np => ?_⟩
                have e8 := upd_ext (o := .tup [.str (Str.ofString "text"), .int (-1), .int 0]) np
                refine ⟨_, _, errD (-1) 0, 20, rfl, Dp.ext e8 _ _ hva, errD_of upd_same, noL_err _ _, rfl, by omega, fun H8 e9 => ⟨_, rfl, if_f rfl ?_⟩⟩
                have E8 := Same.trans e8 e9
                exact ⟨T20.ext E8, SqL.ext E8 (SqL.extN e20 hLf), Dp.extAll E8 _ _ (Dp.extAllN e20 _ _ hAf), _, _, _, _, rfl⟩
              · rintro σ Hf ⟨Tf, _, _, z10, z13, z14, z15, rfl⟩
                refine la_ans (errD 0 4) (out_read (td := .str (Str.ofString "")) (fun H20 Q' e20 hq => hq _ _ (Same.refl _) (.str _)) (by rw [of_cp]; exact empty_cuts.sz) (by rw [of_cp]; exact empty_cuts.reads (empty_due false))) (noL_err _ _) Tf fun va H20 e20 T20 hva => ?_
                refine ⟨len3, fun p np => ?_⟩
                have e8 := upd_ext (o := .tup [.str (Str.ofString "text"), .int 0, .int 4]) np
                refine ⟨_, _, errD 0 4, 20, rfl, Dp.ext e8 _ _ hva, errD_of upd_same, noL_err _ _, rfl, by omega, fun H8 e9 => ?_⟩
                refine ⟨_, rfl, if_t rfl ⟨_, .str (Str.ofString "(-0)"), rfl, .str _, by rw [of_cp]; exact m0_cuts.sz, ?_⟩⟩
                rw [of_cp "(-0)"]
                refine m0_cuts.cutG fun res hr => ?_
                rw [hr.det m0_whole]
                intro v0 H9 e10 hv0
                refine ⟨one_line, fun p10 n10 => ?_⟩
                exact ⟨_, _, .tuple [.int 0], 20, rfl, Dp.ext (upd_ext n10) _ _ hv0, .tup (SqT.of upd_same) (.cons (.int _) .nil), .tuple fun x hx => by rw [List.mem_singleton.mp hx]; exact .int _, rfl, by omega, fun H' _ => hQ H'⟩
            · have c5 : ¬ 2 * (1990 + (mq : Int)) + 1 ≤ 4000 := of_decide_eq_false c5
              have g4 := upd_ext (o := .tup [.str (Str.ofString "size"), .str (Str.ofString "text")]) np7
              have dw : Dp K (upd H14 p7 (.tup [.str (Str.ofString "size"), .str (Str.ofString "text")])) (.ref p7) (wideDue (1989 + mq)) := by
                unfold wideDue
                rw [if_neg (by omega)]
                exact .tup (SqT.of upd_same) (.cons (.str _) (.cons (.str _) .nil))
              have hw15 := Dp.ext g4 _ _ hw
              have T15 := T14.ext g4
              have B15 := B14.ext g4
              have wz : SzOk (wideD (1989 + mq + 1)) := wide_sz (by omega)
              refine la_ans (wideDue (1989 + mq)) (out_text (td := wideD (1989 + mq + 1)) (fun H20 Q' e20 hq => ⟨_, rfl, hq _ _ (Same.refl _) (Dp.extN e20 _ _ hw15)⟩) wz (fun _ => ⟨by rw [wide_len, sizeLine_eq]; omega, fun _ => by rw [wide_txtlen, sizeLine_eq]; omega⟩) (wide_text _)) (wide_ok _).1 T15 fun va3 H16 e16 T16 hva3 => ?_
              refine ⟨_, rfl, _, _, wideDue (1989 + mq), 20, rfl, hva3, Dp.extN e16 _ _ dw, (wide_ok _).1, (wide_ok _).2, by omega, fun H17 e17 => ⟨_, rfl, if_f rfl ?_⟩⟩
              have hw17 := Dp.ext e17 _ _ (Dp.extN e16 _ _ hw15)
              refine ⟨_, rfl, .ref p6, wideD (1989 + mq + 1), rfl, hw17, wz, fun H18 e18 => ⟨_, _, .bool true, 20, rfl, by rw [wide_thing]; exact .bl _, .bl _, .bool _, rfl, by omega, fun H19 e19 => ⟨_, rfl, if_f rfl ?_⟩⟩⟩
              have T19 := T16.ext (Same.trans e17 (Same.trans e18 e19))
              refine ⟨one_line, fun p8 n8 => ⟨by show 4 ≤ sizeLine; rw [sizeLine_eq]; decide, fun p9 n9 => ?_⟩⟩
              have j1 := upd_ext (o := .tup [.str (Str.ofString "a")]) n8
              have j2 := upd_ext (o := .lst [.non, .int 3, .bl true, .ref p8]) n9
              refine ⟨p9, rfl, ⟨_, SqL.of upd_same⟩, ?_⟩
              refine for_list (K := K) (xs := [.non, .int 3, .bl true, .ref p8]) (fun _ σ Hc => Tabs tb Hc ∧ SqL K Hc p9 [.non, .int 3, .bl true, .ref p8] ∧ DpAll K Hc [.non, .int 3, .bl true, .ref p8] [.none, .int 3, .bool true, .tuple [.str (Str.ofString "a")]] ∧ ∃ z10 z13 z14 z15, σ = [some (.ref a), some (.ref b), y2, x3, x4, x5, x6, x7, x8, x9, z10, some v, some (.int (9 + (h0 : Int))), z13, z14, z15]) ⟨(T19.ext j1).ext j2, SqL.of upd_same, .cons .non (.cons (.int _) (.cons (.bl _) (.cons (Dp.ext j2 _ _ (.tup (SqT.of upd_same) (.cons (.str _) .nil))) .nil))), _, _, _, _, rfl⟩ (fun i σ H _ h => h.2.1) ?_ ?_
              · rintro i2 x σ Hf hx ⟨Tf, hLf, hAf, z10, z13, z14, z15, rfl⟩
                obtain ⟨dx, hdx, hxd⟩ := Ey.DpAll.get hAf hx
                have hns : ∀ s, dx ≠ .str s := fun s e => by
                  have m := List.mem_of_getElem? hdx
                  rw [e] at m
                  simp at m
                refine la_err (errD (-1) 0) (out_read (td := dx) (fun H20 Q' e20 hq => ⟨_, rfl, hq _ _ (Same.refl _) (Dp.extN e20 _ _ hxd)⟩) (fun s e => absurd e (hns s)) (reads_non hns true)) Tf fun va H20 e20 T20 hva => ?_
                refine ⟨_, rfl, len3, fun p np => ?_⟩
                have e8 := upd_ext (o := .tup [.str (Str.ofString "text"), .int (-1), .int 0]) np
                refine ⟨_, _, errD (-1) 0, 20, rfl, Dp.ext e8 _ _ hva, errD_of upd_same, noL_err _ _, rfl, by omega, fun H8 e9 => ⟨_, rfl, if_f rfl ?_⟩⟩
                have E8 := Same.trans e8 e9
                exact ⟨T20.ext E8, SqL.ext E8 (SqL.extN e20 hLf), Dp.extAll E8 _ _ (Dp.extAllN e20 _ _ hAf), _, _, _, _, rfl⟩
              · rintro σ Hf ⟨Tf, _, _, z10, z13, z14, z15, rfl⟩
                refine la_ans (errD 0 4) (out_read (td := .str (Str.ofString "")) (fun H20 Q' e20 hq => hq _ _ (Same.refl _) (.str _)) (by rw [of_cp]; exact empty_cuts.sz) (by rw [of_cp]; exact empty_cuts.reads (empty_due false))) (noL_err _ _) Tf fun va H20 e20 T20 hva => ?_
                refine ⟨len3, fun p np => ?_⟩
                have e8 := upd_ext (o := .tup [.str (Str.ofString "text"), .int 0, .int 4]) np
                refine ⟨_, _, errD 0 4, 20, rfl, Dp.ext e8 _ _ hva, errD_of upd_same, noL_err _ _, rfl, by omega, fun H8 e9 => ?_⟩
                refine ⟨_, rfl, if_t rfl ⟨_, .str (Str.ofString "(-0)"), rfl, .str _, by rw [of_cp]; exact m0_cuts.sz, ?_⟩⟩
                rw [of_cp "(-0)"]
                refine m0_cuts.cutG fun res hr => ?_
                rw [hr.det m0_whole]
                intro v0 H9 e10 hv0
                refine ⟨one_line, fun p10 n10 => ?_⟩
                exact ⟨_, _, .tuple [.int 0], 20, rfl, Dp.ext (upd_ext n10) _ _ hv0, .tup (SqT.of upd_same) (.cons (.int _) .nil), .tuple fun x hx => by rw [List.mem_singleton.mp hx]; exact .int _, rfl, by omega, fun H' _ => hQ H'⟩
end K85

set_option Elab.async false
set_option linter.all false
set_option maxRecDepth 100000
set_option maxHeartbeats 0
namespace K85
open PySem PySem.Spec PyProof.Rows L2 LamX
abbrev Ro : PySem.W.OpenRow := PySem.W.OpenLaw.row PySem.Challenge.rw_eyesahead_k85_whole_texts_of_things
abbrev hk : PySem.W.Hook := Ey.hookE 5 PySem.Challenge.pw_eyesahead_k85_whole_texts_of_things.main.file fa fn es tf ex
def ob (s : PySem.W.SharedT) : Ey.AlE := Ey.obsE 5 PySem.Challenge.pw_eyesahead_k85_whole_texts_of_things.main.file fa fn es tf ex (HandSHeadRun.getT s)
theorem ob_eq (s : PySem.W.SharedT) : ob s = hk.obs s.abs := Ey.obsE_eq (HandSHeadRun.getT_eq s)
theorem run (w : World) : HandSHeadRun.RunEq Ro (PySem.W.view Ro.prog [iLaw]) hk ob 12000 loose w := by
  intro os
  kernel_rfl
def tbs (K : PySem.W.Frag) : List (Addr × Str) := [((He.cT K ("_law_answer", none)).2, lamQ d__law_answer), ((He.cT K ("law", none)).2, lamQ d_law)]
theorem facts {P : Program} {w : World} {K : PySem.W.Frag} {h : Heap} {mg : Str → Option Value} {f : Addr} (hP : P.main.file = PySem.Challenge.pw_eyesahead_k85_whole_texts_of_things.main.file) (hS : (P.main.scope.names.lookup ("super" : Str)).isSome = false) (X : K.In h) (G : h.Ns mainGlobals mg) (hfa : mg ("law" : Str) = some (.ref f)) (c : Ey.SaysE P.main.file fa fn es tf ex h K) :
    ∃ (fd : FuncData) (cs : List (Addr × Addr)) (sp : Sp), (∀ p ∈ cs, h.get? p.2 = some { cls := .none, data := .fields #[] }) ∧ (∀ p ∈ cs, K.lookup p.2 = none) ∧ (∀ p ∈ cs, PySem.W.CodeHd h p.1 p.2) ∧ (∀ (s : Shared) (u : Value), BindsTo s fd ⟨[u], []⟩ [("script", u)]) ∧
    (∀ (H : Hp) (a : Addr) (ns : List Int), ns.length ≤ 63 → (∀ z ∈ ns, Builtin.Int.intBits z ≤ 1048576) → (∀ p ∈ cs, H p.2 = some (.tbl #[])) → SqL K H a (ns.map V.int) → sp [.ref a] H (fun v _ => v = .bl true) fun _ _ _ => False) ∧
    ∀ base : Heap, K.In base → base.Ns mainGlobals mg → (∀ p ∈ cs, TabB base mg p.1 p.2) → FnOk P w K mg base C8.CX0 25 f fd ["script"] sp := by
  have T := t_of (w := w) hP hS X G c (He.free_ok X G (c.d.fact 48 rfl))
  have eT := hfa.symm.trans T.g_law
  cases eT
  have hne : (He.cT K ("_law_answer", none)).2 ≠ (He.cT K ("law", none)).2 := by
    have z := c.more
    unfold ex at z
    simpa using z
  refine ⟨Ey.fdAt K d_law, tf.map (He.cT K), sp_law K (tbs K), ?_, ?_, ?_, ?_, ?_, ?_⟩
  · intro p hp
    obtain ⟨q, hq, rfl⟩ := List.mem_map.mp hp
    exact c.empty q hq
  · intro p hp
    obtain ⟨q, hq, rfl⟩ := List.mem_map.mp hp
    exact c.out q hq
  · intro p hp
    obtain ⟨q, hq, rfl⟩ := List.mem_map.mp hp
    exact PySem.W.codeHd_of_K X (c.hd q hq)
  · exact fun s v => (FunD.bindsA (ps := ["script"]) (Ey.FnAs.d T.f_law) fun _ _ _ _ _ _ us hl => match us, hl with | [_], _ => rfl) s [v] rfl
  · intro H a ns hl _ ht hS
    refine ⟨a, ns, rfl, hS, hl, fun p hp => ?_, fun _ => rfl⟩
    simp only [tbs, List.mem_cons, List.not_mem_nil, or_false] at hp
    rcases hp with rfl | rfl
    · exact TabS.nil (ht _ (List.mem_map.mpr ⟨_, by simp [tf], rfl⟩))
    · exact TabS.nil (ht _ (List.mem_map.mpr ⟨_, by simp [tf], rfl⟩))
  · intro base _ _ hb
    have B : Tb K mg base (tbs K) := {
      b1 := hb _ (List.mem_map.mpr ⟨_, by simp [tf], rfl⟩)
      m1 := by simp [tbs]
      u1 := fun p hp e => by
        simp only [tbs, List.mem_cons, List.not_mem_nil, or_false] at hp
        rcases hp with rfl | rfl
        · rfl
        · exact absurd e.symm hne
      b2 := hb _ (List.mem_map.mpr ⟨_, by simp [tf], rfl⟩)
      m2 := by simp [tbs]
      u2 := fun p hp e => by
        simp only [tbs, List.mem_cons, List.not_mem_nil, or_false] at hp
        rcases hp with rfl | rfl
        · exact absurd e hne
        · rfl }
    exact ok_law T B
end K85
open PySem PySem.W PySem.Calls PyProof.Rows
theorem PySem.Challenge.cw_eyesahead_k85_whole_texts_of_things_holds : PySem.Challenge.rw_eyesahead_k85_whole_texts_of_things.Holds := by
  w_on; o_law
  refine HandSHeadRun.head_any (r := OpenLaw.row PySem.Challenge.rw_eyesahead_k85_whole_texts_of_things) (q := view (OpenLaw.row PySem.Challenge.rw_eyesahead_k85_whole_texts_of_things).prog [K85.iLaw]) (H := K85.hk) (ob := K85.ob) (M := 12000) (loose := K85.loose) (d := HandSHeadRun.topDef (OpenLaw.row PySem.Challenge.rw_eyesahead_k85_whole_texts_of_things).prog K85.iLaw) (kwd := []) K85.ob_eq
    (by kernel_rfl) (fun s => by kernel_rfl) K85.run (by kernel_rfl) (by kernel_rfl) (by kernel_rfl) (by rfl) (by first | assumption | decide +kernel) (by decide +kernel) ⟨rfl, rfl, rfl, rfl, rfl, by decide +kernel⟩ ?hw ?hc
  case hw => w_witness2
  case hc =>
    refine LamX.walk_ofTsE (l := PySem.Challenge.rw_eyesahead_k85_whole_texts_of_things) (n := 63) (k := 25) (x := "script") (CX := fun _ => C8.CX0) rfl (by rw [sizeLine_eq]; decide) (by kernel_rfl) ⟨rfl, by decide, by decide⟩ ?F (fun _ _ _ _ _ z => z)
    intro w mg fa h Y G hmg0
    obtain ⟨K, KX, c⟩ := Y
    have hmg : mg ("law" : PySem.Str) = some (.ref fa) := by
      have e : (HandSHeadRun.topDef (OpenLaw.row PySem.Challenge.rw_eyesahead_k85_whole_texts_of_things).prog K85.iLaw).name = ("law" : PySem.Str) := by kernel_rfl
      rw [← e]
      exact hmg0
    exact ⟨K, KX, K85.facts (P := (PySem.Challenge.rw_eyesahead_k85_whole_texts_of_things).prog) (w := w) rfl (by decide +kernel) KX G hmg c⟩

