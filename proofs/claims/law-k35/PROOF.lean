import PyProof.Rows.All
import Wide.All
import OpenK.AllK
import Wide.FinOn
import KE.KStateDown
import HandS.ForMost
import HandS.ForExc
import HandS.Defaults
import HandS.More
import HandS.Head0
import HandS.Head1
import HandS.Head2
import HandS.HeadEnd
import HandS.HeadHook1
import HandS.HeadHook2
import HandS.HeadHook3
import HandS.ExcInit
import HandS.ExcField
import HandS.ExcIs
import HandS.Property
import HandS.IsInst
import HandS.TupAny
import HandS.Deep
import HandS.ClsMeth
import PySem.Challenge.RW_talkalike_k35_whole_accepted_texts
import KE.GoesRaise
import Lean
import HandS.Walk
import HandS.Zip
import HandS.Steps
import HandS.ExcOwn
import HandS.WordsExc
set_option Elab.async false
set_option linter.all false
set_option maxRecDepth 100000
set_option maxHeartbeats 4000000
namespace L2.Ta
open PySem PySem.Spec PyProof.Rows L2
/-! ### the text by places -/
def top (i : Nat) : Stmt := PySem.Challenge.pw_talkalike_k35_whole_accepted_texts.main.body.getD i (.Pass ⟨0, 0, 0, 0⟩)
/-! ### a def as the head's facts tell it -/
structure Df where
  adr : PySem.W.Frag → Addr
  name : Str
  qual : Str
  st : Stmt
  dfl : PySem.W.Frag → List V
def fnAt (K : PySem.W.Frag) (a : Addr) : He.FnW := match K.lookup a with
  | some ⟨_, _, .func fd, _⟩ => some (fd.name, fd.qualname, fd.params, fd.body, fd.scope, fd.globals, fd.closure, fd.builtins)
  | _ => none
def Df.val (d : Df) : He.FnW := some (d.name, d.qual, defArgs d.st, .stmts (defBody d.st), defScope d.st, mainGlobals, [], builtinsNs)
def Df.ok (K : PySem.W.Frag) (d : Df) : Bool := PySem.W.keepIn K (.ref (d.adr K)) && (match K.lookup (d.adr K) with
  | some ⟨_, _, .func fd, _⟩ => PySem.W.codeIn K fd.code d.qual && He.dflB K fd.defaults (d.dfl K)
  | _ => false)
/-- a def of the text, its defaults -/
abbrev FunT (K : PySem.W.Frag) (x qual : Str) (st : Stmt) (dvs : List V) (f : Addr) (fd : FuncData) : Prop := FunD K x qual (defArgs st) (defBody st) (defScope st) dvs [] f fd
theorem Df.funD {K : PySem.W.Frag} {d : Df} (e : fnAt K (d.adr K) = d.val) (c : d.ok K = true) : ∃ fd, FunT K d.name d.qual d.st (d.dfl K) (d.adr K) fd := by
  obtain ⟨kp, c2⟩ := He.ba c
  unfold fnAt at e
  cases q : K.lookup (d.adr K) with
  | none => rw [q] at c2; cases c2
  | some o =>
    obtain ⟨oc, od, dt, osl⟩ := o
    rw [q] at c2 e
    cases dt with
    | func fd =>
      obtain ⟨n1, n2, n3, n4, n5, n6, n7, n8, n9, n10, n11, n12, n13, n14, n15⟩ := fd
      have e2 : (some (n1, n2, n3, n4, n5, n6, n7, n15) : He.FnW) = some (d.name, d.qual, defArgs d.st, .stmts (defBody d.st), defScope d.st, mainGlobals, [], builtinsNs) := e
      simp only [Option.some.injEq, Prod.mk.injEq] at e2
      obtain ⟨h1, h2, h3, h4, h5, h6, h7, h8⟩ := e2
      subst h1 h2 h3 h4 h5 h6 h7 h8
      have c3 : (PySem.W.codeIn K n13 d.qual && He.dflB K n8 (d.dfl K)) = true := c2
      obtain ⟨k1, k2⟩ := He.ba c3
      exact ⟨_, ⟨oc, od, n8, n9, n10, n11, n12, n13, n14, osl, rfl, q, k1, He.dflB_ok k2, .inl rfl⟩, kp⟩
    | _ => cases c2
/-! ### the Hook: one Bool, the defs, the tables -/
abbrev AlM : Type := Bool × List He.FnW × List (Option (List (Option (Str × Int))))
def obsM (fa : PySem.W.Frag → Bool) (fn : List Df) (ts : List He.Tab) (K : PySem.W.Frag) : AlM := (fa K && fn.all (fun d => d.ok K), fn.map (fun d => fnAt K (d.adr K)), ts.map fun t => He.dicW K (t.1 K))
def valM (fn : List Df) (ts : List He.Tab) (w : World) : AlM := (true, fn.map Df.val, ts.map fun t => some (He.keysIn w.params t.2))
def SaysM (fa : PySem.W.Frag → Bool) (fn : List Df) (ts : List He.Tab) (w : World) (K : PySem.W.Frag) : Prop := obsM fa fn ts K = valM fn ts w
/-- what a def, a class, a property's record names -/
def refsF (o : Obj) : List Addr := match o.data with
  | .func fd => He.refV fd.code ++ He.refV fd.defaults
  | .cls cd => [cd.ns]
  | .fields vs => match o.cls with
    | .type c => match decide (c = "property") with
      | true => vs.toList.flatMap He.refV
      | false => []
    | _ => []
  | _ => []
def refsN (o : Obj) : List Addr := match o.data with
  | .dict es _ => es.toList.flatMap fun e => He.refV e.val
  | _ => []
def nextF (f : Obj → List Addr) (g : Addr → Option Obj) (as : List Addr) : List Addr := as.flatMap fun a => match g a with
  | some o => f o
  | none => []
/-- the module's names, what defs and classes name, the classes' names, what these name, getters' codes -/
def asF (g : Addr → Option Obj) : List Addr :=
  let l1 := nextF refsN g [mainGlobals]
  let l2 := nextF refsF g l1
  let l3 := nextF refsN g l2
  let l4 := nextF refsF g l3
  let l5 := nextF refsF g l4
  mainGlobals :: cStatics :: (l1 ++ (l2 ++ (l3 ++ (l4 ++ l5))))
def obsMG (n : Nat) (fa : PySem.W.Frag → Bool) (fn : List Df) (ts : List He.Tab) (g : Addr → Option Obj) : AlM := obsM fa fn ts (He.frG g (asF g))
def hookM (n : Nat) (fa : PySem.W.Frag → Bool) (fn : List Df) (ts : List He.Tab) : PySem.W.Hook where
  α := AlM
  obs := fun s => obsMG n fa fn ts s.heap.get?
  val := fun w => valM fn ts w
  says := fun w h => ∃ K : PySem.W.Frag, K.In h ∧ SaysM fa fn ts w K
  of := fun _ _ e => ⟨_, He.frG_in, e⟩
  keeps := fun _ _ _ ⟨K, hK, c⟩ k => ⟨K, PySem.W.Frag.In.keeps hK k, c⟩
theorem obsMG_eq {n : Nat} {fa : PySem.W.Frag → Bool} {fn : List Df} {ts : List He.Tab} {g : Addr → Option Obj} {s : Shared} (h : ∀ a, g a = s.heap.get? a) : obsMG n fa fn ts g = (hookM n fa fn ts).obs s := by
  have e : g = s.heap.get? := funext h
  rw [e] <;> rfl
section
variable {fa : PySem.W.Frag → Bool} {fn : List Df} {ts : List He.Tab} {w : World} {K : PySem.W.Frag}
theorem SaysM.fact (c : SaysM fa fn ts w K) : fa K = true := (He.ba (show (fa K && fn.all fun d => d.ok K) = true from congrArg (fun z : AlM => z.1) c)).1
theorem SaysM.def_ (c : SaysM fa fn ts w K) (i : Nat) {d : Df} (h : fn[i]? = some d := by rfl) : ∃ fd, FunT K d.name d.qual d.st (d.dfl K) (d.adr K) fd := by
  have c2 := (He.ba (show (fa K && fn.all fun d => d.ok K) = true from congrArg (fun z : AlM => z.1) c)).2
  have e : fn.map (fun d => fnAt K (d.adr K)) = fn.map Df.val := congrArg (fun z : AlM => z.2.1) c
  have e2 : (fn.map fun d => fnAt K (d.adr K))[i]? = (fn.map Df.val)[i]? := by rw [e]
  rw [List.getElem?_map, List.getElem?_map, h] at e2
  exact Df.funD (Option.some.inj e2) (List.all_eq_true.mp c2 d (List.mem_of_getElem? h))
theorem SaysM.tab (c : SaysM fa fn ts w K) (i : Nat) {t : He.Tab} (h : ts[i]? = some t := by rfl) : ∃ es n, KDict K w (t.1 K) es n := by
  have e : ts.map (fun t => He.dicW K (t.1 K)) = ts.map fun t => some (He.keysIn w.params t.2) := congrArg (fun z : AlM => z.2.2) c
  have e2 : (ts.map fun t => He.dicW K (t.1 K))[i]? = (ts.map fun t => some (He.keysIn w.params t.2))[i]? := by rw [e]
  rw [List.getElem?_map, List.getElem?_map, h] at e2
  exact He.dicW_ok (Option.some.inj e2)
end
/-! ### where the defs stand -/
def gaf (x : Str) (K : PySem.W.Frag) : Addr := He.ga K x
def maf (C m : Str) (K : PySem.W.Frag) : Addr := He.ma K (He.ga K C) m
/-- the getter of a property -/
def pgf (C m : Str) (K : PySem.W.Frag) : Addr := match PySem.W.recIn K (He.ma K (He.ga K C) m) "property" with
  | some (.ref g :: _) => g
  | _ => 0
end L2.Ta

set_option maxHeartbeats 4000000
/-! rules that the hand layer lacks -/
namespace L2.Ta
open PySem PySem.Spec PyProof.Rows L2
/-! ### C.m(..), a def of the class at C read off the class by its name -/
section
variable {X : Cx} {CX : CXT} {k : Nat} {C f : Addr} {mc : Value} {fd : FuncData} {ps : List Str} {sp : Sp} {dvs : List V} {ds : List Value} {E : XK} {x m : Str} {e : Expr} {es : List Expr} {p1 p2 pos : Pos} {t : TA} {pl : Sem Bool}
theorem pe_clsf (hg : Gl X x) (hm : X.mg x = some (.ref C)) (r : ClX.CRead X.K C mc) (hk : PySem.W.findCls X.K (.ref C) mc m = some (.val (.ref f)))
    (F : FnOk X.prog X.w X.K X.mg X.base CX k f fd ps sp) (hr : Room k X.A) (kp : PySem.W.keepIn X.K (.ref f) = true) (hb : Binds X.K fd ps ds) (hd : Vals dvs ds) (hx : Passes CX X E) (ha : PA X (e :: es) t)
    (hdb : (x == ("__debug__" : Str)) = false := by decide)
    (hst : starEach (e :: es) X.env = (false, eval e X.env) :: starEach es X.env := by rfl) (hpl : (backTo pos (starEach es X.env)).any (·.1) = false := by rfl)
    (ht : eval (.Call (.Attribute (.Name x p1) m p2) (e :: es) [] pos) X.env = (do
      let ov ← eval (.Name x p1) X.env
      standAt p2.atName
      let (f, first) ← holding [ov] (getMethod ov m pl)
      callWith pos f first (backTo pos (starEach (e :: es) X.env)) (backToKw pos (keywordEach [] X.env))) := by rfl) :
    PE X (.Call (.Attribute (.Name x p1) m p2) (e :: es) [] pos) (tCall sp dvs E t) := by
  refine ⟨fun pins s σ H Q I h => ?_⟩
  refine PySem.W.methodCall_KW (pl := pl) (ld_glob I hg hm ?_ hdb) ht
  refine PySem.W.method_cls I.kIn r.ga (ClX.getcval_ok (v := .ref f) I r ⟨hk, rfl⟩ fun s2 I2 => ?_)
  refine PySem.W.callWith_K (h₀ := X.base) I.ok.mod.kin kp (thn (ha.run pos pins s2 σ H _ I2 h) fun us s1 ⟨vs, H1, I1, r, q⟩ => ⟨I1.kIn, ?_⟩) hst hpl
  exact run_fn F hr hb hd hx I1 r q
end
/-! ### D.get(key, default), D a dict of the top with text keys -/
section
variable {X : Cx} {d : Addr} {es : Array DictEntry} {n : Nat} {o e f : Expr} {apos cpos : Pos} {td ty tx : TE}
def tKGet (K : PySem.W.Frag) (d : Addr) (td ty tx : TE) : TE := fun σ H Q => td σ H fun x H1 => x = .ref d ∧ ty σ H1 fun y H2 => tx σ H2 fun z H3 => ∃ (k : Str) (r : Option Value) (v : V), y = .str k ∧ PySem.W.nsIn K d k = some r ∧ (match r with | some u => RelV v u | none => v = z) ∧ Q v H3
theorem pe_kget2 (D : KDict X.K X.w d es n) (ho : PE X o td) (he : PE X e ty) (hf : PE X f tx) (m : M2 X o "get" apos e f cpos) : PE X (.Call (.Attribute o "get" apos) [e, f] [] cpos) (tKGet X.K d td ty tx) := by
  refine ⟨fun pins s σ H Q I h => ?_⟩
  refine wpAny_Call_method m.base m.few m.line PySem.F.plainAttrs_dict PySem.F.slot_dict_get PySem.F.type_dict_get (thn (ho.run pins s σ H _ I h) fun u s1 ⟨x, H1, I1, rx, ex, q1⟩ => ?_)
  subst ex
  obtain rfl : u = Value.ref d := rx
  refine ⟨kd_type D I1, fun a ea => ?_, ?_⟩
  · cases ea
    exact ⟨_, I1.kIn _ _ D.at_, rfl⟩
  rw [m.trees]
  refine Calls.callWith_builtin rfl (Calls.evalArgs_plain (Calls.spliced_cons (thn (he.run pins s1 σ H1 _ I1 q1) fun iv s2 ⟨y, H2, I2, ry, q2⟩ =>
    Calls.spliced_cons (thn (hf.run pins s2 σ H2 _ I2 q2) fun fv s3 ⟨z, H3, I3, rz, k, r, v, ey, en, hv, q3⟩ => Calls.spliced_nil ?_))))
  subst ey
  obtain ⟨t, rfl⟩ := ry
  have mp := PySem.W.mapOf_K (prog := X.prog) (w := X.w) I3.kIn D.at_ D.lit
  refine call_meetsIn PySem.F.slot_dict_get (kd_type D I3) PySem.F.entry_dict_get (PySem.F.args_dict_get_3 _ _ _) (meets_dict_get_default (strKind X.prog X.w) d (strKind_is X.prog X.w k t) D.low fv) ⟨_, mp, ?_⟩
  rw [PySem.W.find_K D.at_ en]
  refine ⟨v, H3, I3.tok _, ?_, q3⟩
  cases r with
  | none => subst hv; exact rz
  | some u => exact hv
end
/-! ### isinstance(e, c), e a caught error with its own dict -/
end L2.Ta
namespace PySem.W
open PySem PySem.Spec PySem.Calls PyProof.Rows
section
variable {prog : Program} {w : World} {A : Around} {E : Value → Shared → Prop} {s : Shared} {K : Frag} {x D : Addr} {ox : Obj} {od : Option Obj}
theorem ta_kin_classE {Q : Option Value → Shared → Prop} (hga : findIn K (.ref D) "__getattribute__" = some (some (.builtin "BaseException.__getattribute__"))) (hgt : findIn K (.ref D) "__getattr__" = some none) (hsub : subIn K (.ref D) (.type "BaseException") = some true)
    (hf : findObj K D od "__class__" = some (.bind (.builtin "getset_descriptor.__get__") (.builtin "object.__class__"))) (hm : mroIn K D (.type "object") = some true)
    (X : K.In s.heap) (I : InstAt s.heap x ox D od) (h : Q (some (.ref D)) { s with toks := s.toks + 1 }) : wpAny (model prog w) A (getAttr? (.ref x) "__class__") Q E s := by
  obtain ⟨hp, g, d, t, os⟩ := s
  have L0 := I.type (M := model prog w)
  have L1 := looks_findIn (M := model prog w) X hga
  have L2 := looks_findIn (M := model prog w) X hgt
  have L3 := looks_find (M := model prog w) X I hf
  have sub : Looks (model prog w) hp (isInstance (.ref x) (.type "BaseException")) true := L0.andThen (looks_subIn X hsub)
  have hx0 : (false && onTheHeap (Value.builtin "BaseException.__getattribute__")) = false := rfl
  have hx2 : (Value.builtin "BaseException.__getattribute__" == Value.builtin "object.__getattribute__") = false := by decide +kernel
  have hx1 : (onTheHeap (Value.ref D) && Value.builtin "BaseException.__getattribute__" == Value.builtin "object.__getattribute__") = false := by rw [hx2]; rfl
  unfold getAttr? getAttrBy? getAttrBy
  refine wpAny_bind (wpAny_mkText (wpAny_bind (wpAny_attempt (wpAny_holding (wpAny_bind (L0.at (wpAny_bind (L1.at ?_))))))))
  show wpAny _ _ (if (onTheHeap (Value.ref D) && Value.builtin "BaseException.__getattribute__" == Value.builtin "object.__getattribute__") = true then _ else _) _ _ _
  rw [hx1, if_neg Bool.false_ne_true]
  unfold getAttrByItsOwn hookBefore
  refine wpAny_bind ?_
  rw [if_pos (show onTheHeap (Value.ref D) = true from rfl)]
  refine L2.at ?_
  refine wpAny_bind (wpAny_attempt (wpAny_holding ?_))
  unfold callGetattribute
  rw [hx0, if_neg Bool.false_ne_true]
  unfold boundAndCalled
  rw [PySem.F.excAttr_ValueError.ga.bind (.ref x)]
  refine wpAny_bind (wpAny_pure ?_)
  show wpAny _ _ (call (.builtin "BaseException.__getattribute__") [.ref x, .str "__class__" t]) _ _ _
  refine wpAny_call (codeAny_call_builtin PySem.F.excAttr_ValueError.ga.plain PySem.F.entry_bexc_ga ?_)
  refine @check_slot (model prog w) _ _ ⟨hp, g, d, t + 1, os⟩ "BaseException.__getattribute__" "BaseException" "__getattribute__" (.ref x) [.str "__class__" t] [] _ (by decide +kernel) (by decide +kernel) sub (PySem.F.args_bexc_ga (.ref x) (.str "__class__" t)) ?_
  unfold Builtin.«object.__getattribute__»
  refine wpAny_bind (wpAny_of_eq (a := ((Value.ref x : Value), [Value.str "__class__" t])) (by first | rfl | (simp only [slotArgs]; rfl)) ?_)
  refine wpAny_bind (wpAny_pure (wpAny_bind (L0.at (wpAny_bind (L3.at ?_)))))
  show wpAny _ _ (holding [Value.builtin "object.__class__"] (call (.builtin "getset_descriptor.__get__") [.builtin "object.__class__", .ref x, .ref D]) >>= ret) _ _ _
  refine wpAny_bind (wpAny_holding (wpAny_call (class_get (s := ⟨hp, g, d, t + 1, os⟩) (ox := ox) (od := od) X I hm ?_)))
  refine wpAny_pure ?_
  show wpAny _ _ (handedOut (.ref D)) _ _ _
  rw [handedOut_of (v := .ref D) rfl]
  first
    | exact wpAny_pure (wpAny_pure h)
    | exact wpAny_pure h
    | exact wpAny_pure (wpAny_bind (wpAny_pure (wpAny_pure h)))
theorem ta_kitx_exc (hga : findIn K (.ref D) "__getattribute__" = some (some (.builtin "BaseException.__getattribute__"))) (hgt : findIn K (.ref D) "__getattr__" = some none) (hsub : subIn K (.ref D) (.type "BaseException") = some true) (hdct : hasDictIn K D = true)
    (hf : findObj K D od "__class__" = some (.bind (.builtin "getset_descriptor.__get__") (.builtin "object.__class__"))) (hm : mroIn K D (.type "object") = some true) :
    KitX K (.ref x) (.ref D) (fun h => InstAt h x ox D od) where
  ty := fun _ _ _ I => I.type
  it := fun _ _ X _ => by
    obtain ⟨cdD, hcD, _⟩ := any_some hdct
    unfold clsIn at hcD
    split at hcD
    · rename_i c' d' cd' sl' ho
      intro A' Q' E' s' k q
      unfold isType loadHead
      exact wpAny_bind (wpAny_loadPart (k _ _ (X _ _ ho)) (wpAny_pure q))
    · cases hcD
  ne := fun h tp dd its n sl X htp => by
    obtain ⟨cdD, hcD, _⟩ := any_some hdct
    refine Bool.eq_false_iff.mpr fun q => ?_
    have e : D = tp := Value.ref.inj (beq_iff_eq.mp q)
    subst e
    unfold clsIn at hcD
    split at hcD
    · rename_i c' d' cd' sl' ho
      have z := (X _ _ ho).symm.trans htp
      cases z
    · cases hcD
  ca := fun X I k => ta_kin_classE hga hgt hsub hf hm X I k
end
end PySem.W
namespace L2.Ta
open PySem PySem.Spec PyProof.Rows L2
/-- isinstance(e, c), e the exception that the suite holds at a, of the class at D, its dict at dd with no «__class__» -/
def rIsX (K : PySem.W.Frag) (D a dd : Addr) : List V → Hp → VK → Prop := fun xs H Q => ∃ (c : V) (cv : Value) (b : Bool) (fs : List (Str × V)), xs = [.ref a, c] ∧ (∀ u, RelV c u → u = cv) ∧ PySem.W.kitOne K (.ref D) cv = some b ∧ H dd = some (.xd fs) ∧ Q (.bl b) H
theorem call_isX {X : Cx} {a D dd : Addr} {oe : Obj} {pn : List (Addr × Obj)} (C : ExcC X.K D) (hz : Zc (.ref D) (some dd) oe) (hf : ∃ vs, oe.data = .fields vs) : CallR (X.suite a ((a, oe) :: pn)) (.builtin "isinstance") (rIsX X.K D a dd) := by
  intro pins s σ H xs us Q I r h
  obtain ⟨c, cv, b, fs, rfl, hcv, e, ed, q⟩ := h
  cases r with
  | cons rx rr =>
    cases rr with
    | cons rt rr =>
      cases rr
      cases rx
      have ec := hcv _ rt
      subst ec
      obtain ⟨hget, _⟩ := I.pin (a, oe) (List.mem_append.mpr (.inl List.mem_cons_self))
      obtain ⟨vs, hv⟩ := hf
      have hx : ObjOk X.prog X.w H s.heap dd (.xd fs) := I.hok dd _ ed
      obtain ⟨mA, hns, hr⟩ := hx
      obtain ⟨od, ho, hl⟩ := lookIn_ns hns
      have J : PySem.W.InstAt s.heap a oe D (some od) := ⟨hget, hz.1, by unfold PySem.W.notCls; rw [hv] <;> rfl, by rw [hz.2]; exact ho⟩
      have hF : PySem.W.findObj X.K D (some od) "__class__" = some (.bind (.builtin "getset_descriptor.__get__") (.builtin "object.__class__")) := by
        refine PySem.W.findObj_data ?_ C.ha C.hn C.ht
        obtain ⟨cd, hc, _⟩ := PySem.W.any_some C.hd
        rw [hc]; rfl
      exact PySem.W.kia_one (PySem.W.ta_kitx_exc C.hg C.hk C.hs C.hd hF C.hm) I.kIn J e (fun z => nomatch z) fun tk => ⟨.bl b, H, I.kept (t' := tk) fun _ _ z => z, rfl, q⟩
end L2.Ta

set_option maxHeartbeats 4000000
/-! a list comprehension whose element's call may raise -/
namespace L2.Ta
open PySem PySem.Spec PyProof.Rows L2
/-- an exception that a call let out of the context Y: in flight over Y's frames -/
def XF (Y : Cx) (W : XK) (u : Value) (s' : Shared) : Prop :=
  ∃ (a : Addr) (B : Heap) (sI : Shared) (pins : List (Addr × Obj)) (σ : St) (H : Hp) (cls : Value) (d : Option Addr),
    u = .ref a ∧ Inv Y pins σ H sI ∧ (∀ b o, sI.heap.get? b = some o → b ∉ frs Y.stack → B.get? b = some o) ∧ sI.heap.UpToSlots s'.heap ∧
      HandSPX.FlyingZ B Y.stack a (Zc cls d) s'.heap ∧ H a = none ∧ s'.os = sI.os ∧ AllBare s'.gens ∧ W cls d H
theorem XF.of_call {X : Cx} {pins : List (Addr × Obj)} {σ : St} {H : Hp} {s s' : Shared} {E : XK} (I : Inv X pins σ H s) {u : Value} (c : L2.CX X.prog X.w X.stack H s E u s') : XF X E u s' := by
  obtain ⟨a, B, H', cls, d, rfl, fl, hok, ub, na, os, ag, hE⟩ := c
  obtain ⟨G, g1, g2⟩ := restrict s'.heap fun b => (B.get? b).isSome || decide (b ∈ frs X.stack)
  have st : B.StaysIn s'.heap := fl.1
  have gB : ∀ b o, B.get? b = some o → G.get? b = some o := fun b o e => by
    rw [g1 b (by simp [e])]
    exact st b o e
  have gF : ∀ b, b ∈ frs X.stack → G.get? b = s'.heap.get? b := fun b hb => g1 b (by simp [hb])
  have og : ∀ b o, G.get? b = some o → s'.heap.get? b = some o ∧ ((B.get? b).isSome = true ∨ b ∈ frs X.stack) := fun b o e => by
    cases q : ((B.get? b).isSome || decide (b ∈ frs X.stack)) with
    | false => rw [g2 b q] at e; cases e
    | true =>
      rw [g1 b q] at e
      exact ⟨e, by simpa [Bool.or_eq_true] using q⟩
  refine ⟨a, B, { s with heap := G, gens := s'.gens, drawn := s'.drawn, toks := s'.toks }, pins, σ, H', cls, d, rfl, ?_, fun b o e hb => ?_, Heap.UpToSlots.of_keeps fun b o e => (og b o e).1, fl, na, os, ag, hE⟩
  · refine I.call (ch := []) ⟨fun b o e n hb _ => gB b o (ub.keep b o e n hb), fun b o e n hb _ => ?_, fun b o e n _ => ub.free b o e n, fun b o e _ => ?_, ub.tups, ub.frzs, ub.tbls⟩ (hok.kept gB) ag (fun _ z => nomatch z)
    · obtain ⟨sl, q⟩ := ub.slot b o e hb
      exact ⟨sl, by rw [gF b hb]; exact q⟩
    · by_cases hb : b ∈ frs X.stack
      · obtain ⟨sl, q⟩ := ub.slot b o e hb
        exact ⟨_, by rw [gF b hb]; exact q⟩
      · obtain ⟨o', q⟩ := ub.there b o e hb
        exact ⟨o', gB b o' q⟩
  · obtain ⟨e', h⟩ := og b o e
    rcases h with h | h
    · obtain ⟨o', q⟩ := Option.isSome_iff_exists.mp h
      have z := st b o' q
      rw [e'] at z; cases z
      exact q
    · exact absurd h hb
/-- the block's context with such a wish -/
abbrev blkX (X : Cx) (s : Shared) (H : Hp) (scope : Scope) (cenv : Env) (fp : List Addr) (W : XK) : Cx := (X.blk s H scope cenv fp).wish (XF (X.blk s H scope cenv fp) W)
theorem passes_blk {X : Cx} {s : Shared} {H : Hp} {scope : Scope} {cenv : Env} {fp : List Addr} {W : XK} : Passes (L2.CX X.prog X.w) (blkX X s H scope cenv fp W) W := fun pins σ H1 s1 e s' I c =>
  XF.of_call (X := X.blk s H scope cenv fp) I.unwish c
theorem compEnds_err {M : Model} {A : Around} {E : Value → Shared → Prop} {use : Option (Value → Sem Unit)} {Q : Value → Shared → Prop} {acc : Value} {cenv : Env} {x : Value} {s' : Shared} (h : CompFails M A E cenv x s') : compEnds M A E use Q acc cenv (.error x) s' := by
  cases use <;> exact h
/-- out of the block, into the def's own air -/
theorem XF.ends {X : Cx} {pins : List (Addr × Obj)} {σ : St} {H3 : Hp} {s3 s' : Shared} {scope : Scope} {ce : Env} {fp : List Addr} {W : XK} {u : Value} (hs : X.stack = X.env :: X.outer) (hf : X.env.frame = some X.env.locals)
    (tk : Takes X (fun cls d _ H => W cls d H)) (I3 : Inv X pins σ H3 s3) (f3 : ∀ b ∈ fp, FpOk X pins H3 b) (hcf : ce.frame = X.env.frame) (cL : ce.locals = s3.heap.objs.size)
    (x : XF (X.blk s3 H3 scope ce fp) W u s') : notedBy (model X.prog X.w) X.A ce (fun e s'' => CompFails (model X.prog X.w) X.A X.xe ce e s'') u s' := by
  obtain ⟨a, B, sI, pins', σ', H', cls, d, rfl, J, nb, up, fl, na, os, ag, w⟩ := x
  have I7 : Inv X pins σ H' sI := I3.call' (ch := fp) J.os J.base J.hok J.bare fun b hb => ⟨(f3 b hb).2.2.2.1, (f3 b hb).2.1, (f3 b hb).2.2.2.2.1, (f3 b hb).2.2.2.2.2⟩
  have nC : H' ce.locals = none := J.free
  obtain ⟨m, hn, _⟩ := J.loc
  have hn : sI.heap.Ns ce.locals m := hn
  have fC : FpOk X pins H' ce.locals := I3.fpOk (Nat.le_of_eq cL.symm) nC
  show wpAny _ X.A (noteFrame (.ref a) ce) _ _ s'
  rw [noteFrame_env _ hcf]
  have hfr : X.A.frames = some (X.env :: X.outer) := by rw [I3.ok.frames, hs]
  have fl' : HandSPX.FlyingZ B (X.env :: X.outer) a (Zc cls d) s'.heap := by
    have z : HandSPX.FlyingZ B X.stack a (Zc cls d) s'.heap := fl
    rw [hs] at z
    exact z
  refine HandSPX.looks_onZ Zc.steady hfr hf fl' fun h1 hh up1 => ?_
  have hn1 : h1.Ns ce.locals m := up1.ns (up.ns hn)
  refine ⟨m, hn1, fun h2 m2 hn2 sb => ?_⟩
  obtain ⟨B', b1, b2⟩ := restrict B fun b => decide (b ≠ ce.locals)
  have bB : ∀ b o, B'.get? b = some o → B.get? b = some o ∧ b ≠ ce.locals := fun b o e => by
    by_cases hb : b = ce.locals
    · rw [b2 b (by simp [hb])] at e; cases e
    · rw [b1 b (by simp [hb])] at e
      exact ⟨e, hb⟩
  have bN : ∀ b, B.get? b = none → B'.get? b = none := fun b e => by
    cases q : B'.get? b with
    | none => rfl
    | some o => rw [(bB b o q).1] at e; cases e
  obtain ⟨k1, k2, k3, oe, vs, T, oT, ts, he, hz, hd, hv1, hT, hTe, hoT, hdT, ht3⟩ := hh
  have neD : ∀ b o ws, h1.get? b = some o → o.data = .fields ws → b ≠ ce.locals := fun b o ws e ed z => by
    obtain ⟨oC, es, ep, eC, dC, _⟩ := hn1
    rw [z] at e
    rw [eC] at e
    cases e
    rw [dC] at ed
    cases ed
  have st2 : B'.StaysIn h2 := fun b o e => (sb.2 b (bB b o e).2).trans (k1 b o (bB b o e).1)
  have fr2 : h2.FunFrames B' (X.env :: X.outer) := by
    have z : h1.FunFrames B' (X.env :: X.outer) := funFrames_none k3 fun L hL => bN L (by
      obtain ⟨q, _⟩ := k3.mem hL
      exact q)
    exact Heap.FunFrames.sameBut sb hn2 z
  have hh2 : HandSPX.HeldZ B' (X.env :: X.outer) a (Zc cls d) X.env.locals h2 :=
    ⟨st2, bN a k2, fr2, oe, vs, T, oT, ts, (sb.2 a (neD a oe vs he hd)).trans he, hz, hd, hv1, bN T hT, hTe, (sb.2 T (neD T oT ts hoT hdT)).trans hoT, hdT, ht3⟩
  unfold PySem.passOn
  refine wpAny_bind (wpAny_field ((sb.2 a (neD a oe vs he hd)).trans he) hd hv1 ?_)
  rw [if_neg (show ¬ ((Value.ref T == Value.none) = true) from by simp)]
  rw [hcf, hf]
  refine wpAny_bind (HandSPX.setFlight_onZ hh2 fun h3 hh3 up3 => ?_)
  refine wpAny_throw ?_
  obtain ⟨G, g1, g2⟩ := restrict sI.heap fun b => decide (b ≠ ce.locals)
  have gs : ∀ b o, G.get? b = some o → sI.heap.get? b = some o ∧ b ≠ ce.locals := fun b o e => by
    by_cases hb : b = ce.locals
    · rw [g2 b (by simp [hb])] at e; cases e
    · rw [g1 b (by simp [hb])] at e
      exact ⟨e, hb⟩
  have I8 : Inv X pins σ H' { sI with heap := G } := by
    obtain ⟨f0, f1, f2, f3', f4, f5⟩ := fC
    exact I7.turned (t' := sI.toks) (fun b o hb e => by rw [g1 b (by simp [hb])]; exact e) f0 f1 f3' f4 f5
  refine tk _ _ ⟨a, B', { sI with heap := G }, pins, σ, H', cls, d, rfl, I8, fun b o e hb => ?_, fun b o e hnf => ?_, ?_, na, os, ag, w⟩
  · obtain ⟨e1, e2⟩ := gs b o e
    rw [b1 b (by simp [e2])]
    exact nb b o e1 hb
  · obtain ⟨e1, e2⟩ := gs b o e
    obtain ⟨sl1, q1⟩ := up b o e1 hnf
    obtain ⟨sl2, q2⟩ := up1 b _ q1 hnf
    obtain ⟨sl3, q3⟩ := up3 b _ ((sb.2 b e2).trans q2) hnf
    exact ⟨sl3, q3⟩
  · rw [hs]
    exact .inr (.inr hh3)
section
variable {X : Cx}
theorem lc_coreX {pins : List (Addr × Obj)} {s : Shared} {σ : St} {H : Hp} {Q : VK} {elt tg iter : Expr} {ifs : List Expr} {scope : Scope} {own : List (Str × Nat)} {pos pos' : Pos} {wi : TI} {g : TG} {tt : TT} {te : TE} {use : Option (Value → Sem Unit)} {Qf : Value → Shared → Prop} {W : XK}
    (hst : X.stack = X.env :: X.outer) (hf : X.env.frame = some X.env.locals) (tk : Takes X (fun cls d _ H => W cls d H))
    (hc : X.calm = true) (hN : X.N.Nodup) (I : Inv X pins σ H s) (hi : PI X tg iter wi) (ok : BlkOk X.N X.env.scope scope own)
    (hg : ∀ (s : Shared) (H : Hp) (C : Addr) (cl : List (Str × Addr)) (fp : List Addr), PG (X.blk s H scope (compEnvC scope cl C X.env) fp) tg g) (ht : ∀ (s : Shared) (H : Hp) (C : Addr) (cl : List (Str × Addr)) (fp : List Addr), PTs (X.blk s H scope (compEnvC scope cl C X.env) fp) ifs tt)
    (he : ∀ (s : Shared) (H : Hp) (C : Addr) (cl : List (Str × Addr)) (fp : List Addr), PE (blkX X s H scope (compEnvC scope cl C X.env) fp W) elt te) (hs : ∀ x, foldedSetIterable iter X.env x = pure x)
    (h : tLc wi g tt te (own.map (·.2)) σ H Q)
    (hRR : ∀ D C cl s' m H', Inv X pins σ H' s' → Q (.ref D) H' → s'.heap.Ns C m → FpOk X pins H' C → compEnds (model X.prog X.w) X.A X.xe use Qf (.ref D) (compEnvC scope cl C X.env) (.ok .next) s') :
    wpAny (model X.prog X.w) X.A (comprehension (.ListComp elt [⟨tg, iter, ifs, 0⟩] scope pos) scope X.env pos' (newList []) false (eval iter X.env) use) Qf X.xe s := by
  have hfree : ∀ y ∈ scope.names, y.2 = .free → ∃ c, X.env.cells.lookup y.1 = some c := fun y hy e => by
    rcases ok.free y hy e with k | k
    · exact I.ok.has _ (.inl k)
    · exact I.ok.has _ (.inr k)
  refine comprehension_at (use := use) rfl hs (closure_ok hfree) ok.kind (fun y hy e => by rw [ok.uniq y hy, e])
    (thn (hi.run pins s σ H _ I h) fun xv s1 hx => thn hx fun itv s2 h2 => ?_)
  obtain ⟨it, fp, tn, J, H2, e, I2, T, st2, f2, q⟩ := h2
  subst e
  refine wpAny_newObj_type (newEnv_comp ?_) (by show 0 ≤ sizeLine; decide)
  generalize hD : s2.heap.objs.size = D
  have hDn : H2 D = none := I2.hok.fresh (Nat.le_of_eq hD)
  obtain ⟨W', ⟨m0, w0⟩, turn⟩ := q D hDn
  generalize hs3 : ({ s2 with heap := s2.heap.push { cls := .type "list", data := .seq ([] : List Value).toArray } } : Shared) = s3
  have I3 : Inv X pins σ (upd H2 D (.lst [])) s3 := by
    rw [← hs3]
    refine I2.laid (t' := s2.toks) (fun b o e => Heap.get?_push_of_some _ e) (Nat.le_of_eq hD) ⟨Nat.zero_le _, [], 0, .nil, ?_⟩
    rw [← hD]
    exact Heap.get?_push_size _ rfl
  have h3 : s3.heap = s2.heap.push { cls := .type "list", data := .seq ([] : List Value).toArray } := by rw [← hs3]
  have sz : ∀ b ∈ fp, b < s2.heap.objs.size := fun b hb => by
    obtain ⟨o, e, _⟩ := T.obj _ _ st2 b hb
    exact Heap.lt_size e
  have f3 : ∀ b ∈ fp, FpOk X pins (upd H2 D (.lst [])) b ∧ b < s3.heap.objs.size := fun b hb => by
    have hlt := sz b hb
    refine ⟨⟨?_, (f2 b hb).2⟩, by rw [h3, Heap.size_push]; exact Nat.lt_succ_of_lt hlt⟩
    rw [upd_ne (by rw [← hD]; exact Nat.ne_of_lt hlt)]
    exact (f2 b hb).1
  have st3 : tn 0 s3.heap := T.keep _ _ _ st2 fun b _ o e => by rw [h3]; exact Heap.get?_push_of_some _ e
  have I4 := block_start I3 ok hN f3
  have pg := hg s3 (upd H2 D (.lst [])) s3.heap.objs.size (cellsFrom (s3.heap.objs.size + 1) scope.names (cloFrom X.env.cells scope.names [])) fp
  have pt := ht s3 (upd H2 D (.lst [])) s3.heap.objs.size (cellsFrom (s3.heap.objs.size + 1) scope.names (cloFrom X.env.cells scope.names [])) fp
  have pe := he s3 (upd H2 D (.lst [])) s3.heap.objs.size (cellsFrom (s3.heap.objs.size + 1) scope.names (cloFrom X.env.cells scope.names [])) fp
  have rr := fun D s' m H' a b c d => hRR D s3.heap.objs.size (cellsFrom (s3.heap.objs.size + 1) scope.names (cloFrom X.env.cells scope.names [])) s' m H' a b c d
  show codeAny _ _ (.compStart (.ListComp elt [⟨tg, iter, ifs, 0⟩] scope pos) 0 (.ref it) (.ref D) (compEnvC scope (cellsFrom (s3.heap.objs.size + 1) scope.names (cloFrom X.env.cells scope.names [])) s3.heap.objs.size X.env)) (compEnds (model X.prog X.w) X.A X.xe use Qf (.ref D) (compEnvC scope (cellsFrom (s3.heap.objs.size + 1) scope.names (cloFrom X.env.cells scope.names [])) s3.heap.objs.size X.env)) { s3 with heap := pushCells (s3.heap.push { cls := .type "dict", data := .dict #[] }) scope.names }
  have nfp : ∀ b ∈ fp, (upd H2 D (.lst [])) b = none := fun b hb => (f3 b hb).1.1
  generalize hce : compEnvC scope (cellsFrom (s3.heap.objs.size + 1) scope.names (cloFrom X.env.cells scope.names [])) s3.heap.objs.size X.env = ce at I4 pg pt pe rr ⊢
  have cL : ce.locals = s3.heap.objs.size := by subst hce; rfl
  have cF : ce.frame = X.env.frame := by subst hce; rfl
  generalize hH3 : upd H2 D (.lst []) = H3 at I3 I4 pg pt pe w0 nfp f3
  generalize hs4 : ({ s3 with heap := pushCells (s3.heap.push { cls := .type "dict", data := .dict #[] }) scope.names } : Shared) = s4 at I4 ⊢
  have st4 : tn 0 s4.heap := T.keep _ _ _ st3 fun b _ o e => by rw [← hs4]; exact pushCells_keeps _ _ _ _ (Heap.get?_push_of_some _ e)
  have stat : ∀ {σ' : St} {H' : Hp} {s' : Shared}, Inv (X.blk s3 H3 scope ce fp) [] σ' H' s' → (∀ b ∈ fp, H' b = none) → ∀ b ∈ fp, FpOk (X.blk s3 H3 scope ce fp) [] H' b := fun {σ' H' s'} I' hn b hb =>
    ⟨hn b hb, (I'.ok.exf b hb).1, I'.ok.exfs b hb, .inl hb, fun x c e => (I'.ok.exf b hb).2 x c e, fun p hp => absurd (show p ∈ ([] : List (Addr × Obj)) ++ [] from hp) (by simp)⟩
  have loop : codeAny (model X.prog X.w) X.A (.compLoop (.ListComp elt [⟨tg, iter, ifs, 0⟩] scope pos) 0 (.ref it) (.ref D) ce) (compEnds (model X.prog X.w) X.A X.xe use Qf (.ref D) ce) s4 := by
    refine compLoop_any (fun n s' => ∃ i H', Inv (X.blk s3 H3 scope ce fp) [] (wipe σ (own.map (·.2))) H' s' ∧ tn i s'.heap ∧ (∀ b ∈ fp, H' b = none) ∧ W' i n H') ?_ m0 ⟨0, H3, I4, st4, nfp, w0⟩
    rintro n s5 ⟨i, H5, I5, st5, n5, w5⟩
    rcases turn i n H5 w5 with ⟨stop, qq⟩ | ⟨go, Nx, hNx, step⟩
    · have td := T.done (X.blk s3 H3 scope ce fp) rfl rfl rfl hc i [] s5 _ H5 (fun _ _ => False) I5 (stat I5 n5) st5 stop
      refine thnF td fun r s6 ⟨hr, I6⟩ => ?_
      subst hr
      have I7 : Inv X pins σ H5 s6 := I3.call' (ch := fp) I6.os I6.base I6.hok I6.bare fun b hb => ⟨(f3 b hb).1.2.2.2.1, (f3 b hb).1.2.1, (f3 b hb).1.2.2.2.2.1, (f3 b hb).1.2.2.2.2.2⟩
      have nC : H5 s3.heap.objs.size = none := by
        have z : H5 ce.locals = none := I6.free
        rw [cL] at z
        exact z
      obtain ⟨m, hn, _⟩ := I6.loc
      have hn : s6.heap.Ns ce.locals m := hn
      rw [cL] at hn
      exact rr D s6 m H5 I7 qq hn (I3.fpOk (Nat.le_refl _) nC)
    · have ti := T.item (X.blk s3 H3 scope ce fp) rfl rfl rfl hc i [] s5 _ H5 (fun _ _ => False) I5 (stat I5 n5) st5 go
      refine thnF ti fun r s6 ⟨u, hr, h6⟩ => ?_
      subst hr
      refine thnF h6 fun _ s7 ⟨x, H7, I7, r7, y7, st7, n7⟩ => ?_
      have I7' := I7.pinned (stat I7 n7) (T.obj _ _ st7)
      refine thnF (pg.run _ s7 _ H7 x u _ I7' r7 (step x H7 y7)) fun _ s8 ⟨σ8, H8, I8, hw8, q8⟩ => ?_
      refine thnF (pt.run _ s8 σ8 H8 _ I8 q8) fun b s9 ⟨H9, I9, q9⟩ => ?_
      have fin : ∀ {s' : Shared} {H' : Hp}, Inv (X.blk s3 H3 scope ce fp) ([] ++ pinsAt fp s7.heap) σ8 H' s' → Nx H' → ∃ m, m < n ∧ ∃ i H', Inv (X.blk s3 H3 scope ce fp) [] (wipe σ (own.map (·.2))) H' s' ∧ tn i s'.heap ∧ (∀ b ∈ fp, H' b = none) ∧ W' i m H' := fun {s' H'} I' nx => by
        obtain ⟨m', hm, w'⟩ := hNx H' nx
        have pin' : ∀ b ∈ fp, ∀ o, s7.heap.get? b = some o → s'.heap.get? b = some o ∧ H' b = none := fun b hb o e =>
          let z := I'.pin (b, o) (List.mem_append_right _ (List.mem_append_right _ (mem_pinsAt hb e)))
          ⟨z.1, z.2.1⟩
        have hl : (wipe σ (own.map (·.2))).length = σ8.length := by rw [← hw8, wipe_length]
        refine ⟨m', hm, i + 1, H', (I'.unpinned (pins := [])).weak hl (fun j v e => ?_), T.keep _ _ _ st7 fun b hb o e => (pin' b hb o e).1, fun b hb => ?_, w'⟩
        · rw [← hw8] at e
          exact (wipe_some e).1
        · obtain ⟨o, e, _⟩ := T.obj _ _ st7 b hb
          exact (pin' b hb o e).2
      cases b with
      | false =>
        simp only [Bool.false_eq_true, if_false] at q9 ⊢
        exact fin I9 q9
      | true =>
        simp only [if_true] at q9 ⊢
        refine wpAny_mono (pe.run _ s9 σ8 H9 _ (I9.wish _) q9) (fun z s10 ⟨yv, H10, I10, r10, acc, hD10, hz10, nx⟩ => ?_) fun e s10 hx => ?_
        · exact thnF (app_ok (X := X.blk s3 H3 scope ce fp) (E := fun _ _ => False) I10.unwish hD10 hz10 r10 fun s11 I11 => fin I11 nx) fun _ _ z => z
        · have z := XF.ends (X := X) hst hf tk I3 (fun b hb => (f3 b hb).1) cF cL (show XF (X.blk s3 H3 scope ce fp) W e s10 from hx)
          exact wpAny_mono z (fun _ _ z => compEnds_err z) fun _ _ z => compEnds_err z
  exact codeAny_compStart_list loop (T.self X.A 0 _ _ _ st4 loop)
/-- name = [..] on one line, the name a local; the element's calls may raise what W wishes -/
theorem ps_setLcX {i : Nat} {y : Str} {py : Pos} {elt tg iter : Expr} {ifs : List Expr} {scope : Scope} {own : List (Str × Nat)} {pos spos : Pos} {wi : TI} {g : TG} {tt : TT} {te : TE} {W : XK}
    (hst : X.stack = X.env :: X.outer) (hf : X.env.frame = some X.env.locals) (tk : Takes X (fun cls d _ H => W cls d H)) (hc : X.calm = true) (hN : X.N.Nodup) (hy : X.N[i]? = some y) (hyl : X.env.scope.names.lookup y = some .local)
    (hsw : swapsWith (.ListComp elt [⟨tg, iter, ifs, 0⟩] scope pos) (some (.Name y py)) spos.line X.env = pure true) (hi : PI X tg iter wi) (ok : BlkOk X.N X.env.scope scope own)
    (hg : ∀ (s : Shared) (H : Hp) (C : Addr) (cl : List (Str × Addr)) (fp : List Addr), PG (X.blk s H scope (compEnvC scope cl C X.env) fp) tg g) (ht : ∀ (s : Shared) (H : Hp) (C : Addr) (cl : List (Str × Addr)) (fp : List Addr), PTs (X.blk s H scope (compEnvC scope cl C X.env) fp) ifs tt)
    (he : ∀ (s : Shared) (H : Hp) (C : Addr) (cl : List (Str × Addr)) (fp : List Addr), PE (blkX X s H scope (compEnvC scope cl C X.env) fp W) elt te) (hs : ∀ x, foldedSetIterable iter X.env x = pure x := by intro _; rfl) :
    PS X (.Assign [.Name y py] (.ListComp elt [⟨tg, iter, ifs, 0⟩] scope pos) spos) (tAsg (tLc wi g tt te (own.map (·.2))) (gName i)) := by
  refine ⟨fun pins s σ H D I h => ?_⟩
  rw [exec_Assign_Name_used _ _ _ _ hsw]
  refine wpAny_bind (wpAny_standAt (wpAny_bind ?_))
  show wpAny _ X.A (do let _ ← comprehension (.ListComp elt [⟨tg, iter, ifs, 0⟩] scope pos) scope X.env (firstIterPos [⟨tg, iter, ifs, 0⟩] pos) (newList []) false (eval iter X.env) (some (assign (.Name y py) X.env))) _ _ s
  have h : tLc wi g tt te (own.map (·.2)) σ H (fun x H1 => gName i x σ H1 D.nx) := h
  refine wpAny_bind (thn (lc_coreX (Qf := fun _ s' => SP X pins D .next s') hst hf tk hc hN I hi ok hg ht he hs h fun L C cl s' m H' I' q hn f => ?_) fun _ s' hq => wpAny_pure (wpAny_pure hq))
  show wpAny _ _ (assign (.Name y py) X.env (.ref L)) _ _ _
  refine wpAny_assign_Name (store_ok2 (v := V.ref L) I' hN hy (.inl hyl) rfl (fun s2 I2 ⟨a, sb, ha⟩ => ?_) (.inr hyl))
  obtain ⟨f0, f1, f2, f3, f4, f5⟩ := f
  have haC : C ≠ a := by
    rcases ha with z | z
    · rw [z]; exact f1
    · exact fun e => f4 y a z e.symm
  refine ⟨m, hn.sameBut sb haC, fun h3 sb3 => ?_⟩
  exact ⟨_, H', I2.turned (t' := s2.toks) (fun b o hb e => (sb3.2 b hb).trans e) f0 f1 f3 f4 f5, q⟩
end
end L2.Ta

set_option maxHeartbeats 4000000
/-! the facts of the top -/
namespace L2.Ta
open PySem PySem.Spec PyProof.Rows L2
def fns0 : List Df := [
  ⟨maf "TalkError" "__init__", "__init__", "TalkError.__init__", inClass (top 1) 0, fun _ => [.non]⟩,
  ⟨maf "BadPattern" "__init__", "__init__", "BadPattern.__init__", inClass (top 2) 0, fun _ => [.non]⟩,
  ⟨maf "BadKinds" "__init__", "__init__", "BadKinds.__init__", inClass (top 3) 0, fun _ => [.non]⟩,
  ⟨maf "BadLine" "__init__", "__init__", "BadLine.__init__", inClass (top 4) 0, fun _ => [.non]⟩,
  ⟨maf "BadCondition" "__init__", "__init__", "BadCondition.__init__", inClass (top 5) 0, fun _ => [.non]⟩,
  ⟨maf "UnknownName" "__init__", "__init__", "UnknownName.__init__", inClass (top 6) 0, fun _ => [.non]⟩,
  ⟨maf "UnknownStation" "__init__", "__init__", "UnknownStation.__init__", inClass (top 7) 0, fun _ => [.non]⟩,
  ⟨maf "UnknownRequest" "__init__", "__init__", "UnknownRequest.__init__", inClass (top 8) 0, fun _ => [.non]⟩,
  ⟨maf "BadRule" "__init__", "__init__", "BadRule.__init__", inClass (top 9) 0, fun _ => [.non]⟩,
  ⟨maf "BadSource" "__init__", "__init__", "BadSource.__init__", inClass (top 10) 0, fun _ => [.non]⟩,
  ⟨maf "BadCount" "__init__", "__init__", "BadCount.__init__", inClass (top 11) 0, fun _ => [.non]⟩,
  ⟨maf "BadName" "__init__", "__init__", "BadName.__init__", inClass (top 12) 0, fun _ => [.non]⟩,
  ⟨maf "DuplicateName" "__init__", "__init__", "DuplicateName.__init__", inClass (top 13) 0, fun _ => [.non]⟩,
  ⟨gaf "is_text", "is_text", "is_text", top 16, fun _ => []⟩,
  ⟨gaf "is_pattern", "is_pattern", "is_pattern", top 20, fun _ => []⟩,
  ⟨gaf "parts_of", "parts_of", "parts_of", top 25, fun _ => []⟩,
  ⟨gaf "size_of", "size_of", "size_of", top 26, fun _ => []⟩,
  ⟨gaf "check_name", "check_name", "check_name", top 27, fun _ => []⟩,
  ⟨gaf "check_node", "check_node", "check_node", top 28, fun _ => []⟩,
  ⟨gaf "check_parts", "check_parts", "check_parts", top 29, fun _ => []⟩,
  ⟨gaf "check_condition", "check_condition", "check_condition", top 30, fun _ => []⟩,
  ⟨gaf "is_name", "is_name", "is_name", top 35, fun _ => []⟩,
  ⟨gaf "is_kind", "is_kind", "is_kind", top 36, fun _ => []⟩,
  ⟨gaf "check_kinds", "check_kinds", "check_kinds", top 37, fun K => [.ref (He.dflAt ("check_kinds", none) 0 K)]⟩,
  ⟨gaf "value_names", "value_names", "value_names", top 42, fun _ => []⟩,
  ⟨gaf "check_source", "check_source", "check_source", top 43, fun _ => []⟩,
  ⟨gaf "check_line", "check_line", "check_line", top 44, fun _ => []⟩,
  ⟨gaf "check_answer", "check_answer", "check_answer", top 45, fun _ => []⟩,
  ⟨gaf "check_rule", "check_rule", "check_rule", top 46, fun _ => []⟩,
  ⟨gaf "check_names", "check_names", "check_names", top 51, fun _ => []⟩]
def fns1 : List Df := [
  ⟨maf "Service" "__init__", "__init__", "Service.__init__", inClass (top 52) 0, fun _ => []⟩,
  ⟨pgf "Service" "stations", "stations", "Service.stations", inClass (top 52) 1, fun _ => []⟩,
  ⟨pgf "Service" "registers", "registers", "Service.registers", inClass (top 52) 2, fun _ => []⟩,
  ⟨pgf "Service" "requests", "requests", "Service.requests", inClass (top 52) 3, fun _ => []⟩,
  ⟨pgf "Service" "rules", "rules", "Service.rules", inClass (top 52) 4, fun _ => []⟩,
  ⟨maf "Words" "__init__", "__init__", "Words.__init__", inClass (top 54) 0, fun _ => []⟩,
  ⟨maf "Words" "take", "take", "Words.take", inClass (top 54) 1, fun _ => []⟩,
  ⟨maf "Words" "expect", "expect", "Words.expect", inClass (top 54) 2, fun _ => []⟩,
  ⟨maf "Words" "number", "number", "Words.number", inClass (top 54) 3, fun _ => []⟩,
  ⟨maf "Words" "marked", "marked", "Words.marked", inClass (top 54) 4, fun _ => []⟩,
  ⟨maf "Words" "rest", "rest", "Words.rest", inClass (top 54) 5, fun _ => []⟩,
  ⟨gaf "read_condition", "read_condition", "read_condition", top 55, fun _ => []⟩,
  ⟨gaf "read_source", "read_source", "read_source", top 56, fun _ => []⟩,
  ⟨gaf "read_line", "read_line", "read_line", top 57, fun _ => []⟩,
  ⟨gaf "parse_rule", "parse_rule", "parse_rule", top 58, fun _ => []⟩,
  ⟨gaf "parse_names", "parse_names", "parse_names", top 59, fun _ => []⟩,
  ⟨gaf "parse_service", "parse_service", "parse_service", top 60, fun _ => []⟩,
  ⟨gaf "_law_deck", "_law_deck", "_law_deck", top 62, fun _ => []⟩,
  ⟨gaf "_law_draw", "_law_draw", "_law_draw", top 63, fun _ => []⟩,
  ⟨gaf "_law_letter", "_law_letter", "_law_letter", top 64, fun _ => []⟩,
  ⟨gaf "_law_text", "_law_text", "_law_text", top 65, fun _ => []⟩,
  ⟨gaf "_law_names", "_law_names", "_law_names", top 66, fun _ => []⟩,
  ⟨gaf "_law_pattern", "_law_pattern", "_law_pattern", top 67, fun _ => []⟩,
  ⟨gaf "_law_part", "_law_part", "_law_part", top 68, fun _ => []⟩,
  ⟨gaf "_law_condition", "_law_condition", "_law_condition", top 69, fun _ => []⟩,
  ⟨gaf "_law_source", "_law_source", "_law_source", top 70, fun _ => []⟩,
  ⟨gaf "_law_line", "_law_line", "_law_line", top 71, fun _ => []⟩,
  ⟨gaf "_law_rule", "_law_rule", "_law_rule", top 72, fun _ => []⟩,
  ⟨gaf "_law_service", "_law_service", "_law_service", top 73, fun _ => []⟩,
  ⟨gaf "_law_words_of_condition", "_law_words_of_condition", "_law_words_of_condition", top 74, fun _ => []⟩]
def fns2 : List Df := [
  ⟨gaf "_law_words_of_line", "_law_words_of_line", "_law_words_of_line", top 75, fun _ => []⟩,
  ⟨gaf "_law_line_of_rule", "_law_line_of_rule", "_law_line_of_rule", top 76, fun _ => []⟩,
  ⟨gaf "_law_lines", "_law_lines", "_law_lines", top 77, fun _ => []⟩,
  ⟨gaf "_law_text_of", "_law_text_of", "_law_text_of", top 78, fun _ => []⟩,
  ⟨gaf "_law_word", "_law_word", "_law_word", top 79, fun _ => []⟩,
  ⟨gaf "_law_changed", "_law_changed", "_law_changed", top 80, fun _ => []⟩,
  ⟨gaf "_law_parts", "_law_parts", "_law_parts", top 81, fun _ => []⟩,
  ⟨gaf "law", "law", "law", top 82, fun _ => []⟩]
def fns : List Df := fns0 ++ fns1 ++ fns2
def glos0 : List Str := [
  ("TalkError" : Str),
  ("BadPattern" : Str),
  ("BadKinds" : Str),
  ("BadLine" : Str),
  ("BadCondition" : Str),
  ("UnknownName" : Str),
  ("UnknownStation" : Str),
  ("UnknownRequest" : Str),
  ("BadRule" : Str),
  ("BadSource" : Str),
  ("BadCount" : Str),
  ("BadName" : Str),
  ("DuplicateName" : Str),
  ("is_text" : Str),
  ("is_pattern" : Str),
  ("parts_of" : Str),
  ("size_of" : Str),
  ("check_name" : Str),
  ("check_node" : Str),
  ("check_parts" : Str),
  ("check_condition" : Str),
  ("is_name" : Str),
  ("is_kind" : Str),
  ("check_kinds" : Str),
  ("value_names" : Str),
  ("check_source" : Str),
  ("check_line" : Str),
  ("check_answer" : Str),
  ("check_rule" : Str),
  ("check_names" : Str),
  ("Service" : Str),
  ("Words" : Str),
  ("read_condition" : Str),
  ("read_source" : Str),
  ("read_line" : Str)]
def glos1 : List Str := [
  ("parse_rule" : Str),
  ("parse_names" : Str),
  ("parse_service" : Str),
  ("_law_deck" : Str),
  ("_law_draw" : Str),
  ("_law_letter" : Str),
  ("_law_text" : Str),
  ("_law_names" : Str),
  ("_law_pattern" : Str),
  ("_law_part" : Str),
  ("_law_condition" : Str),
  ("_law_source" : Str),
  ("_law_line" : Str),
  ("_law_rule" : Str),
  ("_law_service" : Str),
  ("_law_words_of_condition" : Str),
  ("_law_words_of_line" : Str),
  ("_law_line_of_rule" : Str),
  ("_law_lines" : Str),
  ("_law_text_of" : Str),
  ("_law_word" : Str),
  ("_law_changed" : Str),
  ("_law_parts" : Str),
  ("law" : Str),
  ("LENGTHS" : Str)]
def glos : List Str := glos0 ++ glos1
def frees : List Str := [("ValueError" : Str), ("abs" : Str), ("all" : Str), ("enumerate" : Str), ("int" : Str), ("isinstance" : Str), ("len" : Str), ("list" : Str), ("min" : Str), ("property" : Str), ("range" : Str), ("str" : Str), ("sum" : Str), ("tuple" : Str)]
def intcs : List (Str × Int) := [("SIGNS_MOST", 8), ("STARS_MOST", 2), ("NODES_MOST", 20), ("DEPTH_MOST", 6), ("NAME_MOST", 12), ("KINDS_MOST", 6), ("VALUES_MOST", 3), ("TEXT_MOST", 8), ("FRESH_MOST", 2), ("SOURCES_MOST", 4), ("STATIONS_MOST", 6), ("REGISTERS_MOST", 3), ("RULES_MOST", 40)]
def strcs : List (Str × Str) := [("LETTERS", "abcdefghijklmnopqrstuvwxyz")]
def excs : List Str := [("TalkError" : Str), ("BadPattern" : Str), ("BadKinds" : Str), ("BadLine" : Str), ("BadCondition" : Str), ("UnknownName" : Str), ("UnknownStation" : Str), ("UnknownRequest" : Str), ("BadRule" : Str), ("BadSource" : Str), ("BadCount" : Str), ("BadName" : Str), ("DuplicateName" : Str)]
def loose0 : List Str := [
  ("__name__" : Str),
  ("TalkError" : Str),
  ("BadPattern" : Str),
  ("BadKinds" : Str),
  ("BadLine" : Str),
  ("BadCondition" : Str),
  ("UnknownName" : Str),
  ("UnknownStation" : Str),
  ("UnknownRequest" : Str),
  ("BadRule" : Str),
  ("BadSource" : Str),
  ("BadCount" : Str),
  ("BadName" : Str),
  ("DuplicateName" : Str),
  ("LETTERS" : Str),
  ("is_text" : Str),
  ("SIGNS_MOST" : Str),
  ("STARS_MOST" : Str),
  ("is_pattern" : Str),
  ("LENGTHS" : Str),
  ("NODES_MOST" : Str),
  ("DEPTH_MOST" : Str),
  ("parts_of" : Str),
  ("size_of" : Str),
  ("check_name" : Str),
  ("check_node" : Str),
  ("check_parts" : Str),
  ("check_condition" : Str),
  ("NAME_MOST" : Str),
  ("KINDS_MOST" : Str),
  ("VALUES_MOST" : Str),
  ("is_name" : Str),
  ("is_kind" : Str),
  ("check_kinds" : Str),
  ("TEXT_MOST" : Str),
  ("FRESH_MOST" : Str),
  ("SOURCES_MOST" : Str),
  ("value_names" : Str)]
def loose1 : List Str := [
  ("check_source" : Str),
  ("check_line" : Str),
  ("check_answer" : Str),
  ("check_rule" : Str),
  ("STATIONS_MOST" : Str),
  ("REGISTERS_MOST" : Str),
  ("RULES_MOST" : Str),
  ("check_names" : Str),
  ("Service" : Str),
  ("Words" : Str),
  ("read_condition" : Str),
  ("read_source" : Str),
  ("read_line" : Str),
  ("parse_rule" : Str),
  ("parse_names" : Str),
  ("parse_service" : Str),
  ("_law_deck" : Str),
  ("_law_draw" : Str),
  ("_law_letter" : Str),
  ("_law_text" : Str),
  ("_law_names" : Str),
  ("_law_pattern" : Str),
  ("_law_part" : Str),
  ("_law_condition" : Str),
  ("_law_source" : Str),
  ("_law_line" : Str),
  ("_law_rule" : Str),
  ("_law_service" : Str),
  ("_law_words_of_condition" : Str),
  ("_law_words_of_line" : Str),
  ("_law_line_of_rule" : Str),
  ("_law_lines" : Str),
  ("_law_text_of" : Str),
  ("_law_word" : Str),
  ("_law_changed" : Str),
  ("_law_parts" : Str)]
def loose : List Str := loose0 ++ loose1

def eqV (a b : Option (Option Value)) : Bool := decide (a = b)
/-- what is told of an error class -/
def ecM (K : PySem.W.Frag) (x : Str) (mro : List Value) : Bool := match mro with
  | .ref a :: r => a == He.ga K x && (match r with
    | .ref b :: r2 => b == He.ga K "TalkError" && r2 == PySem.HandSPX.veTail
    | _ => decide (x = "TalkError") && r == PySem.HandSPX.veTail)
  | _ => false
def noNs : List Str := ["__setattr__", "__getattribute__", "__getattr__", "__class__", "word", "place"]
def errB (K : PySem.W.Frag) (x : Str) : Bool := match K.lookup (He.ga K x) with
  | some ⟨.type "type", _, .cls cd, sl⟩ => (match sl.toList with
    | [_, _, _, _, some (.builtin n), _] => n == "ValueError.__new__" && (!cd.hasDel && (cd.hasDict && (ecM K x cd.mro && (noNs.all (fun y => match PySem.W.nsIn K cd.ns y with
      | some none => true
      | _ => false) && (match PySem.W.nsIn K cd.ns "__init__" with
      | some (some (.ref f)) => (match K.lookup f with
        | some ⟨.type "function", _, _, _⟩ => true
        | _ => false)
      | _ => false)))))
    | _ => false)
  | _ => false
structure ErrC (K : PySem.W.Frag) (x : Str) : Prop where
  oex : OexC K (He.ga K x)
  ga : PySem.W.findIn K (.ref (He.ga K x)) "__getattribute__" = some (some (.builtin "BaseException.__getattribute__"))
  gg : PySem.W.findIn K (.ref (He.ga K x)) "__getattr__" = some none
  hdC : PySem.W.hasDictIn K (He.ga K x) = true
  cl : PySem.W.findIn K (.ref (He.ga K x)) "__class__" = some (some (.builtin "object.__class__"))
  mr : PySem.W.mroIn K (He.ga K x) (.type "object") = some true
  noW : PySem.W.findIn K (.ref (He.ga K x)) "word" = some none
  noP : PySem.W.findIn K (.ref (He.ga K x)) "place" = some none
  ini : PySem.W.findIn K (.ref (He.ga K x)) "__init__" = some (some (.ref (He.ma K (He.ga K x) "__init__")))
  tin : PySem.W.typeIn K (.ref (He.ma K (He.ga K x) "__init__")) = some (.type "function")
  exm : PySem.W.exmOne K (.ref (He.ga K x)) (.ref (He.ga K "TalkError")) = some true
  kit : PySem.W.kitOne K (.ref (He.ga K x)) (.type "ValueError") = some true
section
open PySem.W
theorem own_ref {K : Frag} {a : Addr} {nm : Str} {oc : Value} {dd : Option Addr} {cd : ClassData} {sl : Array (Option Value)} (h : K.lookup a = some ⟨oc, dd, .cls cd, sl⟩) : ownIn K nm (.ref a) = nsIn K cd.ns nm := by
  simp only [ownIn, h]
theorem ve_sa (K : Frag) : alongIn K "__setattr__" PySem.HandSPX.veTail = some (some (.builtin "object.__setattr__")) := by show alongIn [] "__setattr__" PySem.HandSPX.veTail = _; decide +kernel
theorem ve_ga (K : Frag) : alongIn K "__getattribute__" PySem.HandSPX.veTail = some (some (.builtin "BaseException.__getattribute__")) := by show alongIn [] "__getattribute__" PySem.HandSPX.veTail = _; decide +kernel
theorem ve_gg (K : Frag) : alongIn K "__getattr__" PySem.HandSPX.veTail = some none := by show alongIn [] "__getattr__" PySem.HandSPX.veTail = _; decide +kernel
theorem ve_cl (K : Frag) : alongIn K "__class__" PySem.HandSPX.veTail = some (some (.builtin "object.__class__")) := by show alongIn [] "__class__" PySem.HandSPX.veTail = _; decide +kernel
theorem ve_wd (K : Frag) : alongIn K "word" PySem.HandSPX.veTail = some none := by show alongIn [] "word" PySem.HandSPX.veTail = _; decide +kernel
theorem ve_pl (K : Frag) : alongIn K "place" PySem.HandSPX.veTail = some none := by show alongIn [] "place" PySem.HandSPX.veTail = _; decide +kernel
theorem call_type : fastLookup "type" "__call__" = some (some (.builtin "type.__call__")) := by decide +kernel
theorem meta_ve : kitMeta "ValueError" = true := by decide +kernel
/-- the class's object -/
structure EO (K : Frag) (x : Str) (C : Addr) (cd : ClassData) : Prop where
  at_ : ∃ dd k0 k1 k2 k3 k5, K.lookup C = some ⟨.type "type", dd, .cls cd, #[k0, k1, k2, k3, some (.builtin "ValueError.__new__"), k5]⟩
  nodel : cd.hasDel = false
  dict : cd.hasDict = true
  mro : cd.mro = .ref C :: .ref (He.ga K "TalkError") :: PySem.HandSPX.veTail ∨ (x = "TalkError" ∧ cd.mro = .ref C :: PySem.HandSPX.veTail)
  no : ∀ y ∈ noNs, nsIn K cd.ns y = some none
  ini : ∃ f od dt sl, nsIn K cd.ns "__init__" = some (some (.ref f)) ∧ K.lookup f = some ⟨.type "function", od, dt, sl⟩
theorem errB_eo {K : Frag} {x : Str} (h : errB K x = true) : ∃ cd, EO K x (He.ga K x) cd := by
  unfold errB at h
  split at h
  · rename_i dd cd sl ho
    split at h
    · rename_i k0 k1 k2 k3 n k5 hs
      simp only [Bool.and_eq_true, beq_iff_eq, Bool.not_eq_true'] at h
      obtain ⟨rfl, hdel, hd, hm, hno, hi⟩ := h
      have hsl : sl = #[k0, k1, k2, k3, some (.builtin "ValueError.__new__"), k5] := by
        obtain ⟨l⟩ := sl
        simp only at hs
        rw [hs]
      subst hsl
      refine ⟨cd, ⟨dd, k0, k1, k2, k3, k5, ho⟩, hdel, hd, ?_, fun y hy => ?_, ?_⟩
      · unfold ecM at hm
        split at hm
        · rename_i a r e
          simp only [Bool.and_eq_true, beq_iff_eq] at hm
          obtain ⟨rfl, hm⟩ := hm
          split at hm
          · rename_i b r2
            simp only [Bool.and_eq_true, beq_iff_eq] at hm
            obtain ⟨rfl, rfl⟩ := hm
            exact .inl e
          · simp only [Bool.and_eq_true, beq_iff_eq, decide_eq_true_eq] at hm
            obtain ⟨hx, rfl⟩ := hm
            exact .inr ⟨hx, e⟩
        · cases hm
      · have z := List.all_eq_true.mp hno y hy
        split at z
        · assumption
        · cases z
      · split at hi
        · rename_i f e
          split at hi
          · rename_i od dt sl2 e2
            exact ⟨f, od, dt, sl2, e, e2⟩
          · cases hi
        · cases hi
    · cases h
  · cases h
theorem errB_ok {K : Frag} {x : Str} (h : errB K x = true) (ht : errB K "TalkError" = true) : ErrC K x := by
  obtain ⟨cd, e⟩ := errB_eo h
  obtain ⟨cdT, eT⟩ := errB_eo ht
  obtain ⟨dd, k0, k1, k2, k3, k5, lk⟩ := e.at_
  obtain ⟨ddT, t0, t1, t2, t3, t5, lkT⟩ := eT.at_
  have fd : ∀ y ∈ noNs, findIn K (.ref (He.ga K x)) y = alongIn K y PySem.HandSPX.veTail := fun y hy => by
    have z : findIn K (.ref (He.ga K x)) y = alongIn K y cd.mro := by
      simp only [findIn, lk]
    rw [z]
    rcases e.mro with q | ⟨_, q⟩
    · rw [q, alongIn, own_ref lk, e.no y hy]
      dsimp only
      rw [alongIn, own_ref lkT, eT.no y hy]
    · rw [q, alongIn, own_ref lk, e.no y hy]
  obtain ⟨f, od, dt, sl, hi, hf⟩ := e.ini
  have fi : findIn K (.ref (He.ga K x)) "__init__" = some (some (.ref f)) := by
    have z : findIn K (.ref (He.ga K x)) "__init__" = alongIn K "__init__" cd.mro := by
      simp only [findIn, lk]
    rw [z]
    rcases e.mro with q | ⟨_, q⟩ <;>
    · rw [q]
      rw [alongIn]
      rw [own_ref lk, hi]
  have fm : He.ma K (He.ga K x) "__init__" = f := by
    unfold He.ma
    rw [fi]
  have mr : ∀ T : String, cd.mro.contains (.type T) = PySem.HandSPX.veTail.contains (.type T) := fun T => by
    rcases e.mro with q | ⟨_, q⟩ <;>
    · rw [q]
      rfl
  have cls : clsIn K (He.ga K x) = some cd := by
    simp only [clsIn, lk]
  have clsT : clsIn K (He.ga K "TalkError") = some cdT := by
    simp only [clsIn, lkT]
  have sub : ∀ b, subIn K (.ref (He.ga K x)) b = mroIn K (He.ga K x) b := fun _ => rfl
  have mi : ∀ b, mroIn K (He.ga K x) b = some (cd.mro.contains b) := fun b => by
    unfold mroIn
    rw [cls, Option.bind_some]
    rcases e.mro with q | ⟨_, q⟩ <;> rw [q] <;> rfl
  have tyT : typeIn K (.ref (He.ga K "TalkError")) = some (.type "type") := by
    simp only [typeIn, lkT]
    rfl
  have ty : typeIn K (.ref (He.ga K x)) = some (.type "type") := by
    simp only [typeIn, lk]
    rfl
  have ct : cd.mro.contains (.ref (He.ga K "TalkError")) = true := by
    rcases e.mro with q | ⟨hx, q⟩
    · rw [q]
      simp
    · rw [q, hx]
      simp
  refine ⟨⟨?_, (fd _ (by decide +kernel)).trans (ve_sa K), ?_, ty, ?_⟩, (fd _ (by decide +kernel)).trans (ve_ga K), (fd _ (by decide +kernel)).trans (ve_gg K), ?_, (fd _ (by decide +kernel)).trans (ve_cl K), ?_,
    (fd _ (by decide +kernel)).trans (ve_wd K), (fd _ (by decide +kernel)).trans (ve_pl K), by rw [fm]; exact fi, ?_, ?_, ?_⟩
  · have hdel := e.nodel
    have hd := e.dict
    have hm := e.mro
    obtain ⟨nm, bs, mro, ns, qn, hd', sn, sub', ab, col, del⟩ := cd
    dsimp only at hdel hd hm
    subst hdel hd
    rcases hm with q | ⟨_, q⟩
    · subst q
      exact ⟨_, _, _, _, _, _, _, _, _, _, _, _, _, _, _, lk, by rfl⟩
    · subst q
      exact ⟨_, _, _, _, _, _, _, _, _, _, _, _, _, _, _, lk, by rfl⟩
  · rw [sub, mi, mr]
    decide +kernel
  · simp only [keepIn, lk]
    show (specialIn K (.ref (He.ga K x)) "__call__" == some (some (.builtin "type.__call__"))) = true
    unfold specialIn
    rw [ty]
    show (fastLookup "type" "__call__" == some (some (.builtin "type.__call__"))) = true
    rw [call_type]
    decide +kernel
  · unfold hasDictIn
    rw [cls]
    exact e.dict
  · rw [mi, mr]
    decide +kernel
  · rw [fm]
    simp only [typeIn, hf]
    rfl
  · refine exm_ref ?_ ?_ tyT ?_
    · show mroIn K (He.ga K "TalkError") (.type "BaseException") = some true
      unfold mroIn
      rw [clsT, Option.bind_some]
      rcases eT.mro with q | ⟨_, q⟩ <;> rw [q] <;> rfl
    · unfold hasDictIn
      rw [clsT]
      exact eT.dict
    · rw [sub, mi, ct]
  · unfold kitOne
    rw [if_neg (by simp)]
    unfold kitCls
    dsimp only
    rw [if_pos meta_ve, sub, mi, mr]
    decide +kernel
end
/-- a property of a class -/
def prB (K : PySem.W.Frag) (C f : Str) : Bool :=
  eqV (PySem.W.findIn K (.ref (He.ga K C)) f) (some (some (.ref (He.ma K (He.ga K C) f)))) && (eqV (PySem.W.specialIn K (.ref (He.ma K (He.ga K C) f)) "__get__") (some (some (.builtin "property.__get__"))) &&
  (decide (PySem.W.takesIn K (.ref (He.ma K (He.ga K C) f)) = some true) && (match PySem.W.recIn K (He.ma K (He.ga K C) f) "property" with
    | some (.ref _ :: _) => true
    | _ => false)))
theorem prB_ok {K : PySem.W.Frag} {C f : Str} (h : prB K C f = true) : PropOf K (He.ga K C) f (He.ma K (He.ga K C) f) (pgf C f K) := by
  unfold prB at h
  simp only [Bool.and_eq_true, eqV, decide_eq_true_eq] at h
  obtain ⟨h1, h2, h3, h4⟩ := h
  refine ⟨h1, h2, h3, ?_⟩
  unfold pgf
  split at h4
  · rename_i g r e
    rw [e]
    exact ⟨r, rfl⟩
  · cases h4
def fasts : List He.Fa := [.cls "Service", .cls "Words", .mkr "Service", .mkr "Words", .meth "Words" "take", .meth "Words" "expect", .meth "Words" "number", .meth "Words" "marked", .meth "Words" "rest",
  .noat "Service" "_stations", .noat "Service" "_registers", .noat "Service" "_requests", .noat "Service" "_rules", .noat "Words" "words", .noat "Words" "place", .noat "Words" "at"]
def props : List Str := ["stations", "registers", "requests", "rules"]
/-- TalkError.__init__, read off the class -/
def tinB (K : PySem.W.Frag) : Bool := PySem.W.readsIn K (He.ga K "TalkError") (.type "type") && (eqV (PySem.W.specialIn K (.ref (He.ga K "TalkError")) "__getattribute__") (some (some (.builtin "type.__getattribute__"))) &&
  ((match PySem.W.findCls K (.ref (He.ga K "TalkError")) (.type "type") "__init__" with
    | some (.val (.ref f)) => f == He.ma K (He.ga K "TalkError") "__init__"
    | _ => false) && (eqV (PySem.W.specialIn K (.builtin "object.__class__") "__get__") (some (some (.builtin "getset_descriptor.__get__"))) && decide (PySem.W.takesIn K (.builtin "object.__class__") = some true))))
/-- LENGTHS -/
def lensL : List (Str × Int) := [("always", 1), ("never", 1), ("not", 2), ("matches", 3), ("same", 3), ("empty", 2)]
def lenB (K : PySem.W.Frag) : Bool := lensL.all fun p => match PySem.W.nsIn K (He.ga K "LENGTHS") p.1 with
  | some (some (.int i _)) => decide (i = p.2)
  | _ => false
def lenB2 (K : PySem.W.Frag) : Bool := match K.lookup (He.ga K "LENGTHS") with
  | some ⟨_, _, .dict es _, _⟩ => es.toList.all (fun e => match e.key with
    | .str k _ => lensL.any fun p => decide (k = p.1)
    | _ => false)
  | _ => false
def FA (K : PySem.W.Frag) : Bool := (glos.all fun x => (He.Fa.glo x).ok K) && ((frees.all fun x => (He.Fa.free x).ok K) && ((intcs.all fun p => (He.Fa.int p.1 p.2).ok K) && ((strcs.all fun p => (He.Fa.str p.1 p.2).ok K) &&
  ((excs.all fun x => errB K x) && ((fasts.all fun f => f.ok K) && ((props.all fun f => prB K "Service" f) && (tinB K && (lenB K && lenB2 K))))))))
def tabs : List He.Tab := [(gaf "LENGTHS", ["always", "never", "not", "matches", "same", "empty"])]
/-- what the top has left -/
structure Tx (w : World) (K : PySem.W.Frag) (mg : Str → Option Value) : Prop where
  says : SaysM FA fns tabs w K
  at_ : ∃ h : Heap, K.In h ∧ h.Ns mainGlobals mg
section
variable {w : World} {K : PySem.W.Frag} {mg : Str → Option Value} (T : Tx w K mg)
include T
theorem Tx.parts : (∀ x ∈ glos, (He.Fa.glo x).ok K = true) ∧ (∀ x ∈ frees, (He.Fa.free x).ok K = true) ∧ (∀ p ∈ intcs, (He.Fa.int p.1 p.2).ok K = true) ∧ (∀ p ∈ strcs, (He.Fa.str p.1 p.2).ok K = true) ∧
    (∀ x ∈ excs, errB K x = true) ∧ (∀ f ∈ fasts, f.ok K = true) ∧ (∀ f ∈ props, prB K "Service" f = true) ∧ tinB K = true ∧ lenB K = true ∧ lenB2 K = true := by
  have h := T.says.fact
  unfold FA at h
  simp only [Bool.and_eq_true, List.all_eq_true] at h
  exact h
theorem Tx.glo {x : Str} (h : x ∈ glos := by decide +kernel) : mg x = some (.ref (He.ga K x)) := by
  obtain ⟨h0, X, G⟩ := T.at_
  exact He.glo_ok X G (T.parts.1 x h)
theorem Tx.free {x : Str} (h : x ∈ frees := by decide +kernel) : mg x = none := by
  obtain ⟨h0, X, G⟩ := T.at_
  exact He.free_ok X G (T.parts.2.1 x h)
theorem Tx.int {x : Str} {i : Int} (h : (x, i) ∈ intcs := by decide +kernel) : ∃ t, mg x = some (.int i t) := by
  obtain ⟨h0, X, G⟩ := T.at_
  exact He.int_ok X G (T.parts.2.2.1 (x, i) h)
theorem Tx.str {x z : Str} (h : (x, z) ∈ strcs := by decide +kernel) : ∃ t, mg x = some (.str z t) := by
  obtain ⟨h0, X, G⟩ := T.at_
  exact He.str_ok X G (T.parts.2.2.2.1 (x, z) h)
theorem Tx.err {x : Str} (h : x ∈ excs := by decide +kernel) : ErrC K x := errB_ok (T.parts.2.2.2.2.1 x h) (T.parts.2.2.2.2.1 "TalkError" (by decide +kernel))
theorem Tx.fast (i : Nat) {f : He.Fa} (h : fasts[i]? = some f := by rfl) : f.ok K = true := T.parts.2.2.2.2.2.1 f (List.mem_of_getElem? h)
theorem Tx.prop (f : Str) (h : f ∈ props := by decide +kernel) : PropOf K (He.ga K "Service") f (He.ma K (He.ga K "Service") f) (pgf "Service" f K) := prB_ok (T.parts.2.2.2.2.2.2.1 f h)
theorem Tx.tin : ClX.CRead K (He.ga K "TalkError") (.type "type") ∧ PySem.W.findCls K (.ref (He.ga K "TalkError")) (.type "type") "__init__" = some (.val (.ref (He.ma K (He.ga K "TalkError") "__init__"))) ∧
    PySem.W.specialIn K (.builtin "object.__class__") "__get__" = some (some (.builtin "getset_descriptor.__get__")) ∧ PySem.W.takesIn K (.builtin "object.__class__") = some true := by
  have h := T.parts.2.2.2.2.2.2.2.1
  unfold tinB at h
  simp only [Bool.and_eq_true, eqV, decide_eq_true_eq] at h
  obtain ⟨h1, h2, h3, h4, h5⟩ := h
  refine ⟨⟨h1, h2⟩, ?_, h4, h5⟩
  split at h3
  · rename_i f e
    rw [e, beq_iff_eq.mp h3]
  · cases h3
theorem Tx.len {x : Str} {i : Int} (h : (x, i) ∈ lensL) : ∃ t, PySem.W.nsIn K (He.ga K "LENGTHS") x = some (some (.int i t)) := by
  have q := List.all_eq_true.mp (T.parts.2.2.2.2.2.2.2.2.1) (x, i) h
  split at q
  · rename_i j t e
    have e2 := of_decide_eq_true q
    exact ⟨t, by rw [e, e2]⟩
  · cases q
theorem Tx.noLen {x : Str} (h : ∀ i, (x, i) ∉ lensL) : PySem.W.nsIn K (He.ga K "LENGTHS") x = some none := by
  have q := T.parts.2.2.2.2.2.2.2.2.2
  unfold lenB2 at q
  unfold PySem.W.nsIn
  split at q
  · rename_i es n sl ho
    rw [ho]
    have q2 := List.all_eq_true.mp q
    have e1 : es.toList.find? (·.key.isStr x) = none := by
      rw [List.find?_eq_none]
      intro e he hx
      have z := q2 e he
      split at z
      · rename_i k t ek
        obtain ⟨p, hp, hk⟩ := List.any_eq_true.mp z
        have hk2 : k = p.1 := of_decide_eq_true hk
        have hx2 : (Value.str k t).isStr x = true := by rw [← ek]; exact hx
        have hx3 : k = x := by simpa [Value.isStr] using hx2
        rw [← hx3, hk2] at h
        exact h p.2 hp
      · cases z
    have e2 : es.toList.any (·.refKey) = false := by
      rw [List.any_eq_false]
      intro e he hx
      have z := q2 e he
      split at z
      · rename_i k t ek
        rw [DictEntry.refKey, ek] at hx
        cases hx
      · cases z
    simp only [e1, e2]
    rfl
  · cases q
theorem Tx.lens : ∃ es n, KDict K w (He.ga K "LENGTHS") es n := T.says.tab 0 rfl
theorem Tx.def_ (i : Nat) {d : Df} (h : fns[i]? = some d := by rfl) : ∃ fd, FunT K d.name d.qual d.st (d.dfl K) (d.adr K) fd := T.says.def_ i h
end
end L2.Ta

set_option maxHeartbeats 4000000
/-! errors: made and raised -/
namespace L2.Ta
open PySem PySem.Spec PyProof.Rows L2
/-! ### a def of the text and its promise -/
def Ok1 (P : Program) (w : World) (K : PySem.W.Frag) (mg : Str → Option Value) (base : Heap) (CX : CXT) (k : Nat) (x : Str) (ps : List Str) (sp : Sp) : Prop :=
  ∃ fd, mg x = some (.ref (He.ga K x)) ∧ PySem.W.keepIn K (.ref (He.ga K x)) = true ∧ Binds K fd ps [] ∧ FnOk P w K mg base CX k (He.ga K x) fd ps sp
theorem Ok1.mono {P : Program} {w : World} {K : PySem.W.Frag} {mg : Str → Option Value} {base : Heap} {CX : CXT} {j k : Nat} {x : Str} {ps : List Str} {sp : Sp} (F : Ok1 P w K mg base CX j x ps sp) (h : j ≤ k) : Ok1 P w K mg base CX k x ps sp := by
  obtain ⟨fd, a, b, c, d⟩ := F
  exact ⟨fd, a, b, c, d.mono h⟩
theorem ok1_of {P : Program} {w : World} {K : PySem.W.Frag} {mg : Str → Option Value} {base : Heap} {CX : CXT} {k : Nat} {x : Str} {st : Stmt} {N ps : List Str} {sp : Sp} (hm : mg x = some (.ref (He.ga K x))) (hd : ∃ fd, FunT K x x st [] (gaf x K) fd) (S : FnScope N ps (defScope st))
    (len : ∀ vs H Q E, sp vs H Q E → vs.length = ps.length)
    (hb : ∀ (kV doc pm : Value) (an : Option Addr) (cdv ct : Value) (us : List Value), us.length = ps.length → bindArgs (PySem.W.fnOf x x (defArgs st) (defBody st) (defScope st) .none kV doc pm an cdv ct) ⟨us, []⟩ = pure (ps.zip us))
    (hbody : ∀ (cdv : Value) (A : Around) (outer : List Env) (s : Shared) (H : Hp) (vs : List V) (Q : VK) (E : XK), Room k (A.deeper (envOfC x (defScope st) s.heap.objs.size (He.ga K x) cdv)) → sp vs H Q E →
      ∃ t, PSs (cxOf CX P w K mg base N x (defScope st) (He.ga K x) cdv A outer s H E) (defBody st) t ∧ t { nx := fun _ H' => Q .non H', rt := Q } (start N vs) H) : Ok1 P w K mg base CX (k + 1) x ps sp := by
  obtain ⟨fd, F⟩ := hd
  exact ⟨fd, hm, F.kp, F.bindsN hb, F.ok S len hbody⟩
section
variable {X : Cx} {CX : CXT} {k : Nat} {x : Str} {ps : List Str} {sp : Sp} {E : XK} {p pos : Pos} {e : Expr} {es : List Expr} {t : TA}
theorem pe_f (F : Ok1 X.prog X.w X.K X.mg X.base CX k x ps sp) (hr : Room k X.A) (hx : Passes CX X E) (ha : PA X (e :: es) t) (hg : Gl X x := by rfl)
    (hdb : (x == ("__debug__" : Str)) = false := by decide) (he : starEach (e :: es) X.env = (false, eval e X.env) :: starEach es X.env := by rfl) (hpl : (backTo pos (starEach es X.env)).any (·.1) = false := by rfl) :
    PE X (.Call (.Name x p) (e :: es) [] pos) (tCall sp [] E t) := by
  obtain ⟨fd, hm, hk, hb, F⟩ := F
  exact pe_call F hr hg hm hk hb .nil hx ha hdb he hpl
end
/-! ### the errors' __init__ -/
def spTE (K : PySem.W.Frag) : Sp := fun vs H Q _ => ∃ (a C : Addr) (wd pl : V), vs = [.ref a, wd, pl] ∧ OexC K C ∧ PySem.W.findIn K (.ref C) "word" = some none ∧ PySem.W.findIn K (.ref C) "place" = some none ∧ H a = some (exo a C none) ∧
  ∀ d, H d = none → d ≠ a → Q .non (upd (upd (upd H d (exd d [("word", wd)])) a (exo a C (some d))) d (exd d [("place", pl), ("word", wd)]))
def spErr (K : PySem.W.Frag) (x : Str) : Sp := fun vs H Q _ => ∃ (a : Addr) (pl : V), vs = [.ref a, pl] ∧ H a = some (exo a (He.ga K x) none) ∧
  ∀ d, H d = none → d ≠ a → Q .non (upd (upd (upd H d (exd d [("word", .str x)])) a (exo a (He.ga K x) (some d))) d (exd d [("place", pl), ("word", .str x)]))
section
variable {P : Program} {w : World} {K : PySem.W.Frag} {mg : Str → Option Value} {base : Heap} {f : Addr} {fd : FuncData}
theorem scTE : FnScope ["self", "word", "place"] ["self", "word", "place"] (defScope (inClass (top 1) 0)) := ⟨rfl, rfl, rfl, by decide +kernel, rfl, by decide +kernel, by decide +kernel⟩
theorem ok_TE (F : FunT K "__init__" "TalkError.__init__" (inClass (top 1) 0) [.non] f fd) : FnOk P w K mg base CX0 1 f fd ["self", "word", "place"] (spTE K) := by
  refine FunD.ok F scTE (fun vs H Q E h => ?_) (fun cdv A outer s H vs Q E hr h => ⟨_, PSs.nox (pss_cons (ps_ost (pv 0) (pv 1)) (pss_one (ps_ost (pv 0) (pv 2)))), ?_⟩)
  · obtain ⟨a, C, wd, pl, rfl, _⟩ := h
    rfl
  · obtain ⟨a, C, wd, pl, rfl, T, n1, n2, ha, hQ⟩ := h
    refine ⟨_, rfl, _, rfl, a, C, rfl, T, n1, Or.inl ⟨ha, fun dx hd ne => ?_⟩⟩
    refine ⟨_, rfl, _, rfl, a, C, rfl, T, n2, Or.inr ⟨dx, [("word", wd)], upd_same, ?_, (by show 1 ≤ 900; decide), hQ dx hd ne⟩⟩
    rw [upd_ne ne]
    exact upd_same
theorem bind_TE (F : FunT K "__init__" "TalkError.__init__" (inClass (top 1) 0) [.non] f fd) : ∃ ds, Vals [] ds ∧ Binds K fd ["self", "word", "place"] ds :=
  FunD.binds1 F 3 1 (by simp) (by rfl) fun T kV doc pm an cdv ct us its hu hi => match us, hu, its, hi with
    | [a, b, c], _, [d], _ => ⟨_, rfl, rfl⟩
end
/-- an error class, ready to be raised -/
def OkE (P : Program) (w : World) (K : PySem.W.Frag) (mg : Str → Option Value) (base : Heap) (x : Str) : Prop :=
  mg x = some (.ref (He.ga K x)) ∧ ErrC K x ∧ ∃ fd, FnOk P w K mg base CX0 2 (He.ma K (He.ga K x) "__init__") fd ["self", "place"] (spErr K x) ∧
    (∃ ds, Vals [] ds ∧ Binds K fd ["self", "place"] ds) ∧ ∃ ds, Vals [.non] ds ∧ Binds K fd ["self", "place"] ds
section
variable {P : Program} {w : World} {K : PySem.W.Frag} {mg : Str → Option Value} {base : Heap}
theorem scE2 : FnScope ["self", "place"] ["self", "place"] (defScope (inClass (top 2) 0)) := ⟨rfl, rfl, rfl, by decide +kernel, rfl, by decide +kernel, by decide +kernel⟩
theorem ok_BadPattern (T : Tx w K mg) : OkE P w K mg base "BadPattern" := by
  obtain ⟨fT, FT⟩ := T.def_ 0 (d := ⟨maf "TalkError" "__init__", "__init__", "TalkError.__init__", inClass (top 1) 0, fun _ => [.non]⟩) rfl
  obtain ⟨fd, F⟩ := T.def_ 1 (d := ⟨maf "BadPattern" "__init__", "__init__", "BadPattern.__init__", inClass (top 2) 0, fun _ => [.non]⟩) rfl
  obtain ⟨ds, hds, bT⟩ := bind_TE FT
  obtain ⟨cr, fc, _, _⟩ := T.tin
  have EC : ErrC K "BadPattern" := T.err
  refine ⟨T.glo, EC, fd, ?_, FunD.binds1 F 2 1 (by simp) (by rfl) fun T kV doc pm an cdv ct us its hu hi => (match us, hu, its, hi with
    | [a, b], _, [d], _ => ⟨_, rfl, rfl⟩), FunD.binds1 F 1 0 (by simp) (by rfl) fun T kV doc pm an cdv ct us its hu hi => (match us, hu, its, hi with
    | [a], _, [d], _ => ⟨_, rfl, rfl⟩)⟩
  refine FunD.ok F scE2 (fun vs H Q E h => ?_) (fun cdv A outer s H vs Q E' hr h => ⟨_, PSs.nox (pss_one (ps_expr (pe_clsf (mc := .type "type") rfl T.glo cr fc (ok_TE FT) hr FT.kp bT hds pass0 (pa_cons (pv 0) (pa_cons pe_str (pa_cons (pv 1) pa_nil)))))), ?_⟩)
  · obtain ⟨a, pl, rfl, _⟩ := h
    rfl
  · obtain ⟨a, pl, rfl, ha, hQ⟩ := h
    exact ⟨_, rfl, _, rfl, a, He.ga K "BadPattern", .str "BadPattern", pl, rfl, EC.oex, EC.noW, EC.noP, ha, fun d hd ne => hQ d hd ne⟩
theorem scE3 : FnScope ["self", "place"] ["self", "place"] (defScope (inClass (top 3) 0)) := ⟨rfl, rfl, rfl, by decide +kernel, rfl, by decide +kernel, by decide +kernel⟩
theorem ok_BadKinds (T : Tx w K mg) : OkE P w K mg base "BadKinds" := by
  obtain ⟨fT, FT⟩ := T.def_ 0 (d := ⟨maf "TalkError" "__init__", "__init__", "TalkError.__init__", inClass (top 1) 0, fun _ => [.non]⟩) rfl
  obtain ⟨fd, F⟩ := T.def_ 2 (d := ⟨maf "BadKinds" "__init__", "__init__", "BadKinds.__init__", inClass (top 3) 0, fun _ => [.non]⟩) rfl
  obtain ⟨ds, hds, bT⟩ := bind_TE FT
  obtain ⟨cr, fc, _, _⟩ := T.tin
  have EC : ErrC K "BadKinds" := T.err
  refine ⟨T.glo, EC, fd, ?_, FunD.binds1 F 2 1 (by simp) (by rfl) fun T kV doc pm an cdv ct us its hu hi => (match us, hu, its, hi with
    | [a, b], _, [d], _ => ⟨_, rfl, rfl⟩), FunD.binds1 F 1 0 (by simp) (by rfl) fun T kV doc pm an cdv ct us its hu hi => (match us, hu, its, hi with
    | [a], _, [d], _ => ⟨_, rfl, rfl⟩)⟩
  refine FunD.ok F scE3 (fun vs H Q E h => ?_) (fun cdv A outer s H vs Q E' hr h => ⟨_, PSs.nox (pss_one (ps_expr (pe_clsf (mc := .type "type") rfl T.glo cr fc (ok_TE FT) hr FT.kp bT hds pass0 (pa_cons (pv 0) (pa_cons pe_str (pa_cons (pv 1) pa_nil)))))), ?_⟩)
  · obtain ⟨a, pl, rfl, _⟩ := h
    rfl
  · obtain ⟨a, pl, rfl, ha, hQ⟩ := h
    exact ⟨_, rfl, _, rfl, a, He.ga K "BadKinds", .str "BadKinds", pl, rfl, EC.oex, EC.noW, EC.noP, ha, fun d hd ne => hQ d hd ne⟩
theorem scE4 : FnScope ["self", "place"] ["self", "place"] (defScope (inClass (top 4) 0)) := ⟨rfl, rfl, rfl, by decide +kernel, rfl, by decide +kernel, by decide +kernel⟩
theorem ok_BadLine (T : Tx w K mg) : OkE P w K mg base "BadLine" := by
  obtain ⟨fT, FT⟩ := T.def_ 0 (d := ⟨maf "TalkError" "__init__", "__init__", "TalkError.__init__", inClass (top 1) 0, fun _ => [.non]⟩) rfl
  obtain ⟨fd, F⟩ := T.def_ 3 (d := ⟨maf "BadLine" "__init__", "__init__", "BadLine.__init__", inClass (top 4) 0, fun _ => [.non]⟩) rfl
  obtain ⟨ds, hds, bT⟩ := bind_TE FT
  obtain ⟨cr, fc, _, _⟩ := T.tin
  have EC : ErrC K "BadLine" := T.err
  refine ⟨T.glo, EC, fd, ?_, FunD.binds1 F 2 1 (by simp) (by rfl) fun T kV doc pm an cdv ct us its hu hi => (match us, hu, its, hi with
    | [a, b], _, [d], _ => ⟨_, rfl, rfl⟩), FunD.binds1 F 1 0 (by simp) (by rfl) fun T kV doc pm an cdv ct us its hu hi => (match us, hu, its, hi with
    | [a], _, [d], _ => ⟨_, rfl, rfl⟩)⟩
  refine FunD.ok F scE4 (fun vs H Q E h => ?_) (fun cdv A outer s H vs Q E' hr h => ⟨_, PSs.nox (pss_one (ps_expr (pe_clsf (mc := .type "type") rfl T.glo cr fc (ok_TE FT) hr FT.kp bT hds pass0 (pa_cons (pv 0) (pa_cons pe_str (pa_cons (pv 1) pa_nil)))))), ?_⟩)
  · obtain ⟨a, pl, rfl, _⟩ := h
    rfl
  · obtain ⟨a, pl, rfl, ha, hQ⟩ := h
    exact ⟨_, rfl, _, rfl, a, He.ga K "BadLine", .str "BadLine", pl, rfl, EC.oex, EC.noW, EC.noP, ha, fun d hd ne => hQ d hd ne⟩
theorem scE5 : FnScope ["self", "place"] ["self", "place"] (defScope (inClass (top 5) 0)) := ⟨rfl, rfl, rfl, by decide +kernel, rfl, by decide +kernel, by decide +kernel⟩
theorem ok_BadCondition (T : Tx w K mg) : OkE P w K mg base "BadCondition" := by
  obtain ⟨fT, FT⟩ := T.def_ 0 (d := ⟨maf "TalkError" "__init__", "__init__", "TalkError.__init__", inClass (top 1) 0, fun _ => [.non]⟩) rfl
  obtain ⟨fd, F⟩ := T.def_ 4 (d := ⟨maf "BadCondition" "__init__", "__init__", "BadCondition.__init__", inClass (top 5) 0, fun _ => [.non]⟩) rfl
  obtain ⟨ds, hds, bT⟩ := bind_TE FT
  obtain ⟨cr, fc, _, _⟩ := T.tin
  have EC : ErrC K "BadCondition" := T.err
  refine ⟨T.glo, EC, fd, ?_, FunD.binds1 F 2 1 (by simp) (by rfl) fun T kV doc pm an cdv ct us its hu hi => (match us, hu, its, hi with
    | [a, b], _, [d], _ => ⟨_, rfl, rfl⟩), FunD.binds1 F 1 0 (by simp) (by rfl) fun T kV doc pm an cdv ct us its hu hi => (match us, hu, its, hi with
    | [a], _, [d], _ => ⟨_, rfl, rfl⟩)⟩
  refine FunD.ok F scE5 (fun vs H Q E h => ?_) (fun cdv A outer s H vs Q E' hr h => ⟨_, PSs.nox (pss_one (ps_expr (pe_clsf (mc := .type "type") rfl T.glo cr fc (ok_TE FT) hr FT.kp bT hds pass0 (pa_cons (pv 0) (pa_cons pe_str (pa_cons (pv 1) pa_nil)))))), ?_⟩)
  · obtain ⟨a, pl, rfl, _⟩ := h
    rfl
  · obtain ⟨a, pl, rfl, ha, hQ⟩ := h
    exact ⟨_, rfl, _, rfl, a, He.ga K "BadCondition", .str "BadCondition", pl, rfl, EC.oex, EC.noW, EC.noP, ha, fun d hd ne => hQ d hd ne⟩
theorem scE6 : FnScope ["self", "place"] ["self", "place"] (defScope (inClass (top 6) 0)) := ⟨rfl, rfl, rfl, by decide +kernel, rfl, by decide +kernel, by decide +kernel⟩
theorem ok_UnknownName (T : Tx w K mg) : OkE P w K mg base "UnknownName" := by
  obtain ⟨fT, FT⟩ := T.def_ 0 (d := ⟨maf "TalkError" "__init__", "__init__", "TalkError.__init__", inClass (top 1) 0, fun _ => [.non]⟩) rfl
  obtain ⟨fd, F⟩ := T.def_ 5 (d := ⟨maf "UnknownName" "__init__", "__init__", "UnknownName.__init__", inClass (top 6) 0, fun _ => [.non]⟩) rfl
  obtain ⟨ds, hds, bT⟩ := bind_TE FT
  obtain ⟨cr, fc, _, _⟩ := T.tin
  have EC : ErrC K "UnknownName" := T.err
  refine ⟨T.glo, EC, fd, ?_, FunD.binds1 F 2 1 (by simp) (by rfl) fun T kV doc pm an cdv ct us its hu hi => (match us, hu, its, hi with
    | [a, b], _, [d], _ => ⟨_, rfl, rfl⟩), FunD.binds1 F 1 0 (by simp) (by rfl) fun T kV doc pm an cdv ct us its hu hi => (match us, hu, its, hi with
    | [a], _, [d], _ => ⟨_, rfl, rfl⟩)⟩
  refine FunD.ok F scE6 (fun vs H Q E h => ?_) (fun cdv A outer s H vs Q E' hr h => ⟨_, PSs.nox (pss_one (ps_expr (pe_clsf (mc := .type "type") rfl T.glo cr fc (ok_TE FT) hr FT.kp bT hds pass0 (pa_cons (pv 0) (pa_cons pe_str (pa_cons (pv 1) pa_nil)))))), ?_⟩)
  · obtain ⟨a, pl, rfl, _⟩ := h
    rfl
  · obtain ⟨a, pl, rfl, ha, hQ⟩ := h
    exact ⟨_, rfl, _, rfl, a, He.ga K "UnknownName", .str "UnknownName", pl, rfl, EC.oex, EC.noW, EC.noP, ha, fun d hd ne => hQ d hd ne⟩
theorem scE7 : FnScope ["self", "place"] ["self", "place"] (defScope (inClass (top 7) 0)) := ⟨rfl, rfl, rfl, by decide +kernel, rfl, by decide +kernel, by decide +kernel⟩
theorem ok_UnknownStation (T : Tx w K mg) : OkE P w K mg base "UnknownStation" := by
  obtain ⟨fT, FT⟩ := T.def_ 0 (d := ⟨maf "TalkError" "__init__", "__init__", "TalkError.__init__", inClass (top 1) 0, fun _ => [.non]⟩) rfl
  obtain ⟨fd, F⟩ := T.def_ 6 (d := ⟨maf "UnknownStation" "__init__", "__init__", "UnknownStation.__init__", inClass (top 7) 0, fun _ => [.non]⟩) rfl
  obtain ⟨ds, hds, bT⟩ := bind_TE FT
  obtain ⟨cr, fc, _, _⟩ := T.tin
  have EC : ErrC K "UnknownStation" := T.err
  refine ⟨T.glo, EC, fd, ?_, FunD.binds1 F 2 1 (by simp) (by rfl) fun T kV doc pm an cdv ct us its hu hi => (match us, hu, its, hi with
    | [a, b], _, [d], _ => ⟨_, rfl, rfl⟩), FunD.binds1 F 1 0 (by simp) (by rfl) fun T kV doc pm an cdv ct us its hu hi => (match us, hu, its, hi with
    | [a], _, [d], _ => ⟨_, rfl, rfl⟩)⟩
  refine FunD.ok F scE7 (fun vs H Q E h => ?_) (fun cdv A outer s H vs Q E' hr h => ⟨_, PSs.nox (pss_one (ps_expr (pe_clsf (mc := .type "type") rfl T.glo cr fc (ok_TE FT) hr FT.kp bT hds pass0 (pa_cons (pv 0) (pa_cons pe_str (pa_cons (pv 1) pa_nil)))))), ?_⟩)
  · obtain ⟨a, pl, rfl, _⟩ := h
    rfl
  · obtain ⟨a, pl, rfl, ha, hQ⟩ := h
    exact ⟨_, rfl, _, rfl, a, He.ga K "UnknownStation", .str "UnknownStation", pl, rfl, EC.oex, EC.noW, EC.noP, ha, fun d hd ne => hQ d hd ne⟩
theorem scE8 : FnScope ["self", "place"] ["self", "place"] (defScope (inClass (top 8) 0)) := ⟨rfl, rfl, rfl, by decide +kernel, rfl, by decide +kernel, by decide +kernel⟩
theorem ok_UnknownRequest (T : Tx w K mg) : OkE P w K mg base "UnknownRequest" := by
  obtain ⟨fT, FT⟩ := T.def_ 0 (d := ⟨maf "TalkError" "__init__", "__init__", "TalkError.__init__", inClass (top 1) 0, fun _ => [.non]⟩) rfl
  obtain ⟨fd, F⟩ := T.def_ 7 (d := ⟨maf "UnknownRequest" "__init__", "__init__", "UnknownRequest.__init__", inClass (top 8) 0, fun _ => [.non]⟩) rfl
  obtain ⟨ds, hds, bT⟩ := bind_TE FT
  obtain ⟨cr, fc, _, _⟩ := T.tin
  have EC : ErrC K "UnknownRequest" := T.err
  refine ⟨T.glo, EC, fd, ?_, FunD.binds1 F 2 1 (by simp) (by rfl) fun T kV doc pm an cdv ct us its hu hi => (match us, hu, its, hi with
    | [a, b], _, [d], _ => ⟨_, rfl, rfl⟩), FunD.binds1 F 1 0 (by simp) (by rfl) fun T kV doc pm an cdv ct us its hu hi => (match us, hu, its, hi with
    | [a], _, [d], _ => ⟨_, rfl, rfl⟩)⟩
  refine FunD.ok F scE8 (fun vs H Q E h => ?_) (fun cdv A outer s H vs Q E' hr h => ⟨_, PSs.nox (pss_one (ps_expr (pe_clsf (mc := .type "type") rfl T.glo cr fc (ok_TE FT) hr FT.kp bT hds pass0 (pa_cons (pv 0) (pa_cons pe_str (pa_cons (pv 1) pa_nil)))))), ?_⟩)
  · obtain ⟨a, pl, rfl, _⟩ := h
    rfl
  · obtain ⟨a, pl, rfl, ha, hQ⟩ := h
    exact ⟨_, rfl, _, rfl, a, He.ga K "UnknownRequest", .str "UnknownRequest", pl, rfl, EC.oex, EC.noW, EC.noP, ha, fun d hd ne => hQ d hd ne⟩
theorem scE9 : FnScope ["self", "place"] ["self", "place"] (defScope (inClass (top 9) 0)) := ⟨rfl, rfl, rfl, by decide +kernel, rfl, by decide +kernel, by decide +kernel⟩
theorem ok_BadRule (T : Tx w K mg) : OkE P w K mg base "BadRule" := by
  obtain ⟨fT, FT⟩ := T.def_ 0 (d := ⟨maf "TalkError" "__init__", "__init__", "TalkError.__init__", inClass (top 1) 0, fun _ => [.non]⟩) rfl
  obtain ⟨fd, F⟩ := T.def_ 8 (d := ⟨maf "BadRule" "__init__", "__init__", "BadRule.__init__", inClass (top 9) 0, fun _ => [.non]⟩) rfl
  obtain ⟨ds, hds, bT⟩ := bind_TE FT
  obtain ⟨cr, fc, _, _⟩ := T.tin
  have EC : ErrC K "BadRule" := T.err
  refine ⟨T.glo, EC, fd, ?_, FunD.binds1 F 2 1 (by simp) (by rfl) fun T kV doc pm an cdv ct us its hu hi => (match us, hu, its, hi with
    | [a, b], _, [d], _ => ⟨_, rfl, rfl⟩), FunD.binds1 F 1 0 (by simp) (by rfl) fun T kV doc pm an cdv ct us its hu hi => (match us, hu, its, hi with
    | [a], _, [d], _ => ⟨_, rfl, rfl⟩)⟩
  refine FunD.ok F scE9 (fun vs H Q E h => ?_) (fun cdv A outer s H vs Q E' hr h => ⟨_, PSs.nox (pss_one (ps_expr (pe_clsf (mc := .type "type") rfl T.glo cr fc (ok_TE FT) hr FT.kp bT hds pass0 (pa_cons (pv 0) (pa_cons pe_str (pa_cons (pv 1) pa_nil)))))), ?_⟩)
  · obtain ⟨a, pl, rfl, _⟩ := h
    rfl
  · obtain ⟨a, pl, rfl, ha, hQ⟩ := h
    exact ⟨_, rfl, _, rfl, a, He.ga K "BadRule", .str "BadRule", pl, rfl, EC.oex, EC.noW, EC.noP, ha, fun d hd ne => hQ d hd ne⟩
theorem scE10 : FnScope ["self", "place"] ["self", "place"] (defScope (inClass (top 10) 0)) := ⟨rfl, rfl, rfl, by decide +kernel, rfl, by decide +kernel, by decide +kernel⟩
theorem ok_BadSource (T : Tx w K mg) : OkE P w K mg base "BadSource" := by
  obtain ⟨fT, FT⟩ := T.def_ 0 (d := ⟨maf "TalkError" "__init__", "__init__", "TalkError.__init__", inClass (top 1) 0, fun _ => [.non]⟩) rfl
  obtain ⟨fd, F⟩ := T.def_ 9 (d := ⟨maf "BadSource" "__init__", "__init__", "BadSource.__init__", inClass (top 10) 0, fun _ => [.non]⟩) rfl
  obtain ⟨ds, hds, bT⟩ := bind_TE FT
  obtain ⟨cr, fc, _, _⟩ := T.tin
  have EC : ErrC K "BadSource" := T.err
  refine ⟨T.glo, EC, fd, ?_, FunD.binds1 F 2 1 (by simp) (by rfl) fun T kV doc pm an cdv ct us its hu hi => (match us, hu, its, hi with
    | [a, b], _, [d], _ => ⟨_, rfl, rfl⟩), FunD.binds1 F 1 0 (by simp) (by rfl) fun T kV doc pm an cdv ct us its hu hi => (match us, hu, its, hi with
    | [a], _, [d], _ => ⟨_, rfl, rfl⟩)⟩
  refine FunD.ok F scE10 (fun vs H Q E h => ?_) (fun cdv A outer s H vs Q E' hr h => ⟨_, PSs.nox (pss_one (ps_expr (pe_clsf (mc := .type "type") rfl T.glo cr fc (ok_TE FT) hr FT.kp bT hds pass0 (pa_cons (pv 0) (pa_cons pe_str (pa_cons (pv 1) pa_nil)))))), ?_⟩)
  · obtain ⟨a, pl, rfl, _⟩ := h
    rfl
  · obtain ⟨a, pl, rfl, ha, hQ⟩ := h
    exact ⟨_, rfl, _, rfl, a, He.ga K "BadSource", .str "BadSource", pl, rfl, EC.oex, EC.noW, EC.noP, ha, fun d hd ne => hQ d hd ne⟩
theorem scE11 : FnScope ["self", "place"] ["self", "place"] (defScope (inClass (top 11) 0)) := ⟨rfl, rfl, rfl, by decide +kernel, rfl, by decide +kernel, by decide +kernel⟩
theorem ok_BadCount (T : Tx w K mg) : OkE P w K mg base "BadCount" := by
  obtain ⟨fT, FT⟩ := T.def_ 0 (d := ⟨maf "TalkError" "__init__", "__init__", "TalkError.__init__", inClass (top 1) 0, fun _ => [.non]⟩) rfl
  obtain ⟨fd, F⟩ := T.def_ 10 (d := ⟨maf "BadCount" "__init__", "__init__", "BadCount.__init__", inClass (top 11) 0, fun _ => [.non]⟩) rfl
  obtain ⟨ds, hds, bT⟩ := bind_TE FT
  obtain ⟨cr, fc, _, _⟩ := T.tin
  have EC : ErrC K "BadCount" := T.err
  refine ⟨T.glo, EC, fd, ?_, FunD.binds1 F 2 1 (by simp) (by rfl) fun T kV doc pm an cdv ct us its hu hi => (match us, hu, its, hi with
    | [a, b], _, [d], _ => ⟨_, rfl, rfl⟩), FunD.binds1 F 1 0 (by simp) (by rfl) fun T kV doc pm an cdv ct us its hu hi => (match us, hu, its, hi with
    | [a], _, [d], _ => ⟨_, rfl, rfl⟩)⟩
  refine FunD.ok F scE11 (fun vs H Q E h => ?_) (fun cdv A outer s H vs Q E' hr h => ⟨_, PSs.nox (pss_one (ps_expr (pe_clsf (mc := .type "type") rfl T.glo cr fc (ok_TE FT) hr FT.kp bT hds pass0 (pa_cons (pv 0) (pa_cons pe_str (pa_cons (pv 1) pa_nil)))))), ?_⟩)
  · obtain ⟨a, pl, rfl, _⟩ := h
    rfl
  · obtain ⟨a, pl, rfl, ha, hQ⟩ := h
    exact ⟨_, rfl, _, rfl, a, He.ga K "BadCount", .str "BadCount", pl, rfl, EC.oex, EC.noW, EC.noP, ha, fun d hd ne => hQ d hd ne⟩
theorem scE12 : FnScope ["self", "place"] ["self", "place"] (defScope (inClass (top 12) 0)) := ⟨rfl, rfl, rfl, by decide +kernel, rfl, by decide +kernel, by decide +kernel⟩
theorem ok_BadName (T : Tx w K mg) : OkE P w K mg base "BadName" := by
  obtain ⟨fT, FT⟩ := T.def_ 0 (d := ⟨maf "TalkError" "__init__", "__init__", "TalkError.__init__", inClass (top 1) 0, fun _ => [.non]⟩) rfl
  obtain ⟨fd, F⟩ := T.def_ 11 (d := ⟨maf "BadName" "__init__", "__init__", "BadName.__init__", inClass (top 12) 0, fun _ => [.non]⟩) rfl
  obtain ⟨ds, hds, bT⟩ := bind_TE FT
  obtain ⟨cr, fc, _, _⟩ := T.tin
  have EC : ErrC K "BadName" := T.err
  refine ⟨T.glo, EC, fd, ?_, FunD.binds1 F 2 1 (by simp) (by rfl) fun T kV doc pm an cdv ct us its hu hi => (match us, hu, its, hi with
    | [a, b], _, [d], _ => ⟨_, rfl, rfl⟩), FunD.binds1 F 1 0 (by simp) (by rfl) fun T kV doc pm an cdv ct us its hu hi => (match us, hu, its, hi with
    | [a], _, [d], _ => ⟨_, rfl, rfl⟩)⟩
  refine FunD.ok F scE12 (fun vs H Q E h => ?_) (fun cdv A outer s H vs Q E' hr h => ⟨_, PSs.nox (pss_one (ps_expr (pe_clsf (mc := .type "type") rfl T.glo cr fc (ok_TE FT) hr FT.kp bT hds pass0 (pa_cons (pv 0) (pa_cons pe_str (pa_cons (pv 1) pa_nil)))))), ?_⟩)
  · obtain ⟨a, pl, rfl, _⟩ := h
    rfl
  · obtain ⟨a, pl, rfl, ha, hQ⟩ := h
    exact ⟨_, rfl, _, rfl, a, He.ga K "BadName", .str "BadName", pl, rfl, EC.oex, EC.noW, EC.noP, ha, fun d hd ne => hQ d hd ne⟩
theorem scE13 : FnScope ["self", "place"] ["self", "place"] (defScope (inClass (top 13) 0)) := ⟨rfl, rfl, rfl, by decide +kernel, rfl, by decide +kernel, by decide +kernel⟩
theorem ok_DuplicateName (T : Tx w K mg) : OkE P w K mg base "DuplicateName" := by
  obtain ⟨fT, FT⟩ := T.def_ 0 (d := ⟨maf "TalkError" "__init__", "__init__", "TalkError.__init__", inClass (top 1) 0, fun _ => [.non]⟩) rfl
  obtain ⟨fd, F⟩ := T.def_ 12 (d := ⟨maf "DuplicateName" "__init__", "__init__", "DuplicateName.__init__", inClass (top 13) 0, fun _ => [.non]⟩) rfl
  obtain ⟨ds, hds, bT⟩ := bind_TE FT
  obtain ⟨cr, fc, _, _⟩ := T.tin
  have EC : ErrC K "DuplicateName" := T.err
  refine ⟨T.glo, EC, fd, ?_, FunD.binds1 F 2 1 (by simp) (by rfl) fun T kV doc pm an cdv ct us its hu hi => (match us, hu, its, hi with
    | [a, b], _, [d], _ => ⟨_, rfl, rfl⟩), FunD.binds1 F 1 0 (by simp) (by rfl) fun T kV doc pm an cdv ct us its hu hi => (match us, hu, its, hi with
    | [a], _, [d], _ => ⟨_, rfl, rfl⟩)⟩
  refine FunD.ok F scE13 (fun vs H Q E h => ?_) (fun cdv A outer s H vs Q E' hr h => ⟨_, PSs.nox (pss_one (ps_expr (pe_clsf (mc := .type "type") rfl T.glo cr fc (ok_TE FT) hr FT.kp bT hds pass0 (pa_cons (pv 0) (pa_cons pe_str (pa_cons (pv 1) pa_nil)))))), ?_⟩)
  · obtain ⟨a, pl, rfl, _⟩ := h
    rfl
  · obtain ⟨a, pl, rfl, ha, hQ⟩ := h
    exact ⟨_, rfl, _, rfl, a, He.ga K "DuplicateName", .str "DuplicateName", pl, rfl, EC.oex, EC.noW, EC.noP, ha, fun d hd ne => hQ d hd ne⟩
end
/-! ### raise X(e), raise X() -/
/-- what a raised error of ours is like -/
def Raised (K : PySem.W.Frag) (cls : Value) (d : Option Addr) (H : Hp) : Prop := ∃ (x : Str) (dd : Addr) (pl : V), x ∈ excs ∧ cls = .ref (He.ga K x) ∧ d = some dd ∧ H dd = some (.xd [("place", pl), ("word", .str x)])
def isIns : HO → Bool
  | .ins _ _ _ => true
  | _ => false
/-- all that was tracked stands, but instances may have changed -/
def KeepW (H H' : Hp) : Prop := ∀ b o, H b = some o → isIns o = false → H' b = some o
theorem KeepW.refl (H : Hp) : KeepW H H := fun _ _ e _ => e
theorem KeepW.trans {H H1 H2 : Hp} (a : KeepW H H1) (b : KeepW H1 H2) : KeepW H H2 := fun c o e i => b c o (a c o e i) i
theorem KeepW.same {H H1 : Hp} (a : Same H H1) : KeepW H H1 := fun c o e _ => a c o e
theorem KeepW.new {H : Hp} {p : Addr} {o : HO} (h : H p = none) : KeepW H (upd H p o) := fun b u e _ => by
  rw [upd_ne (ne_of_none e h)]
  exact e
theorem Same.new {H : Hp} {p : Addr} {o : HO} (h : H p = none) : Same H (upd H p o) := fun b u e => by
  rw [upd_ne (ne_of_none e h)]
  exact e
theorem KeepW.ins {H : Hp} {p C dx : Addr} {fs fs' : List (Str × V)} (h : H p = some (.ins C dx fs)) : KeepW H (upd H p (.ins C dx fs')) := fun b u e i => by
  rw [upd_ne]
  · exact e
  · rintro rfl
    rw [h] at e
    cases e
    cases i
/-- whatever error of ours is raised, the caller's wish is met -/
def RE (K : PySem.W.Frag) (H : Hp) (E : XK) : Prop := ∀ cls d H', KeepW H H' → Raised K cls d H' → E cls d H'
theorem RE.mono {K : PySem.W.Frag} {H H1 : Hp} {E : XK} (r : RE K H E) (k : KeepW H H1) : RE K H1 E := fun cls d H' k' x => r cls d H' (k.trans k') x
def tErr (K : PySem.W.Frag) (x : Str) (E : XK) (dvs : List V) (t : TA) : TS := fun _ σ H => tMkO (He.ga K x) (spErr K x) dvs t σ H fun cls d H' => E cls d H'
theorem upd_del {H : Hp} {a d : Addr} {o o1 o2 o3 o4 : HO} (ha : H a = none) (ne : d ≠ a) : upd (del (upd (upd (upd (upd H a o1) d o2) a o3) d o4) a) d o = upd H d o := by
  funext b
  unfold upd del
  by_cases h1 : b = d
  · simp only [if_pos h1]
  · by_cases h2 : b = a
    · simp only [h1, h2, if_true, if_false, ha, if_neg (Ne.symm ne)]
    · simp only [h1, h2, if_false]
/-- the end of a raise -/
theorem err_end {K : PySem.W.Frag} {x : Str} {H H1 : Hp} {E : XK} {vs dvs : List V} {pl : V} (re : RE K H E) (k : KeepW H H1) (hv : vs ++ dvs = [pl]) (hl : vs.length ≤ 1000) (hx : x ∈ excs := by decide +kernel) :
    vs.length ≤ 1000 ∧ ∀ a, H1 a = none → spErr K x (.ref a :: (vs ++ dvs)) (upd H1 a (exo a (He.ga K x) none))
      (fun v H2 => v = .non ∧ ∃ (d : Addr) (fs : List (Str × V)), H2 a = some (exo a (He.ga K x) (some d)) ∧ H2 d = some (exd d fs) ∧ H1 d = none ∧ E (.ref (He.ga K x)) (some d) (upd (del H2 a) d (.xd fs))) (fun _ _ _ => False) := by
  refine ⟨hl, fun a na => ?_⟩
  rw [hv]
  refine ⟨a, pl, rfl, upd_same, fun d hd ne => ⟨rfl, d, [("place", pl), ("word", .str x)], ?_, upd_same, ?_, ?_⟩⟩
  · rw [upd_ne (Ne.symm ne)]
    exact upd_same
  · rw [upd_ne ne] at hd
    exact hd
  · rw [upd_ne ne] at hd
    rw [upd_del na ne]
    exact re _ _ _ (k.trans (KeepW.new hd)) ⟨x, d, pl, hx, rfl, rfl, upd_same⟩
theorem pmk_oex0 {X : Cx} {CX : CXT} {x : Str} {C fI : Addr} {k : Nat} {fd : FuncData} {ps : List Str} {sp : Sp} {ds : List Value} {dvs : List V} {p pos : Pos} (T : OexC X.K C) (iC : PySem.W.findIn X.K (.ref C) "__init__" = some (some (.ref fI))) (tI : PySem.W.typeIn X.K (.ref fI) = some (.type "function"))
    (F1 : FnOk X.prog X.w X.K X.mg X.base CX k fI fd ps sp) (hr : Room (k + 1) X.A) (hb : Binds X.K fd ps ds) (hd : Vals dvs ds) (hx : Passes CX X (fun _ _ _ => False)) (hg : Gl X x) (hm : X.mg x = some (.ref C))
    (hdb : (x == ("__debug__" : Str)) = false := by decide) :
    PMk X (.Call (.Name x p) [] [] pos) (tMkO C sp dvs tNil) := by
  intro pins s σ H1 Q I1 h
  obtain ⟨nm, q, N, bs, bm, sn, sub, ab, col, dd, k0, k1, k2, k3, k5, hC, hbm⟩ := T.cls
  refine wpAny_Call_Name_kw (ld_glob I1 hg hm ?_ hdb)
  refine PySem.W.callWith_K0 I1.kIn T.kC ?_
  show wpAny _ _ (call (.ref C) []) _ _ _
  obtain ⟨hz, q1⟩ := h
  obtain ⟨hp, g, dr, tk, os⟩ := s
  have hsz : hp.objs.size ≤ hp.objs.size + 1 := Nat.le_succ _
  have hn : H1 (hp.objs.size + 1) = none := I1.hok.fresh hsz
  have hq := q1 (hp.objs.size + 1) hn
  have kk : ∀ b o, hp.get? b = some o → ((hp.push (PySem.W.kdv_tup [])).push (PySem.HandSPX.excO C hp.objs.size)).get? b = some o := fun b o e => Heap.get?_push_of_some _ (Heap.get?_push_of_some _ e)
  have hget : ((hp.push (PySem.W.kdv_tup [])).push (PySem.HandSPX.excO C hp.objs.size)).get? (hp.objs.size + 1) = some (PySem.HandSPX.excO C hp.objs.size) := by heap_get
  have I2 : Inv X pins σ (upd H1 (hp.objs.size + 1) (exo (hp.objs.size + 1) C none)) ⟨(hp.push (PySem.W.kdv_tup [])).push (PySem.HandSPX.excO C hp.objs.size), g, dr, tk, os⟩ :=
    I1.laid (t' := tk) (a := hp.objs.size + 1) (o := exo (hp.objs.size + 1) C none) (h' := (hp.push (PySem.W.kdv_tup [])).push (PySem.HandSPX.excO C hp.objs.size)) kk hsz (exo_ok hget)
  have r2 : Vals (V.ref (hp.objs.size + 1) :: ([] ++ dvs)) (Value.ref (hp.objs.size + 1) :: ([] ++ ds)) := .cons rfl hd
  have hl : ([Value.ref (hp.objs.size + 1)] ++ ds).length = ps.length := by
    have e := r2.length
    rw [F1.len _ _ _ _ hq] at e
    exact e.symm
  refine wpAny_call (PySem.HandSPX.call_own (rest := []) F.excBase_ValueError (fun Y => PySem.HandSPX.refsVE_contains Y bm hbm) (I1.kIn _ _ hC) (PySem.W.looks_findIn I1.kIn iC) (fun self => PySem.W.bind_fn I1.kIn self tI) (Nat.zero_le _)
    (codeAny_mono (F1.run _ X.stack _ _ ⟨[Value.ref (hp.objs.size + 1)], []⟩ (Value.ref (hp.objs.size + 1) :: ds) _ _ (fun _ _ _ => False) (hr.make C [] []) (I2.env0.make C [] []) (hb _ [Value.ref (hp.objs.size + 1)] I2.kIn hl) r2 hq) fun r s' hq' => ?_))
  cases r with
  | error er => exact hx pins σ _ _ er s' I2 hq'
  | ok fl =>
    cases fl with
    | ret u =>
      obtain ⟨v, H2, os2, bare2, un2, hok2, rv, ev, d, fs, ea, ed, hd1, q2⟩ := hq'
      subst ev
      obtain ⟨h2, g2, d2, t2, os'⟩ := s'
      exact ⟨rv, mk_end (raises_own T.exC T.tyC) I1 hsz kk un2 hok2 os2 bare2 ea ed hd1 q2⟩
    | next => exact False.elim hq'
    | brk => exact False.elim hq'
    | cont => exact False.elim hq'
section
variable {X : Cx} {x : Str} {E : XK} {p pos pos' : Pos} {e : Expr} {t : TA}
theorem ps_err (F : OkE X.prog X.w X.K X.mg X.base x) (hr : Room 3 X.A) (hc : X.calm = true) (tk : Takes X (fun cls d _ H => E cls d H)) (ha : PA X [e] t) (hg : Gl X x := by rfl)
    (hdb : (x == ("__debug__" : Str)) = false := by decide) (he : starEach [e] X.env = (false, eval e X.env) :: starEach [] X.env := by rfl) (hpl : (backTo pos (starEach [] X.env)).any (·.1) = false := by rfl) :
    PS X (.Raise (some (.Call (.Name x p) [e] [] pos)) none pos') (tErr X.K x E [] t) := by
  obtain ⟨hm, EC, fd, F1, ⟨ds, hds, b1⟩, _⟩ := F
  exact ps_raise hc tk (pmk_oex EC.oex EC.ini EC.tin F1 hr b1 hds pass0 hg hm ha hdb he hpl)
theorem ps_err0 (F : OkE X.prog X.w X.K X.mg X.base x) (hr : Room 3 X.A) (hc : X.calm = true) (tk : Takes X (fun cls d _ H => E cls d H)) (hg : Gl X x := by rfl) (hdb : (x == ("__debug__" : Str)) = false := by decide) :
    PS X (.Raise (some (.Call (.Name x p) [] [] pos)) none pos') (tErr X.K x E [.non] tNil) := by
  obtain ⟨hm, EC, fd, F1, _, ⟨ds, hds, b1⟩⟩ := F
  exact ps_raise hc tk (pmk_oex0 EC.oex EC.ini EC.tin F1 hr b1 hds pass0 hg hm hdb)
end
end L2.Ta

set_option maxHeartbeats 4000000
/-! the mathematics: data, the writer, the parser; what is read is what is written -/
namespace L2.Ta
open PySem PySem.Spec PyProof.Rows L2 TL
/-! ### data -/
/-- a number in digits -/
def num (n : Nat) : Str := Str.ofString (toString (n : Int))
def eqT (x : Str) : Str := ("=" : Str) ++ x
/-- a line of a turn; a source -/
inductive Ln where
  | keep | clear | value (n : Str) | text (t : Str) | fresh (k : Nat)
def Ln.words : Ln → List Str
  | .keep => ["keep"]
  | .clear => ["clear"]
  | .value n => ["value", n]
  | .text t => ["text", eqT t]
  | .fresh k => ["fresh", num k]
def Ln.vals : Ln → List V
  | .keep => [.str "keep"]
  | .clear => [.str "clear"]
  | .value n => [.str "value", .str n]
  | .text t => [.str "text", .str t]
  | .fresh k => [.str "fresh", .int k]
inductive Cond where
  | always | never | mat (n p : Str) | same (a b : Str) | empty (n : Str) | not (c : Cond) | many (b : Bool) (ps : List Cond)
def bw : Bool → Str
  | true => "and"
  | false => "or"
mutual
def Cond.words : Cond → List Str
  | .always => ["always"]
  | .never => ["never"]
  | .mat n p => ["matches", n, eqT p]
  | .same a b => ["same", a, b]
  | .empty n => ["empty", n]
  | .not c => "not" :: c.words
  | .many b ps => bw b :: num ps.length :: wordsL ps
def wordsL : List Cond → List Str
  | [] => []
  | c :: r => c.words ++ wordsL r
end
mutual
def Cond.size : Cond → Nat
  | .not c => 1 + c.size
  | .many _ ps => 1 + sizeL ps
  | _ => 1
def sizeL : List Cond → Nat
  | [] => 0
  | c :: r => c.size + sizeL r
end
/-! nested at most so deep, the counts at most 20 -/
mutual
def Cond.fits : Nat → Cond → Prop
  | 0, _ => False
  | d + 1, .not c => c.fits d
  | d + 1, .many _ ps => ps.length ≤ 20 ∧ fitsL d ps
  | _ + 1, _ => True
def fitsL : Nat → List Cond → Prop
  | _, [] => True
  | d, c :: r => c.fits d ∧ fitsL d r
end
structure Rule where
  st : Option Str
  kind : Str
  cond : Cond
  word : Str
  srcs : List Ln
  turn : List Ln
  next : Str
def stW : Option Str → Str
  | none => "-"
  | some x => x
def lnsW : List Ln → List Str
  | [] => []
  | l :: r => l.words ++ lnsW r
def Rule.words (r : Rule) : List Str := ("rule" : Str) :: stW r.st :: r.kind :: (r.cond.words ++ (("answer" : Str) :: r.word :: num r.srcs.length :: (lnsW r.srcs ++ (("turn" : Str) :: (lnsW r.turn ++ [("next" : Str), r.next])))))
structure Svc where
  stations : List Str
  registers : List Str
  kinds : List (List Str)
  rules : List Rule
def Svc.lines (s : Svc) : List (List Str) := (("stations" : Str) :: s.stations) :: (("registers" : Str) :: s.registers) :: (s.kinds.map (fun k => ("request" : Str) :: k) ++ s.rules.map Rule.words)
/-! ### the parser: from the words that are left -/
abbrev Ps (α : Type) := List Str → Option (α × List Str)
def pbind {α β : Type} (m : Ps α) (f : α → Ps β) : Ps β := fun ws => match m ws with
  | none => none
  | some (a, r) => f a r
def pret {α : Type} (a : α) : Ps α := fun ws => some (a, ws)
def pfail {α : Type} : Ps α := fun _ => none
def ptake : Ps Str
  | [] => none
  | w :: r => some (w, r)
def pexp (x : Str) : Ps Unit := pbind ptake fun w => if w = x then pret () else pfail
def numOf (most : Nat) (w : Str) : Option Nat := (List.range (most + 1)).find? fun k => decide (w = num k)
def pnum (most : Nat) : Ps Nat := pbind ptake fun w => match numOf most w with
  | some k => pret k
  | none => pfail
def markOf (w : Str) : Option Str := if Txt.startswith w "=" = true then some (cutS w (some 1) none) else none
def pmark : Ps Str := pbind ptake fun w => match markOf w with
  | some t => pret t
  | none => pfail
def prep {α : Type} (m : Ps α) : Nat → Ps (List α)
  | 0 => pret []
  | n + 1 => pbind m fun a => pbind (prep m n) fun r => pret (a :: r)
def pcond : Nat → Ps Cond
  | 0 => pfail
  | d + 1 => pbind ptake fun w =>
    if w = "always" then pret .always
    else if w = "never" then pret .never
    else if w = "matches" then pbind ptake fun n => pbind pmark fun p => pret (.mat n p)
    else if w = "same" then pbind ptake fun a => pbind ptake fun b => pret (.same a b)
    else if w = "empty" then pbind ptake fun n => pret (.empty n)
    else if w = "and" then pbind (pnum 20) fun k => pbind (prep (pcond d) k) fun ps => pret (.many true ps)
    else if w = "or" then pbind (pnum 20) fun k => pbind (prep (pcond d) k) fun ps => pret (.many false ps)
    else if w = "not" then pbind (pcond d) fun c => pret (.not c)
    else pfail
def psrc (w : Str) : Ps Ln :=
  if w = "value" then pbind ptake fun n => pret (.value n)
  else if w = "text" then pbind pmark fun t => pret (.text t)
  else if w = "fresh" then pbind (pnum 2) fun k => pret (.fresh k)
  else pfail
def pline : Ps Ln := pbind ptake fun w => if w = "keep" then pret .keep else if w = "clear" then pret .clear else psrc w
def pst (w : Str) : Option Str := if w = "-" then none else some w
def prule (n : Nat) : Ps Rule :=
  pbind (pexp "rule") fun _ => pbind ptake fun st => pbind ptake fun kind => pbind (pcond 6) fun c => pbind (pexp "answer") fun _ => pbind ptake fun aw => pbind (pnum 4) fun k =>
  pbind (prep (pbind ptake psrc) k) fun ss => pbind (pexp "turn") fun _ => pbind (prep pline n) fun ls => pbind (pexp "next") fun _ => pbind ptake fun fo => fun r =>
    if r = [] then some (⟨pst st, kind, c, aw, ss, ls, fo⟩, []) else none
def pnames (x : Str) : List Str → Option (List Str)
  | [] => none
  | w :: r => if w = x then some r else none
def pkinds : List (List Str) → Option (List (List Str) × List (List Str))
  | [] => some ([], [])
  | l :: ls => if l.head? = some ("request" : Str) then (if l.tail = [] then none else match pkinds ls with
      | none => none
      | some (ks, r) => some (l.tail :: ks, r)) else some ([], l :: ls)
def prules (n : Nat) : List (List Str) → Option (List Rule)
  | [] => some []
  | l :: ls => match prule n l with
    | none => none
    | some (r, _) => match prules n ls with
      | none => none
      | some rs => some (r :: rs)
def psvc : List (List Str) → Option Svc
  | l0 :: l1 :: r => match pnames "stations" l0 with
    | none => none
    | some ss => match pnames "registers" l1 with
      | none => none
      | some rs => match pkinds r with
        | none => none
        | some (ks, r2) => match prules rs.length r2 with
          | none => none
          | some ru => some ⟨ss, rs, ks, ru⟩
  | _ => none
/-! ### texts -/
theorem str_ext {x y : Str} (h : tl x = tl y) : x = y := ext_tl h
theorem eqT_inj {x y : Str} (h : eqT x = eqT y) : x = y := by
  have e := congrArg tl h
  unfold eqT at e
  rw [tl_append, tl_append] at e
  exact ext_tl (List.append_cancel_left e)
theorem tl_eqs : tl ("=" : Str) = [61] := by decide +kernel
theorem num_inj {m n : Nat} (h : num m = num n) : m = n := by
  have e := congrArg tl h
  unfold num at e
  rw [tl_num, tl_num] at e
  exact numL_inj e
theorem numOf_some {most : Nat} {w : Str} {k : Nat} (h : numOf most w = some k) : w = num k ∧ k ≤ most := by
  unfold numOf at h
  have h1 := List.find?_some h
  have h2 := List.mem_of_find?_eq_some h
  exact ⟨of_decide_eq_true h1, Nat.le_of_lt_succ (List.mem_range.mp h2)⟩
theorem numOf_num {most k : Nat} (h : k ≤ most) : numOf most (num k) = some k := by
  cases e : numOf most (num k) with
  | none =>
    unfold numOf at e
    have z := List.find?_eq_none.mp e k (List.mem_range.mpr (Nat.lt_succ_of_le h))
    simp at z
  | some j =>
    have h1 := (numOf_some e).1
    rw [num_inj h1]
theorem sw_iff (x y : Str) : Txt.startswith x y = true ↔ ∃ z, tl x = tl y ++ z := by
  unfold Txt.startswith
  rw [PySem.StrLaws.subAt_eq, Bool.and_eq_true, decide_eq_true_eq, beq_iff_eq, List.drop_zero, len_tl, len_tl]
  constructor
  · rintro ⟨_, h⟩
    refine ⟨(tl x).drop (tl y).length, ?_⟩
    have e : (tl x).take (tl y).length ++ (tl x).drop (tl y).length = tl x := List.take_append_drop _ _
    have h2 : (tl x).take (tl y).length = tl y := h
    rw [h2] at e
    exact e.symm
  · rintro ⟨z, h⟩
    refine ⟨by rw [h, List.length_append]; omega, ?_⟩
    show (tl x).take (tl y).length = tl y
    rw [h, List.take_left']
    rfl
theorem cut1 (x : Str) : tl (cutS x (some 1) none) = (tl x).drop 1 := by
  unfold cutS
  have h1 : HT.sIx x.length 0 (some 1) = min 1 x.length := HT.sIx_nat _ _ 1
  rw [tl_mk, h1, HT.sIx_none, len_tl]
  show ((tl x).drop (min 1 (tl x).length)).take ((tl x).length - min 1 (tl x).length) = _
  cases tl x with
  | nil => rfl
  | cons a r =>
    have e : min 1 (a :: r).length = 1 := by simp
    rw [e]
    show r.take r.length = r
    exact List.take_length
theorem mark_some {w t : Str} (h : markOf w = some t) : w = eqT t := by
  unfold markOf at h
  split at h
  · rename_i q
    obtain ⟨z, e⟩ := (sw_iff _ _).mp q
    rw [tl_eqs] at e
    have h2 := Option.some.inj h
    refine ext_tl ?_
    unfold eqT
    rw [tl_append, ← h2, cut1, tl_eqs, e]
    rfl
  · cases h
theorem mark_eqT (t : Str) : markOf (eqT t) = some t := by
  have q : Txt.startswith (eqT t) "=" = true := (sw_iff _ _).mpr ⟨tl t, tl_append _ _⟩
  unfold markOf
  rw [if_pos q]
  refine congrArg some (ext_tl ?_)
  rw [cut1]
  unfold eqT
  rw [tl_append, tl_eqs]
  rfl
/-! ### what is read stands there -/
theorem take_some {ws r : List Str} {w : Str} (h : ptake ws = some (w, r)) : ws = w :: r := by
  cases ws with
  | nil => cases h
  | cons a t => cases h; rfl
theorem pbind_some {α β : Type} {m : Ps α} {f : α → Ps β} {ws r : List Str} {b : β} (h : pbind m f ws = some (b, r)) : ∃ a r1, m ws = some (a, r1) ∧ f a r1 = some (b, r) := by
  unfold pbind at h
  split at h
  · cases h
  · rename_i a r1 e
    exact ⟨a, r1, e, h⟩
theorem pret_some {α : Type} {a b : α} {ws r : List Str} (h : pret a ws = some (b, r)) : a = b ∧ ws = r := by
  cases h
  exact ⟨rfl, rfl⟩
theorem pfail_some {α : Type} {b : α} {ws r : List Str} (h : (pfail : Ps α) ws = some (b, r)) : False := by cases h
theorem exp_some {x : Str} {ws r : List Str} {u : Unit} (h : pexp x ws = some (u, r)) : ws = x :: r := by
  obtain ⟨w, r1, e, h⟩ := pbind_some h
  by_cases q : w = x
  · simp only [if_pos q] at h
    obtain ⟨_, rfl⟩ := pret_some h
    rw [take_some e, q]
  · simp only [if_neg q] at h
    exact (pfail_some h).elim
theorem num_some {m k : Nat} {ws r : List Str} (h : pnum m ws = some (k, r)) : ws = num k :: r ∧ k ≤ m := by
  obtain ⟨w, r1, e, h⟩ := pbind_some h
  cases q : numOf m w with
  | none => simp only [q] at h; exact (pfail_some h).elim
  | some j =>
    simp only [q] at h
    obtain ⟨rfl, rfl⟩ := pret_some h
    obtain ⟨q1, q2⟩ := numOf_some q
    rw [take_some e, q1]
    exact ⟨rfl, q2⟩
theorem pmark_some {t : Str} {ws r : List Str} (h : pmark ws = some (t, r)) : ws = eqT t :: r := by
  obtain ⟨w, r1, e, h⟩ := pbind_some h
  cases q : markOf w with
  | none => simp only [q] at h; exact (pfail_some h).elim
  | some j =>
    simp only [q] at h
    obtain ⟨rfl, rfl⟩ := pret_some h
    rw [take_some e, mark_some q]
theorem rep_some {α : Type} {m : Ps α} {f : α → List Str} {G : α → Prop} (hm : ∀ ws a r, m ws = some (a, r) → ws = f a ++ r ∧ G a) : ∀ (k : Nat) (ws r : List Str) (as : List α), prep m k ws = some (as, r) → ws = (as.map f).flatten ++ r ∧ as.length = k ∧ ∀ a ∈ as, G a
  | 0, ws, r, as, h => by
    obtain ⟨rfl, rfl⟩ := pret_some h
    exact ⟨rfl, rfl, fun _ z => nomatch z⟩
  | k + 1, ws, r, as, h => by
    obtain ⟨a, r1, e1, h⟩ := pbind_some h
    obtain ⟨as1, r2, e2, h⟩ := pbind_some h
    obtain ⟨rfl, rfl⟩ := pret_some h
    obtain ⟨h1, g1⟩ := hm _ _ _ e1
    obtain ⟨h2, h3, g2⟩ := rep_some hm k _ _ _ e2
    refine ⟨?_, by simp [h3], fun b hb => ?_⟩
    · rw [h1, h2]
      simp
    · rcases List.mem_cons.mp hb with rfl | hb
      · exact g1
      · exact g2 b hb
theorem wordsL_eq : ∀ ps : List Cond, wordsL ps = (ps.map Cond.words).flatten
  | [] => rfl
  | c :: r => by
    rw [wordsL, wordsL_eq r]
    simp
theorem fitsL_iff {d : Nat} : ∀ ps : List Cond, fitsL d ps ↔ ∀ c ∈ ps, c.fits d
  | [] => by simp [fitsL]
  | c :: r => by
    rw [fitsL, fitsL_iff r]
    simp
theorem lnsW_eq : ∀ ps : List Ln, lnsW ps = (ps.map Ln.words).flatten
  | [] => rfl
  | c :: r => by
    rw [lnsW, lnsW_eq r]
    simp
theorem cond_some : ∀ (d : Nat) (ws : List Str) (c : Cond) (r : List Str), pcond d ws = some (c, r) → ws = c.words ++ r ∧ c.fits d
  | 0, ws, c, r, h => (pfail_some h).elim
  | d + 1, ws, c, r, h => by
    rw [pcond] at h
    obtain ⟨w, r1, e, h⟩ := pbind_some h
    rw [take_some e]
    by_cases w1 : w = "always"
    · rw [if_pos w1] at h
      obtain ⟨rfl, rfl⟩ := pret_some h
      rw [w1]
      exact ⟨rfl, by simp [Cond.fits]⟩
    rw [if_neg w1] at h
    by_cases w2 : w = "never"
    · rw [if_pos w2] at h
      obtain ⟨rfl, rfl⟩ := pret_some h
      rw [w2]
      exact ⟨rfl, by simp [Cond.fits]⟩
    rw [if_neg w2] at h
    by_cases w3 : w = "matches"
    · rw [if_pos w3] at h
      obtain ⟨n, r2, e2, h⟩ := pbind_some h
      obtain ⟨t, r3, e3, h⟩ := pbind_some h
      obtain ⟨rfl, rfl⟩ := pret_some h
      rw [w3, take_some e2, pmark_some e3]
      exact ⟨rfl, by simp [Cond.fits]⟩
    rw [if_neg w3] at h
    by_cases w4 : w = "same"
    · rw [if_pos w4] at h
      obtain ⟨n, r2, e2, h⟩ := pbind_some h
      obtain ⟨t, r3, e3, h⟩ := pbind_some h
      obtain ⟨rfl, rfl⟩ := pret_some h
      rw [w4, take_some e2, take_some e3]
      exact ⟨rfl, by simp [Cond.fits]⟩
    rw [if_neg w4] at h
    by_cases w5 : w = "empty"
    · rw [if_pos w5] at h
      obtain ⟨n, r2, e2, h⟩ := pbind_some h
      obtain ⟨rfl, rfl⟩ := pret_some h
      rw [w5, take_some e2]
      exact ⟨rfl, by simp [Cond.fits]⟩
    rw [if_neg w5] at h
    have many : ∀ b : Bool, w = bw b → pbind (pnum 20) (fun k => pbind (prep (pcond d) k) fun ps => pret (.many b ps)) r1 = some (c, r) → w :: r1 = c.words ++ r ∧ c.fits (d + 1) := fun b hb h => by
      obtain ⟨k, r2, e2, h⟩ := pbind_some h
      obtain ⟨ps, r3, e3, h⟩ := pbind_some h
      obtain ⟨rfl, rfl⟩ := pret_some h
      obtain ⟨h1, h2⟩ := num_some e2
      obtain ⟨h3, h4, h5⟩ := rep_some (fun ws a r => cond_some d ws a r) k _ _ _ e3
      rw [hb, h1, h3]
      refine ⟨?_, ?_⟩
      · rw [Cond.words, wordsL_eq, h4]
        simp
      · rw [Cond.fits]
        exact ⟨by rw [h4]; exact h2, (fitsL_iff ps).mpr h5⟩
    by_cases w6 : w = "and"
    · rw [if_pos w6] at h
      exact many true w6 h
    rw [if_neg w6] at h
    by_cases w7 : w = "or"
    · rw [if_pos w7] at h
      exact many false w7 h
    rw [if_neg w7] at h
    by_cases w8 : w = "not"
    · rw [if_pos w8] at h
      obtain ⟨k, r2, e2, h⟩ := pbind_some h
      obtain ⟨rfl, rfl⟩ := pret_some h
      obtain ⟨h1, h2⟩ := cond_some d _ _ _ e2
      rw [w8, h1]
      exact ⟨rfl, by rw [Cond.fits]; exact h2⟩
    rw [if_neg w8] at h
    exact (pfail_some h).elim
/-- a source; a number at most 2 -/
def Ln.src : Ln → Prop
  | .keep => False
  | .clear => False
  | .fresh k => k ≤ 2
  | _ => True
def Ln.line : Ln → Prop
  | .fresh k => k ≤ 2
  | _ => True
theorem Ln.src_line : ∀ {l : Ln}, l.src → l.line
  | .keep, h => h.elim
  | .clear, h => h.elim
  | .fresh _, h => h
  | .value _, _ => trivial
  | .text _, _ => trivial
theorem src_some {w : Str} {ws r : List Str} {l : Ln} (h : psrc w ws = some (l, r)) : w :: ws = l.words ++ r ∧ l.src := by
  unfold psrc at h
  by_cases w1 : w = "value"
  · rw [if_pos w1] at h
    obtain ⟨n, r2, e2, h⟩ := pbind_some h
    obtain ⟨rfl, rfl⟩ := pret_some h
    rw [w1, take_some e2]
    exact ⟨rfl, trivial⟩
  rw [if_neg w1] at h
  by_cases w2 : w = "text"
  · rw [if_pos w2] at h
    obtain ⟨n, r2, e2, h⟩ := pbind_some h
    obtain ⟨rfl, rfl⟩ := pret_some h
    rw [w2, pmark_some e2]
    exact ⟨rfl, trivial⟩
  rw [if_neg w2] at h
  by_cases w3 : w = "fresh"
  · rw [if_pos w3] at h
    obtain ⟨n, r2, e2, h⟩ := pbind_some h
    obtain ⟨rfl, rfl⟩ := pret_some h
    obtain ⟨q1, q2⟩ := num_some e2
    rw [w3, q1]
    exact ⟨rfl, q2⟩
  rw [if_neg w3] at h
  exact (pfail_some h).elim
theorem line_some (ws : List Str) (l : Ln) (r : List Str) (h : pline ws = some (l, r)) : ws = l.words ++ r ∧ l.line := by
  obtain ⟨w, r1, e, h⟩ := pbind_some h
  rw [take_some e]
  by_cases w1 : w = "keep"
  · rw [if_pos w1] at h
    obtain ⟨rfl, rfl⟩ := pret_some h
    rw [w1]
    exact ⟨rfl, trivial⟩
  rw [if_neg w1] at h
  by_cases w2 : w = "clear"
  · rw [if_pos w2] at h
    obtain ⟨rfl, rfl⟩ := pret_some h
    rw [w2]
    exact ⟨rfl, trivial⟩
  rw [if_neg w2] at h
  obtain ⟨h1, h2⟩ := src_some h
  exact ⟨h1, Ln.src_line h2⟩
theorem tsrc_some (ws : List Str) (l : Ln) (r : List Str) (h : pbind ptake psrc ws = some (l, r)) : ws = l.words ++ r ∧ l.src := by
  obtain ⟨w, r1, e, h⟩ := pbind_some h
  rw [take_some e]
  exact src_some h
theorem stW_pst (w : Str) : stW (pst w) = w := by
  unfold pst
  by_cases h : w = "-"
  · rw [if_pos h, h]
    rfl
  · rw [if_neg h]
    rfl
/-- a rule as the parser makes it -/
structure Rule.fits (n : Nat) (r : Rule) : Prop where
  cond : r.cond.fits 6
  srcs : r.srcs.length ≤ 4
  src : ∀ l ∈ r.srcs, l.src
  turn : r.turn.length = n
  line : ∀ l ∈ r.turn, l.line
  st : r.st ≠ some ("-" : Str)
theorem rule_some {n : Nat} {ws r : List Str} {R : Rule} (h : prule n ws = some (R, r)) : ws = R.words ∧ r = [] ∧ R.fits n := by
  unfold prule at h
  obtain ⟨u, r1, e1, h⟩ := pbind_some h
  obtain ⟨st, r2, e2, h⟩ := pbind_some h
  obtain ⟨kind, r3, e3, h⟩ := pbind_some h
  obtain ⟨c, r4, e4, h⟩ := pbind_some h
  obtain ⟨u5, r5, e5, h⟩ := pbind_some h
  obtain ⟨aw, r6, e6, h⟩ := pbind_some h
  obtain ⟨k, r7, e7, h⟩ := pbind_some h
  obtain ⟨ss, r8, e8, h⟩ := pbind_some h
  obtain ⟨u9, r9, e9, h⟩ := pbind_some h
  obtain ⟨ls, r10, e10, h⟩ := pbind_some h
  obtain ⟨u11, r11, e11, h⟩ := pbind_some h
  obtain ⟨fo, r12, e12, h⟩ := pbind_some h
  by_cases q : r12 = []
  · simp only [if_pos q] at h
    cases h
    obtain ⟨c1, c2⟩ := cond_some _ _ _ _ e4
    obtain ⟨k1, k2⟩ := num_some e7
    obtain ⟨s1, s2, s3⟩ := rep_some tsrc_some _ _ _ _ e8
    obtain ⟨l1, l2, l3⟩ := rep_some line_some _ _ _ _ e10
    refine ⟨?_, rfl, ⟨c2, by rw [s2]; exact k2, s3, l2, l3, ?_⟩⟩
    · rw [exp_some e1, take_some e2, take_some e3, c1, exp_some e5, take_some e6, k1, s1, exp_some e9, l1, exp_some e11, take_some e12, q]
      unfold Rule.words
      rw [stW_pst, lnsW_eq, lnsW_eq, s2]
      first | done | rfl | simp
    · intro z
      have z2 := congrArg stW z
      rw [stW_pst] at z2
      have z3 : st = "-" := z2
      rw [z3] at z
      cases z
  · simp only [if_neg q] at h
    cases h
theorem names_some {x : Str} {l r : List Str} (h : pnames x l = some r) : l = x :: r := by
  cases l with
  | nil => cases h
  | cons w t =>
    have h' : (if w = x then some t else none) = some r := h
    by_cases q : w = x
    · rw [if_pos q] at h'
      cases h'
      rw [q]
    · rw [if_neg q] at h'
      cases h'
theorem kinds_some : ∀ {ls r : List (List Str)} {ks : List (List Str)}, pkinds ls = some (ks, r) → ls = ks.map (fun k => ("request" : Str) :: k) ++ r ∧ (∀ k ∈ ks, k ≠ []) ∧ (∀ l t, r = l :: t → l.head? ≠ some ("request" : Str))
  | [], r, ks, h => by
    cases h
    exact ⟨rfl, (fun _ z => nomatch z), (fun _ _ z => nomatch z)⟩
  | l :: ls, r, ks, h => by
    rw [pkinds] at h
    by_cases q : l.head? = some ("request" : Str)
    · rw [if_pos q] at h
      by_cases q2 : l.tail = []
      · rw [if_pos q2] at h
        cases h
      · rw [if_neg q2] at h
        cases e : pkinds ls with
        | none => rw [e] at h; cases h
        | some p =>
          obtain ⟨ks1, r1⟩ := p
          rw [e] at h
          cases h
          obtain ⟨h1, h2, h3⟩ := kinds_some e
          refine ⟨?_, fun k hk => ?_, h3⟩
          · cases l with
            | nil => cases q
            | cons a t =>
              have ea : a = "request" := Option.some.inj q
              rw [ea, h1]
              simp
          · rcases List.mem_cons.mp hk with rfl | hk
            · exact q2
            · exact h2 k hk
    · rw [if_neg q] at h
      cases h
      exact ⟨rfl, (fun _ z => nomatch z), (fun a b z => by cases z; exact q)⟩
theorem rules_some {n : Nat} : ∀ {ls : List (List Str)} {rs : List Rule}, prules n ls = some rs → ls = rs.map Rule.words ∧ ∀ r ∈ rs, r.fits n
  | [], rs, h => by
    cases h
    exact ⟨rfl, fun _ z => nomatch z⟩
  | l :: ls, rs, h => by
    rw [prules] at h
    cases e : prule n l with
    | none => rw [e] at h; cases h
    | some p =>
      obtain ⟨R, r⟩ := p
      rw [e] at h
      cases e2 : prules n ls with
      | none => rw [e2] at h; cases h
      | some rs1 =>
        rw [e2] at h
        cases h
        obtain ⟨h1, _, h2⟩ := rule_some e
        obtain ⟨h3, h4⟩ := rules_some e2
        refine ⟨by rw [h1, h3]; rfl, fun k hk => ?_⟩
        rcases List.mem_cons.mp hk with rfl | hk
        · exact h2
        · exact h4 k hk
/-- a service as the parser makes it -/
structure Svc.fits (s : Svc) : Prop where
  kinds : ∀ k ∈ s.kinds, k ≠ []
  rules : ∀ r ∈ s.rules, r.fits s.registers.length
/-- WHAT IS READ IS WRITTEN SO -/
theorem svc_some {ls : List (List Str)} {s : Svc} (h : psvc ls = some s) : ls = s.lines ∧ s.fits := by
  match ls, h with
  | l0 :: l1 :: r, h =>
    unfold psvc at h
    cases e0 : pnames "stations" l0 with
    | none => simp only [e0] at h; cases h
    | some ss =>
      cases e1 : pnames "registers" l1 with
      | none => simp only [e0, e1] at h; cases h
      | some rs =>
        cases e2 : pkinds r with
        | none => simp only [e0, e1, e2] at h; cases h
        | some p =>
          obtain ⟨ks, r2⟩ := p
          cases e3 : prules rs.length r2 with
          | none => simp only [e0, e1, e2, e3] at h; cases h
          | some ru =>
            simp only [e0, e1, e2, e3] at h
            cases h
            obtain ⟨k1, k2, _⟩ := kinds_some e2
            obtain ⟨r1', r2'⟩ := rules_some e3
            refine ⟨?_, k2, r2'⟩
            rw [names_some e0, names_some e1, k1, r1']
            rfl
/-! ### what is written is read -/
theorem rep_ok {α : Type} {m : Ps α} {f : α → List Str} : ∀ (as : List α) (r : List Str), (∀ a ∈ as, ∀ r, m (f a ++ r) = some (a, r)) → prep m as.length ((as.map f).flatten ++ r) = some (as, r)
  | [], r, _ => rfl
  | a :: as, r, h => by
    show pbind m (fun a => pbind (prep m as.length) fun r => pret (a :: r)) _ = _
    unfold pbind
    have e : ((a :: as).map f).flatten ++ r = f a ++ ((as.map f).flatten ++ r) := by simp
    rw [e, h a List.mem_cons_self]
    dsimp only
    rw [rep_ok as r fun b hb => h b (List.mem_cons_of_mem _ hb)]
    rfl
theorem pnum_ok {m k : Nat} (r : List Str) (h : k ≤ m) : pnum m (num k :: r) = some (k, r) := by
  show (match numOf m (num k) with | some k => pret k | none => pfail) r = _
  rw [numOf_num h]
  rfl
theorem pmark_ok (t : Str) (r : List Str) : pmark (eqT t :: r) = some (t, r) := by
  show (match markOf (eqT t) with | some t => pret t | none => pfail) r = _
  rw [mark_eqT]
  rfl
theorem cond_ok : ∀ (d : Nat) (c : Cond) (r : List Str), c.fits d → pcond d (c.words ++ r) = some (c, r)
  | 0, c, r, h => by simp [Cond.fits] at h
  | d + 1, .always, r, _ => by rw [pcond]; rfl
  | d + 1, .never, r, _ => by rw [pcond]; rfl
  | d + 1, .mat n p, r, _ => by
    rw [pcond]
    show (pbind ptake fun n => pbind pmark fun p => pret (Cond.mat n p)) (n :: eqT p :: r) = _
    show (pbind pmark fun p => pret (Cond.mat n p)) (eqT p :: r) = _
    unfold pbind
    rw [pmark_ok]
    rfl
  | d + 1, .same a b, r, _ => by rw [pcond]; rfl
  | d + 1, .empty a, r, _ => by rw [pcond]; rfl
  | d + 1, .not c, r, h => by
    rw [pcond]
    show (pbind (pcond d) fun c => pret (Cond.not c)) (c.words ++ r) = _
    unfold pbind
    rw [Cond.fits] at h
    rw [cond_ok d c r h]
    rfl
  | d + 1, .many b ps, r, h => by
    rw [Cond.fits] at h
    have hp : ∀ c ∈ ps, ∀ r, pcond d (c.words ++ r) = some (c, r) := fun c hc r => cond_ok d c r ((fitsL_iff ps).mp h.2 c hc)
    have z : (pbind (pnum 20) fun k => pbind (prep (pcond d) k) fun ps => pret (Cond.many b ps)) (num ps.length :: (wordsL ps ++ r)) = some (.many b ps, r) := by
      unfold pbind
      rw [pnum_ok _ h.1]
      dsimp only
      rw [wordsL_eq, rep_ok ps r hp]
      rfl
    rw [pcond, Cond.words]
    cases b with
    | true => exact z
    | false => exact z
theorem src_ok {l : Ln} (r : List Str) (h : l.src) : pbind ptake psrc (l.words ++ r) = some (l, r) := by
  cases l with
  | keep => exact h.elim
  | clear => exact h.elim
  | value n => rfl
  | text t =>
    show pbind pmark (fun t => pret (Ln.text t)) (eqT t :: r) = _
    unfold pbind
    rw [pmark_ok]
    rfl
  | fresh k =>
    show pbind (pnum 2) (fun t => pret (Ln.fresh t)) (num k :: r) = _
    unfold pbind
    rw [pnum_ok _ h]
    rfl
theorem line_ok {l : Ln} (r : List Str) (h : l.line) : pline (l.words ++ r) = some (l, r) := by
  cases l with
  | keep => rfl
  | clear => rfl
  | value n => rfl
  | text t =>
    show pbind pmark (fun t => pret (Ln.text t)) (eqT t :: r) = _
    unfold pbind
    rw [pmark_ok]
    rfl
  | fresh k =>
    show pbind (pnum 2) (fun t => pret (Ln.fresh t)) (num k :: r) = _
    unfold pbind
    rw [pnum_ok _ h]
    rfl
theorem pst_stW {o : Option Str} (h : o ≠ some ("-" : Str)) : pst (stW o) = o := by
  cases o with
  | none => rfl
  | some x =>
    show (if x = "-" then none else some x) = some x
    rw [if_neg]
    rintro rfl
    exact h rfl
theorem pbind_ok {α β : Type} {m : Ps α} {f : α → Ps β} {ws r : List Str} {a : α} (h : m ws = some (a, r)) : pbind m f ws = f a r := by
  unfold pbind
  rw [h]
theorem pexp_ok (x : Str) (r : List Str) : pexp x (x :: r) = some ((), r) := by
  show (if x = x then pret () else pfail) r = _
  rw [if_pos rfl]
  rfl
theorem ptake_ok (x : Str) (r : List Str) : ptake (x :: r) = some (x, r) := rfl
theorem rule_ok {n : Nat} {R : Rule} (h : R.fits n) : prule n R.words = some (R, []) := by
  unfold prule Rule.words
  refine (pbind_ok (pexp_ok _ _)).trans ?_
  refine (pbind_ok (ptake_ok _ _)).trans ?_
  refine (pbind_ok (ptake_ok _ _)).trans ?_
  refine (pbind_ok (cond_ok 6 R.cond _ h.cond)).trans ?_
  refine (pbind_ok (pexp_ok _ _)).trans ?_
  refine (pbind_ok (ptake_ok _ _)).trans ?_
  refine (pbind_ok (pnum_ok _ h.srcs)).trans ?_
  rw [lnsW_eq R.srcs]
  refine (pbind_ok (rep_ok R.srcs _ fun l hl r => src_ok r (h.src l hl))).trans ?_
  refine (pbind_ok (pexp_ok _ _)).trans ?_
  rw [← h.turn, lnsW_eq R.turn]
  refine (pbind_ok (rep_ok R.turn _ fun l hl r => line_ok r (h.line l hl))).trans ?_
  refine (pbind_ok (pexp_ok _ _)).trans ?_
  refine (pbind_ok (ptake_ok _ _)).trans ?_
  rw [if_pos rfl, pst_stW h.st]
theorem kinds_ok : ∀ (ks : List (List Str)) (r : List (List Str)), (∀ k ∈ ks, k ≠ []) → (∀ l t, r = l :: t → l.head? ≠ some ("request" : Str)) → pkinds (ks.map (fun k => ("request" : Str) :: k) ++ r) = some (ks, r)
  | [], r, _, h => by
    cases r with
    | nil => rfl
    | cons l t =>
      show (if l.head? = some ("request" : Str) then _ else _) = _
      rw [if_neg (h l t rfl)]
  | k :: ks, r, hk, h => by
    show (if (some ("request" : Str)) = some ("request" : Str) then (if k = [] then none else _) else _) = _
    rw [if_pos rfl, if_neg (hk k List.mem_cons_self)]
    have e := kinds_ok ks r (fun k hk' => hk k (List.mem_cons_of_mem _ hk')) h
    show (match pkinds (ks.map (fun k => ("request" : Str) :: k) ++ r) with | none => none | some (ks, r) => some (k :: ks, r)) = _
    rw [e]
theorem rules_ok {n : Nat} : ∀ (rs : List Rule), (∀ r ∈ rs, r.fits n) → prules n (rs.map Rule.words) = some rs
  | [], _ => rfl
  | R :: rs, h => by
    show (match prule n R.words with | none => none | some (r, _) => match prules n (rs.map Rule.words) with | none => none | some rs => some (r :: rs)) = _
    rw [rule_ok (h R List.mem_cons_self)]
    dsimp only
    rw [rules_ok rs fun r hr => h r (List.mem_cons_of_mem _ hr)]
/-- WHAT IS WRITTEN IS READ -/
theorem svc_ok {s : Svc} (h : s.fits) : psvc s.lines = some s := by
  unfold psvc Svc.lines
  dsimp only
  have e0 : ∀ (x : Str) (l : List Str), pnames x (x :: l) = some l := fun x l => by
    show (if x = x then some l else none) = _
    rw [if_pos rfl]
  rw [e0]
  dsimp only
  rw [e0]
  dsimp only
  rw [kinds_ok s.kinds _ h.kinds fun l t e => ?_]
  · dsimp only
    rw [rules_ok s.rules h.rules]
  · cases hr : s.rules with
    | nil => rw [hr] at e; cases e
    | cons R rs =>
      rw [hr] at e
      have e2 := (List.cons.inj e).1
      rw [← e2]
      show some ("rule" : Str) ≠ some ("request" : Str)
      decide +kernel
end L2.Ta

set_option maxHeartbeats 4000000
/-! the reader's class Words -/
namespace L2.Ta
open PySem PySem.Spec PyProof.Rows L2 TL
/-! ### a method of the text and its promise -/
def OkM (P : Program) (w : World) (K : PySem.W.Frag) (mg : Str → Option Value) (base : Heap) (CX : CXT) (k : Nat) (C m : Str) (ps : List Str) (sp : Sp) : Prop :=
  ∃ fd, Meth K (He.ga K C) m (He.ma K (He.ga K C) m) ∧ Cls K (He.ga K C) ∧ Binds K fd ps [] ∧ FnOk P w K mg base CX k (He.ma K (He.ga K C) m) fd ps sp
theorem OkM.mono {P : Program} {w : World} {K : PySem.W.Frag} {mg : Str → Option Value} {base : Heap} {CX : CXT} {j k : Nat} {C m : Str} {ps : List Str} {sp : Sp} (F : OkM P w K mg base CX j C m ps sp) (h : j ≤ k) : OkM P w K mg base CX k C m ps sp := by
  obtain ⟨fd, a, b, c, d⟩ := F
  exact ⟨fd, a, b, c, d.mono h⟩
theorem okm_of {P : Program} {w : World} {K : PySem.W.Frag} {mg : Str → Option Value} {base : Heap} {CX : CXT} {k : Nat} {C m qual : Str} {st : Stmt} {N ps : List Str} {sp : Sp} (hm : Meth K (He.ga K C) m (He.ma K (He.ga K C) m)) (hc : Cls K (He.ga K C)) (hd : ∃ fd, FunT K m qual st [] (maf C m K) fd) (S : FnScope N ps (defScope st))
    (len : ∀ vs H Q E, sp vs H Q E → vs.length = ps.length)
    (hb : ∀ (kV doc pm : Value) (an : Option Addr) (cdv ct : Value) (us : List Value), us.length = ps.length → bindArgs (PySem.W.fnOf m qual (defArgs st) (defBody st) (defScope st) .none kV doc pm an cdv ct) ⟨us, []⟩ = pure (ps.zip us))
    (hbody : ∀ (cdv : Value) (A : Around) (outer : List Env) (s : Shared) (H : Hp) (vs : List V) (Q : VK) (E : XK), Room k (A.deeper (envOfC qual (defScope st) s.heap.objs.size (He.ma K (He.ga K C) m) cdv)) → sp vs H Q E →
      ∃ t, PSs (cxOf CX P w K mg base N qual (defScope st) (He.ma K (He.ga K C) m) cdv A outer s H E) (defBody st) t ∧ t { nx := fun _ H' => Q .non H', rt := Q } (start N vs) H) : OkM P w K mg base CX (k + 1) C m ps sp := by
  obtain ⟨fd, F⟩ := hd
  exact ⟨fd, hm, hc, F.bindsN hb, F.ok S len hbody⟩
section
variable {X : Cx} {CX : CXT} {k : Nat} {C m : Str} {ps : List Str} {sp : Sp} {E : XK} {apos pos : Pos} {o e : Expr} {es : List Expr} {ta : TE} {t : TA} {pl : Sem Bool}
theorem pe_m (F : OkM X.prog X.w X.K X.mg X.base CX k C m ps sp) (he : PE X o ta) (hr : Room k X.A) (hx : Passes CX X E) (ha : PA X (e :: es) t)
    (hst : starEach (e :: es) X.env = (false, eval e X.env) :: starEach es X.env := by rfl) (hpl : (backTo pos (starEach es X.env)).any (·.1) = false := by rfl)
    (ht : eval (.Call (.Attribute o m apos) (e :: es) [] pos) X.env = (do
      let ov ← eval o X.env
      standAt apos.atName
      let (f, first) ← holding [ov] (getMethod ov m pl)
      callWith pos f first (backTo pos (starEach (e :: es) X.env)) (backToKw pos (keywordEach [] X.env))) := by rfl) :
    PE X (.Call (.Attribute o m apos) (e :: es) [] pos) (tMeth (He.ga X.K C) m sp [] E ta t) := by
  obtain ⟨fd, hm, hc, hb, F⟩ := F
  exact pe_meth he hc hm F hr hb .nil hx ha hst hpl ht
theorem pe_m0 (F : OkM X.prog X.w X.K X.mg X.base CX k C m ps sp) (he : PE X o ta) (hr : Room k X.A) (hx : Passes CX X E)
    (ht : eval (.Call (.Attribute o m apos) [] [] pos) X.env = (do
      let ov ← eval o X.env
      standAt apos.atName
      let (f, first) ← holding [ov] (getMethod ov m pl)
      callWith pos f first (backTo pos (starEach [] X.env)) (backToKw pos (keywordEach [] X.env))) := by rfl) :
    PE X (.Call (.Attribute o m apos) [] [] pos) (tMeth (He.ga X.K C) m sp [] E ta tNil) := by
  obtain ⟨fd, hm, hc, hb, F⟩ := F
  exact pe_meth0 he hc hm F hr hb .nil hx ht
end
theorem itT {b : Bool} {A B : Prop} (h : b = true) (a : A) : if b = true then A else B := by
  rw [if_pos h]
  exact a
theorem itF {b : Bool} {A B : Prop} (h : b = false) (a : B) : if b = true then A else B := by
  rw [if_neg (by rw [h]; decide)]
  exact a
/-! ### a class that is made -/
def OkI (P : Program) (w : World) (K : PySem.W.Frag) (mg : Str → Option Value) (base : Heap) (CX : CXT) (k : Nat) (C : Str) (ps : List Str) (sp : Sp) : Prop :=
  ∃ fd, Mk K (He.ga K C) (He.ma K (He.ga K C) "__init__") ∧ mg C = some (.ref (He.ga K C)) ∧ Binds K fd ps [] ∧ FnOk P w K mg base CX k (He.ma K (He.ga K C) "__init__") fd ps sp
theorem oki_of {P : Program} {w : World} {K : PySem.W.Frag} {mg : Str → Option Value} {base : Heap} {CX : CXT} {k : Nat} {C qual : Str} {st : Stmt} {N ps : List Str} {sp : Sp} (hm : Mk K (He.ga K C) (He.ma K (He.ga K C) "__init__")) (hg : mg C = some (.ref (He.ga K C))) (hd : ∃ fd, FunT K "__init__" qual st [] (maf C "__init__" K) fd) (S : FnScope N ps (defScope st))
    (len : ∀ vs H Q E, sp vs H Q E → vs.length = ps.length)
    (hb : ∀ (kV doc pm : Value) (an : Option Addr) (cdv ct : Value) (us : List Value), us.length = ps.length → bindArgs (PySem.W.fnOf "__init__" qual (defArgs st) (defBody st) (defScope st) .none kV doc pm an cdv ct) ⟨us, []⟩ = pure (ps.zip us))
    (hbody : ∀ (cdv : Value) (A : Around) (outer : List Env) (s : Shared) (H : Hp) (vs : List V) (Q : VK) (E : XK), Room k (A.deeper (envOfC qual (defScope st) s.heap.objs.size (He.ma K (He.ga K C) "__init__") cdv)) → sp vs H Q E →
      ∃ t, PSs (cxOf CX P w K mg base N qual (defScope st) (He.ma K (He.ga K C) "__init__") cdv A outer s H E) (defBody st) t ∧ t { nx := fun _ H' => Q .non H', rt := Q } (start N vs) H) : OkI P w K mg base CX (k + 1) C ps sp := by
  obtain ⟨fd, F⟩ := hd
  exact ⟨fd, hm, hg, F.bindsN hb, F.ok S len hbody⟩
section
variable {X : Cx} {CX : CXT} {k : Nat} {C : Str} {ps : List Str} {sp : Sp} {E : XK} {p pos : Pos} {e : Expr} {es : List Expr} {t : TA}
theorem pe_mk (F : OkI X.prog X.w X.K X.mg X.base CX k C ps sp) (hr : Room (k + 1) X.A) (hx : Passes CX X E) (ha : PA X (e :: es) t) (hg : Gl X C := by rfl)
    (hdb : (C == ("__debug__" : Str)) = false := by decide) (he : starEach (e :: es) X.env = (false, eval e X.env) :: starEach es X.env := by rfl) (hpl : (backTo pos (starEach es X.env)).any (·.1) = false := by rfl) :
    PE X (.Call (.Name C p) (e :: es) [] pos) (tMake (He.ga X.K C) sp [] E t) := by
  obtain ⟨fd, hm, hmg, hb, F⟩ := F
  exact pe_make hm F hr hg hmg hb .nil hx ha hdb he hpl
end
/-! ### texts split and joined -/
theorem pre1 (s c : Nat) (r : List Nat) : pre [s] (c :: r) = (c == s) := by
  unfold pre
  show ([c] == [s]) = _
  cases h : c == s with
  | true => rw [beq_iff_eq.mp h]; simp
  | false =>
    have h2 : c ≠ s := fun z => by rw [z] at h; simp at h
    simp [h2]
theorem spl_ne (s : Nat) : ∀ (l acc : List Nat), spl [s] 0 acc l ≠ []
  | [], acc => by rw [spl_nil]; simp
  | c :: r, acc => by
    by_cases h : c = s
    · rw [spl_hit (by rw [pre1, h]; simp)]
      simp
    · rw [spl_miss (by rw [pre1]; simpa using h)]
      exact spl_ne s r _
theorem join_spl (s : Nat) : ∀ (l acc : List Nat), joinL [s] (spl [s] 0 acc l) = acc ++ l
  | [], acc => by rw [spl_nil]; simp [joinL]
  | c :: r, acc => by
    by_cases h : c = s
    · rw [spl_hit (by rw [pre1, h]; simp)]
      have ih := join_spl s r []
      have ne := spl_ne s r []
      show joinL [s] (acc :: spl [s] 0 [] r) = _
      cases e : spl [s] 0 [] r with
      | nil => exact absurd e ne
      | cons q t =>
        rw [e] at ih
        show acc ++ ([s] ++ joinL [s] (q :: t)) = _
        rw [ih, h]
        simp
    · rw [spl_miss (by rw [pre1]; simpa using h), join_spl s r]
      simp
def spc : Str := " "
def nln : Str := "\n"
theorem tl_spc : tl spc = [32] := by decide +kernel
theorem tl_nln : tl nln = [10] := by decide +kernel
theorem join_split {x y : Str} {s : Nat} (ey : tl y = [s]) (hk : y.cps.all (· < 256) = true) : Txt.join y (Txt.split x y) = x := by
  refine ext_tl ?_
  rw [join_eq, tl_join, split_spl x y (by rw [ey]; simp) (kind_ok hk), ey, join_spl]
  rfl
theorem split_ne {x y : Str} {s : Nat} (ey : tl y = [s]) (hk : y.cps.all (· < 256) = true) : Txt.split x y ≠ [] := by
  intro h
  have z := split_spl x y (by rw [ey]; simp) (kind_ok hk)
  rw [h, ey] at z
  exact spl_ne s _ _ z.symm
theorem joinL_len (S : List Nat) : ∀ (ps : List (List Nat)) (p : List Nat), p ∈ ps → p.length ≤ (joinL S ps).length
  | [q], p, h => by
    rw [List.mem_singleton.mp h]
    exact Nat.le_refl _
  | q :: q2 :: r, p, h => by
    show _ ≤ (q ++ (S ++ joinL S (q2 :: r))).length
    rcases List.mem_cons.mp h with rfl | h
    · simp
    · have z := joinL_len S (q2 :: r) p h
      simp only [List.length_append]
      omega
theorem split_len {x y : Str} {s : Nat} (ey : tl y = [s]) (hk : y.cps.all (· < 256) = true) {w : Str} (h : w ∈ Txt.split x y) : w.length ≤ x.length := by
  have z := joinL_len (tl y) ((Txt.split x y).map tl) (tl w) (List.mem_map_of_mem h)
  rw [← tl_join, ← join_eq, join_split ey hk] at z
  rw [len_tl, len_tl]
  exact z
theorem joinL_cnt (s : Nat) : ∀ (ps : List (List Nat)), ps.length ≤ (joinL [s] ps).length + 1
  | [] => Nat.zero_le _
  | [q] => by simp
  | q :: q2 :: r => by
    have z := joinL_cnt s (q2 :: r)
    show _ ≤ (q ++ ([s] ++ joinL [s] (q2 :: r))).length + 1
    simp only [List.length_append, List.length_cons, List.length_nil] at *
    omega
theorem split_cnt {x y : Str} {s : Nat} (ey : tl y = [s]) (hk : y.cps.all (· < 256) = true) : (Txt.split x y).length ≤ x.length + 1 := by
  have z := joinL_cnt s ((Txt.split x y).map tl)
  rw [← ey, ← tl_join, ← join_eq, join_split ey hk, List.length_map] at z
  rw [len_tl]
  exact z
theorem spc_ok : spc.cps.all (· < 256) = true := by decide +kernel
theorem nln_ok : nln.cps.all (· < 256) = true := by decide +kernel
/-! ### the state of a reader -/
def wFs (l : Addr) (pl : V) (pos : Nat) : List (Str × V) := [("words", .ref l), ("place", pl), ("at", .int pos)]
/-- a reader: its address, its dict, its list of words, its place -/
structure Rdr where
  a : Addr
  dx : Addr
  l : Addr
  pl : V
  ws : List Str
/-- the reader with these words left -/
def WRem (K : PySem.W.Frag) (H : Hp) (a : Rdr) (rem : List Str) : Prop := ∃ pos : Nat, H a.a = some (.ins (He.ga K "Words") a.dx (wFs a.l a.pl pos)) ∧ H a.l = some (.lst (a.ws.map V.str)) ∧ a.ws.drop pos = rem ∧ pos ≤ a.ws.length ∧ ∀ w ∈ a.ws, w.length ≤ sizeLine
/-- what a reading step owes: its words are missing, or they are taken -/
def Out {α : Type} (K : PySem.W.Frag) (a : Rdr) (H : Hp) (E : XK) (res : Option (α × List Str)) (G : α → List Str → Hp → Prop) : Prop := match res with
  | none => RE K H E
  | some (x, r) => ∀ H', KeepW H H' → WRem K H' a r → G x r H'
section
variable {α β : Type} {K : PySem.W.Frag} {a : Rdr} {H H1 : Hp} {E : XK}
theorem Out.imp {res : Option (α × List Str)} {G G' : α → List Str → Hp → Prop} (h : Out K a H E res G) (f : ∀ x r H', res = some (x, r) → KeepW H H' → WRem K H' a r → G x r H' → G' x r H') : Out K a H E res G' := by
  cases res with
  | none => exact h
  | some p => exact fun H' k w => f p.1 p.2 H' rfl k w (h H' k w)
theorem Out.keep {res : Option (α × List Str)} {G : α → List Str → Hp → Prop} (h : Out K a H E res G) (k : KeepW H H1) : Out K a H1 E res G := by
  cases res with
  | none => exact RE.mono h k
  | some p => exact fun H' k' w => h H' (k.trans k') w
theorem Out.bind {m : Ps α} {f : α → Ps β} {rem : List Str} {G : β → List Str → Hp → Prop} (h : Out K a H E (pbind m f rem) G) : Out K a H E (m rem) fun x r H' => Out K a H' E (f x r) G := by
  unfold pbind at h
  cases e : m rem with
  | none => rw [e] at h; exact h
  | some p =>
    rw [e] at h
    exact fun H' k w => h.keep k
theorem Out.fail {m : List Str} {G : α → List Str → Hp → Prop} (h : Out K a H E ((pfail : Ps α) m) G) : RE K H E := h
theorem Out.ret {x : α} {rem : List Str} {G : α → List Str → Hp → Prop} (h : Out K a H E (pret x rem) G) (w : WRem K H a rem) : G x rem H := h H (KeepW.refl H) w
end
/-! ### promises -/
def spTake (K : PySem.W.Frag) : Sp := fun vs H Q E => ∃ (a : Rdr) (rem : List Str), vs = [.ref a.a] ∧ WRem K H a rem ∧ Out K a H E (ptake rem) fun w _ H' => Q (.str w) H'
def spExp (K : PySem.W.Frag) : Sp := fun vs H Q E => ∃ (a : Rdr) (rem : List Str) (x : Str), vs = [.ref a.a, .str x] ∧ WRem K H a rem ∧ Out K a H E (pexp x rem) fun _ _ H' => Q .non H'
def spNum (K : PySem.W.Frag) : Sp := fun vs H Q E => ∃ (a : Rdr) (rem : List Str) (m : Nat), vs = [.ref a.a, .int m] ∧ m ≤ 1000 ∧ WRem K H a rem ∧ Out K a H E (pnum m rem) fun (k : Nat) _ H' => Q (.int k) H'
def spMark (K : PySem.W.Frag) : Sp := fun vs H Q E => ∃ (a : Rdr) (rem : List Str), vs = [.ref a.a] ∧ WRem K H a rem ∧ Out K a H E (pmark rem) fun t _ H' => Q (.str t) H'
def spRest (K : PySem.W.Frag) : Sp := fun vs H Q _ => ∃ (a : Rdr) (rem : List Str), vs = [.ref a.a] ∧ WRem K H a rem ∧ ∀ p H', KeepW H H' → H p = none → H' p = some (.lst (rem.map V.str)) → WRem K H' a [] → Q (.ref p) H'
def spWInit (K : PySem.W.Frag) : Sp := fun vs H Q _ => ∃ (a dx : Addr) (line : Str) (pl : V), vs = [.ref a, .str line, pl] ∧ H a = some (.ins (He.ga K "Words") dx []) ∧ line.length + 2 ≤ sizeLine ∧ ∀ (H' : Hp) (r : Rdr), r.a = a → KeepW H H' → WRem K H' r (Txt.split line spc) → Q .non H'
/-! ### readings of calls -/
section
variable {K : PySem.W.Frag} {H : Hp} {a : Rdr} {rem : List Str} {E : XK} {Q : VK} {σ : L2.St} {i : Nat}
theorem rd_take (hs : σ[i]? = some (some (.ref a.a))) (hW : WRem K H a rem) (h : Out K a H E (ptake rem) fun w _ H' => Q (.str w) H') : tMeth (He.ga K "Words") "take" (spTake K) [] E (tVar i) tNil σ H Q := by
  obtain ⟨pos, ha, _⟩ := id hW
  exact ⟨_, hs, a.a, a.dx, _, rfl, ha, rfl, a, rem, rfl, hW, h⟩
theorem rd_mark (hs : σ[i]? = some (some (.ref a.a))) (hW : WRem K H a rem) (h : Out K a H E (pmark rem) fun w _ H' => Q (.str w) H') : tMeth (He.ga K "Words") "marked" (spMark K) [] E (tVar i) tNil σ H Q := by
  obtain ⟨pos, ha, _⟩ := id hW
  exact ⟨_, hs, a.a, a.dx, _, rfl, ha, rfl, a, rem, rfl, hW, h⟩
theorem rd_exp {x : Str} {tx : TE} (hs : σ[i]? = some (some (.ref a.a))) (hx : ∀ Q : VK, Q (.str x) H → tx σ H Q) (hW : WRem K H a rem) (h : Out K a H E (pexp x rem) fun _ _ H' => Q .non H') : tMeth (He.ga K "Words") "expect" (spExp K) [] E (tVar i) (tCons tx tNil) σ H Q := by
  obtain ⟨pos, ha, _⟩ := id hW
  exact ⟨_, hs, a.a, a.dx, _, rfl, ha, rfl, hx _ ⟨a, rem, x, rfl, hW, h⟩⟩
theorem rd_num {m : Nat} (hs : σ[i]? = some (some (.ref a.a))) (hW : WRem K H a rem) (hm : m ≤ 1000) (h : Out K a H E (pnum m rem) fun (k : Nat) _ H' => Q (.int k) H') : tMeth (He.ga K "Words") "number" (spNum K) [] E (tVar i) (tCons (tC (.int m)) tNil) σ H Q := by
  obtain ⟨pos, ha, _⟩ := id hW
  exact ⟨_, hs, a.a, a.dx, _, rfl, ha, rfl, a, rem, m, rfl, hm, hW, h⟩
theorem rd_rest (hs : σ[i]? = some (some (.ref a.a))) (hW : WRem K H a rem) (h : ∀ p H', KeepW H H' → H p = none → H' p = some (.lst (rem.map V.str)) → WRem K H' a [] → Q (.ref p) H') : tMeth (He.ga K "Words") "rest" (spRest K) [] E (tVar i) tNil σ H Q := by
  obtain ⟨pos, ha, _⟩ := id hW
  exact ⟨_, hs, a.a, a.dx, _, rfl, ha, rfl, a, rem, rfl, hW, h⟩
def D0 : Ends := ⟨fun _ _ => True, fun _ _ => True, fun _ _ => True, fun _ _ => True⟩
/-- raise X(words.place) -/
theorem rd_place {x : Str} (T : Cls K (He.ga K "Words")) (n : NoAttr K (He.ga K "Words") "place") (hs : σ[i]? = some (some (.ref a.a))) (hW : WRem K H a rem) (re : RE K H E) (hx : x ∈ excs := by decide +kernel) :
    tErr K x E [] (tCons (tFld K (tVar i) "place") tNil) D0 σ H := by
  obtain ⟨pos, ha, _⟩ := id hW
  refine ⟨_, hs, a.a, _, a.dx, _, _, rfl, ha, T, n, rfl, ?_⟩
  exact err_end (pl := a.pl) re (KeepW.refl H) rfl (by show 1 ≤ 1000; decide) hx
theorem WRem.new {p : Addr} {o : HO} (h : WRem K H a rem) (hp : H p = none) : WRem K (upd H p o) a rem := by
  obtain ⟨pos, ha, hl, r⟩ := h
  exact ⟨pos, by rw [upd_ne (ne_of_none ha hp)]; exact ha, by rw [upd_ne (ne_of_none hl hp)]; exact hl, r⟩
theorem WRem.set {p : Addr} {o : HO} (h : WRem K H a rem) (h1 : p ≠ a.a) (h2 : p ≠ a.l) : WRem K (upd H p o) a rem := by
  obtain ⟨pos, ha, hl, r⟩ := h
  exact ⟨pos, by rw [upd_ne (Ne.symm h1)]; exact ha, by rw [upd_ne (Ne.symm h2)]; exact hl, r⟩
theorem WRem.ne {p : Addr} (h : WRem K H a rem) (hp : H p = none) : p ≠ a.a ∧ p ≠ a.l := by
  obtain ⟨pos, ha, hl, r⟩ := h
  exact ⟨(ne_of_none ha hp).symm, (ne_of_none hl hp).symm⟩
end
section
variable {P : Program} {w : World} {K : PySem.W.Frag} {mg : Str → Option Value} {base : Heap}
theorem Tx.wCls (T : Tx w K mg) : Cls K (He.ga K "Words") := He.cls_ok (T.fast 1)
theorem Tx.nWords (T : Tx w K mg) : NoAttr K (He.ga K "Words") "words" := He.noat_ok (T.fast 13)
theorem Tx.nPlace (T : Tx w K mg) : NoAttr K (He.ga K "Words") "place" := He.noat_ok (T.fast 14)
theorem Tx.nAt (T : Tx w K mg) : NoAttr K (He.ga K "Words") "at" := He.noat_ok (T.fast 15)
theorem sc_Words_take : FnScope ["self"] ["self"] (defScope (inClass (top 54) 1)) := ⟨rfl, rfl, rfl, by decide +kernel, rfl, by decide +kernel, by decide +kernel⟩
theorem ok_Words_take (T : Tx w K mg) : OkM P w K mg base (L2.CX P w) 4 "Words" "take" ["self"] (spTake K) := by
  have sc := sc_Words_take
  refine okm_of (He.meth_ok (T.fast 4)) T.wCls (T.def_ 36) sc (fun vs H Q E h => ?_) (fun _ _ _ _ _ _ us hl => match us, hl with | [_], _ => rfl) (fun cdv A outer s H vs Q E hr h => ?_)
  · obtain ⟨a, rem, rfl, _⟩ := h
    rfl
  have tk : Takes (cxOf (L2.CX P w) P w K mg base ["self"] "Words.take" (defScope (inClass (top 54) 1)) (He.ma K (He.ga K "Words") "take") cdv A outer s H E) (fun cls d _ H => E cls d H) := takes_of rfl rfl rfl rfl
  have hrE := hr
  refine ⟨_, (pss_cons (ps_if (pt_cmpR op_eq (pe_fld (pv 0) rfl) (pe_callB call_len_seq (by rfl) T.free PySem.boot_len (pa_cons (pe_fld (pv 0) rfl) pa_nil)) (nomark _)) (pss_one (ps_err (ok_BadLine T) hrE rfl tk (pa_cons (pe_fld (pv 0) rfl) pa_nil))) pss_nil)
    (pss_cons (ps_fldaug (pv 0) pe_int in_add)
    (pss_one (ps_ret (pe_ix ix_list (pe_fld (pv 0) rfl) (pe_op op_sub (pe_fld (pv 0) rfl) pe_int) (fun _ _ => rfl)))))), ?_⟩
  obtain ⟨a, rem, rfl, ⟨pos, ha, hl, hd, hp, hz⟩, hQ⟩ := h
  obtain ⟨a, dx, l, pl, ws⟩ := a
  dsimp only at ha hl hd hp hz
  refine ⟨_, rfl, a, _, dx, _, _, rfl, ha, T.wCls, T.nAt, rfl, ?_⟩
  refine ⟨_, rfl, a, _, dx, _, _, rfl, ha, T.wCls, T.nWords, rfl, ?_⟩
  refine ⟨l, _, rfl, .inl (SqL.of hl), rfl, _, rfl, ?_⟩
  refine ite2 (fun c => ?_) (fun c => ?_)
  · have e : pos = ws.length := by
      have c2 := of_decide_eq_true c
      simp only [V.int.injEq, List.length_map] at c2
      omega
    have er : rem = [] := by rw [← hd, e]; exact List.drop_length
    subst er
    refine ⟨_, rfl, a, _, dx, _, _, rfl, ha, T.wCls, T.nPlace, rfl, ?_⟩
    exact err_end (pl := pl) hQ (KeepW.refl H) rfl (by show 1 ≤ 1000; decide)
  · have lt : pos < ws.length := by
      have c2 : ¬ decide (V.int (pos : Int) = V.int ((ws.map V.str).length : Int)) = true := c
      simp only [V.int.injEq, List.length_map, decide_eq_true_eq] at c2
      omega
    have er : ∃ r, rem = ws[pos] :: r ∧ ws.drop (pos + 1) = r := ⟨ws.drop (pos + 1), by rw [← hd]; exact List.drop_eq_getElem_cons lt, rfl⟩
    obtain ⟨r, er, hr2⟩ := er
    subst er
    refine ⟨_, rfl, a, _, dx, _, _, rfl, ha, T.wCls, T.nAt, rfl, _, _, rfl, rfl, dx, _, ha, by show 3 < 1000; decide, ?_⟩
    have ha2 : upd H a (.ins (He.ga K "Words") dx (putF "at" (.int ((pos : Int) + 1)) (wFs l pl pos))) a = some (.ins (He.ga K "Words") dx (wFs l pl (pos + 1))) := upd_same
    have kw : KeepW H (upd H a (.ins (He.ga K "Words") dx (putF "at" (.int ((pos : Int) + 1)) (wFs l pl pos)))) := KeepW.ins ha
    have hl2 := kw l _ hl rfl
    refine ⟨_, rfl, a, _, dx, _, _, rfl, ha2, T.wCls, T.nWords, rfl, ?_⟩
    refine ⟨_, rfl, a, _, dx, _, _, rfl, ha2, T.wCls, T.nAt, rfl, _, _, rfl, rfl, ?_⟩
    refine ⟨l, _, _, .str ws[pos], rfl, rfl, SqL.of hl2, at_of (j := pos) (by omega) (by simp [lt]), ?_⟩
    exact hQ _ kw ⟨pos + 1, ha2, hl2, hr2, lt, hz⟩
theorem small_log {n : Nat} (h : n ≤ 100000) : n.log2 < 1920 := by
  by_cases h0 : n = 0
  · rw [h0]
    decide
  · rw [Nat.log2_lt h0]
    refine Nat.lt_of_le_of_lt h ?_
    refine Nat.lt_of_lt_of_le (show 100000 < 2 ^ 17 by decide) (Nat.pow_le_pow_right (by decide) (by decide))
theorem sc_Words_expect : FnScope ["self", "word"] ["self", "word"] (defScope (inClass (top 54) 2)) := ⟨rfl, rfl, rfl, by decide +kernel, rfl, by decide +kernel, by decide +kernel⟩
theorem ok_Words_expect (T : Tx w K mg) : OkM P w K mg base (L2.CX P w) 5 "Words" "expect" ["self", "word"] (spExp K) := by
  have sc := sc_Words_expect
  have F_Words_take := ok_Words_take (P := P) (base := base) T
  refine okm_of (He.meth_ok (T.fast 5)) T.wCls (T.def_ 37) sc (fun vs H Q E h => ?_) (fun _ _ _ _ _ _ us hl => match us, hl with | [_, _], _ => rfl) (fun cdv A outer s H vs Q E hr h => ?_)
  · obtain ⟨a, rem, x, rfl, _⟩ := h
    rfl
  have tk : Takes (cxOf (L2.CX P w) P w K mg base ["self", "word"] "Words.expect" (defScope (inClass (top 54) 2)) (He.ma K (He.ga K "Words") "expect") cdv A outer s H E) (fun cls d _ H => E cls d H) := takes_of rfl rfl rfl rfl
  have hr_Words_take := hr
  have hrE := hr.mono (show 3 ≤ 4 by decide)
  refine ⟨_, (pss_one (ps_if (pt_cmpR op_ne (pe_m0 F_Words_take (pv 0) hr_Words_take (passes_call tk fun _ _ _ _ h => h)) (pv 1) (nomark _)) (pss_one (ps_err (ok_BadLine T) hrE rfl tk (pa_cons (pe_fld (pv 0) rfl) pa_nil))) pss_nil)), ?_⟩
  obtain ⟨a, rem, x, rfl, hW, hQ⟩ := h
  refine rd_take rfl hW (hQ.bind.imp fun wd r H1 e k1 hW1 hQ => ?_)
  refine ⟨_, rfl, rfl, _, rfl, ?_⟩
  by_cases c : wd = x
  · rw [if_pos c] at hQ
    refine itF (by simp [c]) ?_
    exact hQ.ret hW1
  · rw [if_neg c] at hQ
    refine itT (by simp [c]) ?_
    exact rd_place T.wCls T.nPlace rfl hW1 hQ.fail
theorem sc_Words_number : FnScope ["self", "most", "word", "k"] ["self", "most"] (defScope (inClass (top 54) 3)) := ⟨rfl, rfl, rfl, by decide +kernel, rfl, by decide +kernel, by decide +kernel⟩
theorem ok_Words_number (T : Tx w K mg) : OkM P w K mg base (L2.CX P w) 5 "Words" "number" ["self", "most"] (spNum K) := by
  have sc := sc_Words_number
  have F_Words_take := ok_Words_take (P := P) (base := base) T
  refine okm_of (He.meth_ok (T.fast 6)) T.wCls (T.def_ 38) sc (fun vs H Q E h => ?_) (fun _ _ _ _ _ _ us hl => match us, hl with | [_, _], _ => rfl) (fun cdv A outer s H vs Q E hr h => ?_)
  · obtain ⟨a, rem, x, rfl, _⟩ := h
    rfl
  have tk : Takes (cxOf (L2.CX P w) P w K mg base ["self", "most", "word", "k"] "Words.number" (defScope (inClass (top 54) 3)) (He.ma K (He.ga K "Words") "number") cdv A outer s H E) (fun cls d _ H => E cls d H) := takes_of rfl rfl rfl rfl
  have hr_Words_take := hr
  have hrE := hr.mono (show 3 ≤ 4 by decide)
  refine ⟨_, (pss_cons (ps_set (i := 2) sc.nd rfl (by first | exact Or.inl rfl | exact Or.inr rfl) (pe_m0 F_Words_take (pv 0) hr_Words_take (passes_call tk fun _ _ _ _ h => h)))
    (pss_cons (ps_for (passes_of rfl) rfl (pi_range1 (by rfl) T.free (pa_cons (pe_op op_add (pv 1) pe_int) pa_nil)) (pg_name (i := 3) sc.nd rfl (by first | exact Or.inl rfl | exact Or.inr rfl)) (pss_one (ps_if (pt_cmpR op_eq (pv 2) (pe_callTy call_str_int (by rfl) T.free (by decide +kernel) (pa_cons (pv 3) pa_nil)) (nomark _)) (pss_one (ps_ret (pv 3))) pss_nil)))
    (pss_one (ps_err (ok_BadLine T) hrE rfl tk (pa_cons (pe_fld (pv 0) rfl) pa_nil))))), ?_⟩
  obtain ⟨a, rem, m, rfl, hm, hW, hQ⟩ := h
  refine rd_take rfl hW (hQ.bind.imp fun wd r H1 e k1 hW1 hQ => ?_)
  refine ⟨_, rfl, _, _, rfl, rfl, (m : Int) + 1, rfl, by omega, by omega, ?_⟩
  refine for_range (lo := 0) (n := ((m : Int) + 1).toNat) (fun i σ H' => ∃ kv, σ = [some (.ref a.a), some (.int m), some (.str wd), kv] ∧ H' = H1 ∧ ∀ j, j < i → wd ≠ num j) ⟨_, rfl, rfl, fun j hj => absurd hj (Nat.not_lt_zero j)⟩ (fun i σ H' hi ⟨kv, es, eH, hne⟩ => ?_) (fun σ H' ⟨kv, es, eH, hne⟩ => ?_)
  · subst es eH
    have hi2 : i ≤ m := by omega
    refine ⟨_, rfl, _, rfl, (0 : Int) + (i : Int), rfl, small_log (by omega), rfl, _, rfl, ?_⟩
    have e0 : (0 : Int) + (i : Int) = ((i : Nat) : Int) := by omega
    by_cases c : wd = num i
    · refine itT (by rw [e0]; exact decide_eq_true (congrArg V.str c)) ?_
      refine ⟨_, rfl, ?_⟩
      rw [c, numOf_num hi2] at hQ
      show Q (.int ((0 : Int) + (i : Int))) _
      rw [e0]
      exact hQ.ret hW1
    · refine itF (by rw [e0]; exact decide_eq_false fun z => c (V.str.inj z)) ?_
      refine ⟨_, rfl, rfl, fun j hj => ?_⟩
      rcases Nat.lt_succ_iff_lt_or_eq.mp hj with h1 | h1
      · exact hne j h1
      · rw [h1]
        exact c
  · subst es eH
    have no : numOf m wd = none := by
      cases q : numOf m wd with
      | none => rfl
      | some j =>
        obtain ⟨q1, q2⟩ := numOf_some q
        exact absurd q1 (hne j (by omega))
    rw [no] at hQ
    exact rd_place T.wCls T.nPlace rfl hW1 hQ.fail
theorem sc_Words_marked : FnScope ["self", "word"] ["self"] (defScope (inClass (top 54) 4)) := ⟨rfl, rfl, rfl, by decide +kernel, rfl, by decide +kernel, by decide +kernel⟩
theorem ok_Words_marked (T : Tx w K mg) : OkM P w K mg base (L2.CX P w) 5 "Words" "marked" ["self"] (spMark K) := by
  have sc := sc_Words_marked
  have F_Words_take := ok_Words_take (P := P) (base := base) T
  refine okm_of (He.meth_ok (T.fast 7)) T.wCls (T.def_ 39) sc (fun vs H Q E h => ?_) (fun _ _ _ _ _ _ us hl => match us, hl with | [_], _ => rfl) (fun cdv A outer s H vs Q E hr h => ?_)
  · obtain ⟨a, rem, rfl, _⟩ := h
    rfl
  have tk : Takes (cxOf (L2.CX P w) P w K mg base ["self", "word"] "Words.marked" (defScope (inClass (top 54) 4)) (He.ma K (He.ga K "Words") "marked") cdv A outer s H E) (fun cls d _ H => E cls d H) := takes_of rfl rfl rfl rfl
  have hr_Words_take := hr
  have hrE := hr.mono (show 3 ≤ 4 by decide)
  refine ⟨_, (pss_cons (ps_set (i := 1) sc.nd rfl (by first | exact Or.inl rfl | exact Or.inr rfl) (pe_m0 F_Words_take (pv 0) hr_Words_take (passes_call tk fun _ _ _ _ h => h)))
    (pss_cons (ps_if (pt_not (pt_val (pe_m1 PySem.F.slot_str_startswith PySem.F.type_str_startswith mt_startswith (pv 1) pe_str))) (pss_one (ps_err (ok_BadLine T) hrE rfl tk (pa_cons (pe_fld (pv 0) rfl) pa_nil))) pss_nil)
    (pss_one (ps_ret (pe_slice sl_str (pv 1) (po_some pe_int) po_none))))), ?_⟩
  obtain ⟨a, rem, rfl, hW, hQ⟩ := h
  refine rd_take rfl hW (hQ.bind.imp fun wd r H1 e k1 hW1 hQ => ?_)
  have hz : wd.length ≤ sizeLine := by
    obtain ⟨pos, ha, hl, hd, hp, hz⟩ := hW
    refine hz wd ?_
    have e2 := take_some e
    have : wd ∈ a.ws.drop pos := by rw [hd, e2]; exact List.mem_cons_self
    exact List.mem_of_mem_drop this
  refine ⟨_, rfl, ⟨_, rfl⟩, _, _, rfl, rfl, _, rfl, ?_⟩
  unfold markOf at hQ
  cases c : Txt.startswith wd "=" with
  | true =>
    rw [c, if_pos rfl] at hQ
    refine iteF ?_
    refine ⟨_, rfl, _, rfl, _, rfl, hz, ?_⟩
    exact hQ.ret hW1
  | false =>
    rw [c, if_neg (by decide)] at hQ
    refine iteT ?_
    exact rd_place T.wCls T.nPlace rfl hW1 hQ.fail
theorem sc_Words_rest : FnScope ["self", "words"] ["self"] (defScope (inClass (top 54) 5)) := ⟨rfl, rfl, rfl, by decide +kernel, rfl, by decide +kernel, by decide +kernel⟩
theorem ok_Words_rest (T : Tx w K mg) : OkM P w K mg base CX0 1 "Words" "rest" ["self"] (spRest K) := by
  have sc := sc_Words_rest
  refine okm_of (He.meth_ok (T.fast 8)) T.wCls (T.def_ 40) sc (fun vs H Q E h => ?_) (fun _ _ _ _ _ _ us hl => match us, hl with | [_], _ => rfl) (fun cdv A outer s H vs Q E hr h => ⟨_, PSs.nox (pss_cons (ps_set (i := 1) sc.nd rfl (by first | exact Or.inl rfl | exact Or.inr rfl) (pe_slice sl_list (pe_fld (pv 0) rfl) (po_some (pe_fld (pv 0) rfl)) po_none))
    (pss_cons (ps_fld (pv 0) (pe_callB call_len_seq (by rfl) T.free PySem.boot_len (pa_cons (pe_fld (pv 0) rfl) pa_nil)) rfl)
    (pss_one (ps_ret (pv 1))))), ?_⟩)
  · obtain ⟨a, rem, rfl, _⟩ := h
    rfl
  obtain ⟨a, rem, rfl, ⟨pos, ha, hl, hd, hp, hz⟩, hQ⟩ := h
  obtain ⟨a, dx, l, pl, ws⟩ := a
  dsimp only at ha hl hd hp hz
  refine ⟨_, rfl, a, _, dx, _, _, rfl, ha, T.wCls, T.nWords, rfl, ?_⟩
  refine ⟨_, rfl, a, _, dx, _, _, rfl, ha, T.wCls, T.nAt, rfl, _, rfl, l, _, rfl, SqL.of hl, fun p np => ?_⟩
  have ec : cutV (ws.map V.str) (some (pos : Int)) none = rem.map V.str := by
    unfold cutV
    rw [HT.sIx_nat, HT.sIx_none, List.length_map, Nat.min_eq_left hp, List.take_of_length_le (by simp), ← List.map_drop, hd]
  rw [ec]
  have ha1 : upd H p (.lst (rem.map V.str)) a = some (.ins (He.ga K "Words") dx (wFs l pl pos)) := by rw [upd_ne (ne_of_none ha np)]; exact ha
  have hl1 : upd H p (.lst (rem.map V.str)) l = some (.lst (ws.map V.str)) := by rw [upd_ne (ne_of_none hl np)]; exact hl
  refine ⟨_, rfl, a, _, dx, _, _, rfl, ha1, T.wCls, T.nWords, rfl, l, _, rfl, .inl (SqL.of hl1), ?_⟩
  refine ⟨_, rfl, a, _, dx, _, rfl, ha1, T.wCls, T.nAt, by show 3 < 1000; decide, ?_⟩
  refine ⟨_, rfl, ?_⟩
  have kw := KeepW.ins (fs' := wFs l pl ws.length) ha1
  have e : putF "at" (.int ((ws.map V.str).length : Int)) (wFs l pl pos) = wFs l pl ws.length := by
    rw [List.length_map]
    rfl
  rw [e]
  refine hQ p _ ((KeepW.new np).trans kw) np (kw p _ upd_same rfl) ⟨ws.length, upd_same, kw l _ hl1 rfl, List.drop_length, Nat.le_refl _, hz⟩
theorem sc_Words___init__ : FnScope ["self", "line", "place"] ["self", "line", "place"] (defScope (inClass (top 54) 0)) := ⟨rfl, rfl, rfl, by decide +kernel, rfl, by decide +kernel, by decide +kernel⟩
theorem ok_Words_init (T : Tx w K mg) : OkI P w K mg base CX0 1 "Words" ["self", "line", "place"] (spWInit K) := by
  have sc := sc_Words___init__
  refine oki_of (He.mkr_ok (T.fast 3)) T.glo (T.def_ 35) sc (fun vs H Q E h => ?_) (fun _ _ _ _ _ _ us hl => match us, hl with | [_, _, _], _ => rfl) (fun cdv A outer s H vs Q E hr h => ⟨_, PSs.nox (pss_cons (ps_fld (pv 0) (pe_split (pv 1) pe_str) rfl)
    (pss_cons (ps_fld (pv 0) (pv 2) rfl)
    (pss_one (ps_fld (pv 0) pe_int rfl)))), ?_⟩)
  · obtain ⟨a, dx, line, pl, rfl, _⟩ := h
    rfl
  obtain ⟨a, dx, line, pl, rfl, ha, hln, hQ⟩ := h
  refine ⟨_, rfl, ⟨_, rfl⟩, line, spc, rfl, rfl, rfl, hln, fun p np => ?_⟩
  have ha1 : upd H p (.lst ((Txt.split line spc).map V.str)) a = some (.ins (He.ga K "Words") dx []) := by rw [upd_ne (ne_of_none ha np)]; exact ha
  refine ⟨_, rfl, a, _, dx, _, rfl, ha1, T.wCls, T.nWords, by show 0 < 1000; decide, ?_⟩
  refine ⟨_, rfl, _, rfl, a, _, dx, _, rfl, upd_same, T.wCls, T.nPlace, by show 1 < 1000; decide, ?_⟩
  refine ⟨_, rfl, a, _, dx, _, rfl, upd_same, T.wCls, T.nAt, by show 2 < 1000; decide, ?_⟩
  rw [upd_upd, upd_upd]
  have kw := KeepW.ins (fs' := wFs p pl 0) ha1
  refine hQ _ ⟨a, dx, p, pl, Txt.split line spc⟩ rfl ((KeepW.new np).trans kw) ⟨0, upd_same, kw p _ upd_same rfl, rfl, Nat.zero_le _, fun w hw => ?_⟩
  have z := split_len tl_spc spc_ok hw
  omega
end
end L2.Ta

set_option maxHeartbeats 4000000
/-! conditions, sources, rules read -/
namespace L2.Ta
open PySem PySem.Spec PyProof.Rows L2 TL
/-! ### what stands in the heap -/
/-- the tuples stand -/
def TupK (H H' : Hp) : Prop := ∀ p xs, H p = some (.tup xs) → H' p = some (.tup xs)
theorem KeepW.tup {H H' : Hp} (k : KeepW H H') : TupK H H' := fun p xs e => k p _ e rfl
theorem TupK.refl (H : Hp) : TupK H H := fun _ _ e => e
theorem TupK.trans {H H1 H2 : Hp} (a : TupK H H1) (b : TupK H1 H2) : TupK H H2 := fun p xs e => b p xs (a p xs e)
theorem TupK.new {H : Hp} {p : Addr} {o : HO} (h : H p = none) : TupK H (upd H p o) := (KeepW.new h).tup
theorem TupK.lst {H : Hp} {p : Addr} {xs : List V} {o : HO} (h : H p = some (.lst xs)) : TupK H (upd H p o) := fun q ys e => by
  rw [upd_ne (ne_of e h (by intro z; cases z))]
  exact e
theorem KeepW.mut {H H1 : Hp} {p : Addr} {o : HO} (k : KeepW H H1) (h : H p = none) : KeepW H (upd H1 p o) := fun b u e i => by
  rw [upd_ne (ne_of_none e h)]
  exact k b u e i
def TupS (H : Hp) (v : V) (xs : List V) : Prop := ∃ p, v = .ref p ∧ H p = some (.tup xs)
theorem TupS.keep {H H' : Hp} {v : V} {xs : List V} (t : TupK H H') (h : TupS H v xs) : TupS H' v xs := by
  obtain ⟨p, e, h⟩ := h
  exact ⟨p, e, t p xs h⟩
mutual
def CondAt (H : Hp) : Cond → V → Prop
  | .always, v => TupS H v [.str "always"]
  | .never, v => TupS H v [.str "never"]
  | .mat n p, v => TupS H v [.str "matches", .str n, .str p]
  | .same a b, v => TupS H v [.str "same", .str a, .str b]
  | .empty n, v => TupS H v [.str "empty", .str n]
  | .not c, v => ∃ u, TupS H v [.str "not", u] ∧ CondAt H c u
  | .many b ps, v => ∃ us, TupS H v (.str (bw b) :: us) ∧ CondsAt H ps us
def CondsAt (H : Hp) : List Cond → List V → Prop
  | [], us => us = []
  | c :: r, us => ∃ u us', us = u :: us' ∧ CondAt H c u ∧ CondsAt H r us'
end
mutual
theorem CondAt.keep {H H' : Hp} (t : TupK H H') : ∀ {c : Cond} {v : V}, CondAt H c v → CondAt H' c v
  | .always, v, h => by rw [CondAt] at h ⊢; exact TupS.keep t h
  | .never, v, h => by rw [CondAt] at h ⊢; exact TupS.keep t h
  | .mat n p, v, h => by rw [CondAt] at h ⊢; exact TupS.keep t h
  | .same a b, v, h => by rw [CondAt] at h ⊢; exact TupS.keep t h
  | .empty n, v, h => by rw [CondAt] at h ⊢; exact TupS.keep t h
  | .not c, v, h => by
    rw [CondAt] at h ⊢
    obtain ⟨u, h1, h2⟩ := h
    exact ⟨u, TupS.keep t h1, CondAt.keep t h2⟩
  | .many b ps, v, h => by
    rw [CondAt] at h ⊢
    obtain ⟨u, h1, h2⟩ := h
    exact ⟨u, TupS.keep t h1, CondsAt.keep t h2⟩
theorem CondsAt.keep {H H' : Hp} (t : TupK H H') : ∀ {ps : List Cond} {us : List V}, CondsAt H ps us → CondsAt H' ps us
  | [], us, h => by rw [CondsAt] at h ⊢; exact h
  | c :: r, us, h => by
    rw [CondsAt] at h ⊢
    obtain ⟨u, us', e, h1, h2⟩ := h
    exact ⟨u, us', e, CondAt.keep t h1, CondsAt.keep t h2⟩
end
theorem condsAt_of {H : Hp} : ∀ {ps : List Cond} {us : List V}, Paired (CondAt H) ps us → CondsAt H ps us
  | _, _, .nil => by rw [CondsAt]
  | _, _, .cons h r => by
    rw [CondsAt]
    exact ⟨_, _, rfl, h, condsAt_of r⟩
theorem condsAt_to {H : Hp} : ∀ {ps : List Cond} {us : List V}, CondsAt H ps us → Paired (CondAt H) ps us
  | [], us, h => by
    rw [CondsAt] at h
    subst h
    exact .nil
  | c :: r, us, h => by
    rw [CondsAt] at h
    obtain ⟨u, us', e, h1, h2⟩ := h
    subst e
    exact .cons h1 (condsAt_to h2)
theorem Paired.keepR {α : Type} {R R' : α → V → Prop} (f : ∀ x v, R x v → R' x v) : ∀ {xs : List α} {us : List V}, Paired R xs us → Paired R' xs us
  | _, _, .nil => .nil
  | _, _, .cons h r => .cons (f _ _ h) (Paired.keepR f r)
theorem Paired.snoc {α : Type} {R : α → V → Prop} {x : α} {u : V} (h : R x u) : ∀ {xs : List α} {us : List V}, Paired R xs us → Paired R (xs ++ [x]) (us ++ [u])
  | _, _, .nil => .cons h .nil
  | _, _, .cons h1 r => .cons h1 (Paired.snoc h r)
def LnAt (H : Hp) (l : Ln) (v : V) : Prop := TupS H v l.vals
theorem LnAt.keep {H H' : Hp} (t : TupK H H') {l : Ln} {v : V} (h : LnAt H l v) : LnAt H' l v := TupS.keep t h
def stV : Option Str → V
  | none => .non
  | some x => .str x
def RuleAt (H : Hp) (R : Rule) (v : V) : Prop := ∃ (p aw tn : Addr) (c : V) (us ts : List V), v = .ref p ∧ H p = some (.tup [stV R.st, .str R.kind, c, .ref aw, .ref tn, .str R.next]) ∧ CondAt H R.cond c ∧
  H aw = some (.tup (.str R.word :: us)) ∧ Paired (LnAt H) R.srcs us ∧ H tn = some (.tup ts) ∧ Paired (LnAt H) R.turn ts
theorem RuleAt.keep {H H' : Hp} (t : TupK H H') {R : Rule} {v : V} (h : RuleAt H R v) : RuleAt H' R v := by
  obtain ⟨p, aw, tn, c, us, ts, e, h1, h2, h3, h4, h5, h6⟩ := h
  exact ⟨p, aw, tn, c, us, ts, e, t _ _ h1, h2.keep t, t _ _ h3, Paired.keepR (fun _ _ => LnAt.keep t) h4, t _ _ h5, Paired.keepR (fun _ _ => LnAt.keep t) h6⟩
/-! ### promises -/
def spRS (K : PySem.W.Frag) : Sp := fun vs H Q E => ∃ (a : Rdr) (rem : List Str) (x : Str), vs = [.ref a.a, .str x] ∧ WRem K H a rem ∧ Out K a H E (psrc x rem) fun l _ H' => ∀ v, LnAt H' l v → Q v H'
def spRL (K : PySem.W.Frag) : Sp := fun vs H Q E => ∃ (a : Rdr) (rem : List Str), vs = [.ref a.a] ∧ WRem K H a rem ∧ Out K a H E (pline rem) fun l _ H' => ∀ v, LnAt H' l v → Q v H'
def spRC (K : PySem.W.Frag) (d : Nat) : Sp := fun vs H Q E => ∃ (a : Rdr) (rem : List Str), vs = [.ref a.a, .int d] ∧ WRem K H a rem ∧ Out K a H E (pcond d rem) fun c _ H' => ∀ v, CondAt H' c v → Q v H'
/-- a step ends with a new tuple -/
theorem Out.tup {α : Type} {K : PySem.W.Frag} {a : Rdr} {H : Hp} {E : XK} {Q : VK} {R : Hp → α → V → Prop} {x : α} {rem : List Str} {xs : List V} {p : Addr} (h : Out K a H E (pret x rem) fun x _ H' => ∀ v, R H' x v → Q v H') (hW : WRem K H a rem) (np : H p = none)
    (hR : R (upd H p (.tup xs)) x (.ref p)) : Q (.ref p) (upd H p (.tup xs)) := (h.keep (KeepW.new np)).ret (hW.new np) _ hR
theorem Out.bind0 {α β : Type} {K : PySem.W.Frag} {a : Rdr} {H : Hp} {E : XK} {m : Ps α} {f : α → Ps β} {rem : List Str} {G : β → List Str → Hp → Prop} (h : Out K a H E (pbind m f rem) G) : Out K a H E (m rem) fun x r _ => Out K a H E (f x r) G := by
  unfold pbind at h
  cases e : m rem with
  | none => rw [e] at h; exact h
  | some p =>
    rw [e] at h
    exact fun H' k w => h
/-- [m() for _ in range(n)] -/
theorem rep_lc {α : Type} {m : Ps α} {R : Hp → α → V → Prop} {K : PySem.W.Frag} {a : Rdr} {H : Hp} {E : XK} {Q : VK} {rem : List Str} {n j : Nat} {ta : TA} {te : TE} {vs : List Nat} {σ : L2.St} (hR : ∀ H H' x v, TupK H H' → R H x v → R H' x v) (hn : n ≤ 1000000)
    (hta : ∀ Q' : List V → Hp → Prop, Q' [.int n] H → ta σ H Q') (hw : ∀ x, wipe ((wipe σ vs).set j (some x)) vs = wipe σ vs)
    (hte : ∀ (i : Nat) H1 rem1 (Q1 : VK), WRem K H1 a rem1 → (Out K a H1 E (m rem1) fun x _ H' => ∀ v, R H' x v → Q1 v H') → te ((wipe σ vs).set j (some (.int (0 + (i : Int))))) H1 Q1)
    (hW : WRem K H a rem) (hQ : Out K a H E (prep m n rem) fun xs _ H' => ∀ D us, H' D = some (.lst us) → Paired (R H') xs us → Q (.ref D) H') : tLc (iRng1 ta) (gName j) tYes te vs σ H Q := by
  refine hta _ ⟨(n : Int), rfl, by omega, by omega, fun D hD => ?_⟩
  obtain ⟨d1, d2⟩ := hW.ne hD
  refine lc_range (lo := 0) (n := (n : Int).toNat) (fun i H' => ∃ (done : List α) (us : List V) (rem' : List Str), done.length = i ∧ KeepW H H' ∧ H' D = some (.lst us) ∧ Paired (R H') done us ∧ WRem K H' a rem' ∧
    Out K a H E (prep m (n - i) rem') fun xs r H'' => ∀ D us, H'' D = some (.lst us) → Paired (R H'') (done ++ xs) us → Q (.ref D) H'')
    ⟨[], [], rem, rfl, KeepW.new hD, upd_same, .nil, hW.new hD, hQ⟩ (fun i H' hi ⟨done, us, rem', e1, k1, h1, p1, w1, q1⟩ => ?_) (fun H' ⟨done, us, rem', e1, k1, h1, p1, w1, q1⟩ => ?_)
  · have hi2 : i < n := by omega
    have en : n - i = (n - (i + 1)) + 1 := by omega
    rw [en] at q1
    have q2 := Out.bind0 (m := m) (f := fun a => pbind (prep m (n - (i + 1))) fun r => pret (a :: r)) q1
    refine ⟨hw _, ?_⟩
    refine hte i H' rem' _ w1 ((q2.keep k1).imp fun x r H4 e4 k4 w4 q4 v hv => ?_)
    have hD4 := k4 D _ h1 rfl
    have lu : us.length = i := by rw [← e1]; exact (Paired.length p1).symm
    refine ⟨us, hD4, by rw [sizeLine_eq]; omega, done ++ [x], us ++ [v], r, by simp [e1], (k1.trans k4).mut hD, upd_same, ?_, w4.set d1 d2, ?_⟩
    · have t5 : TupK H4 (upd H4 D (.lst (us ++ [v]))) := TupK.lst hD4
      exact Paired.snoc (hR _ _ _ _ t5 hv) (Paired.keepR (fun _ _ z => hR _ _ _ _ (k4.tup.trans t5) z) p1)
    · refine Out.imp (Out.bind0 q4) fun xs r2 H6 e6 k6 w6 q6 D' us' hD' hp' => ?_
      have z := q6 H6 k6 w6 D' us' hD'
      rw [List.append_assoc] at hp'
      exact z hp'
  · have en : n - (n : Int).toNat = 0 := by omega
    rw [en] at q1
    have z := q1 H' k1 w1 D us h1
    rw [List.append_nil] at z
    exact z p1
section
variable {P : Program} {w : World} {K : PySem.W.Frag} {mg : Str → Option Value} {base : Heap}
theorem sc_read_source : FnScope ["words", "word"] ["words", "word"] (defScope (top 56)) := ⟨rfl, rfl, rfl, by decide +kernel, rfl, by decide +kernel, by decide +kernel⟩
theorem ok_read_source (T : Tx w K mg) : Ok1 P w K mg base (L2.CX P w) 6 "read_source" ["words", "word"] (spRS K) := by
  have sc := sc_read_source
  have F_Words_take := ok_Words_take (P := P) (base := base) T
  have F_Words_marked := ok_Words_marked (P := P) (base := base) T
  have F_Words_number := ok_Words_number (P := P) (base := base) T
  obtain ⟨tn, m_FRESH_MOST⟩ := T.int (x := "FRESH_MOST") (i := 2)
  refine ok1_of T.glo (T.def_ 42) sc (fun vs H Q E h => ?_) (fun _ _ _ _ _ _ us hl => match us, hl with | [_, _], _ => rfl) (fun cdv A outer s H vs Q E hr h => ?_)
  · obtain ⟨a, rem, x, rfl, _⟩ := h
    rfl
  have tk : Takes (cxOf (L2.CX P w) P w K mg base ["words", "word"] "read_source" (defScope (top 56)) (He.ga K "read_source") cdv A outer s H E) (fun cls d _ H => E cls d H) := takes_of rfl rfl rfl rfl
  have hr_Words_take := hr.mono (show 4 ≤ 5 by decide)
  have hr_Words_marked := hr
  have hr_Words_number := hr
  have hrE := hr.mono (show 3 ≤ 5 by decide)
  refine ⟨_, (pss_cons (ps_if (pt_cmpR op_eq (pv 1) pe_str (nomark _)) (pss_one (ps_ret (pe_tup (pa_cons (pv 1) (pa_cons (pe_m0 F_Words_take (pv 0) hr_Words_take (passes_call tk fun _ _ _ _ h => h)) pa_nil))))) pss_nil)
    (pss_cons (ps_if (pt_cmpR op_eq (pv 1) pe_str (nomark _)) (pss_one (ps_ret (pe_tup (pa_cons (pv 1) (pa_cons (pe_m0 F_Words_marked (pv 0) hr_Words_marked (passes_call tk fun _ _ _ _ h => h)) pa_nil))))) pss_nil)
    (pss_cons (ps_if (pt_cmpR op_ne (pv 1) pe_str (nomark _)) (pss_one (ps_err (ok_BadLine T) hrE rfl tk (pa_cons (pe_fld (pv 0) rfl) pa_nil))) pss_nil)
    (pss_one (ps_ret (pe_tup (pa_cons (pv 1) (pa_cons (pe_m F_Words_number (pv 0) hr_Words_number (passes_call tk fun _ _ _ _ h => h) (pa_cons (pe_glob (v := .int 2) (by rfl) m_FRESH_MOST ⟨_, rfl⟩) pa_nil)) pa_nil)))))))), ?_⟩
  obtain ⟨a, rem, x, rfl, hW, hQ⟩ := h
  unfold psrc at hQ
  refine ⟨_, rfl, rfl, _, rfl, ?_⟩
  by_cases c1 : x = "value"
  · rw [if_pos c1] at hQ
    refine itT (by simp [c1]) ?_
    refine ⟨_, rfl, rd_take rfl hW (hQ.bind.imp fun n r H1 e k1 hW1 hQ => ?_)⟩
    refine ⟨by show 2 ≤ sizeLine; decide, fun p np => hQ.tup hW1 np ⟨p, rfl, ?_⟩⟩
    rw [c1]
    exact upd_same
  rw [if_neg c1] at hQ
  refine itF (by simp [c1]) ?_
  refine ⟨_, rfl, rfl, _, rfl, ?_⟩
  by_cases c2 : x = "text"
  · rw [if_pos c2] at hQ
    refine itT (by simp [c2]) ?_
    refine ⟨_, rfl, rd_mark rfl hW (hQ.bind.imp fun n r H1 e k1 hW1 hQ => ?_)⟩
    refine ⟨by show 2 ≤ sizeLine; decide, fun p np => hQ.tup hW1 np ⟨p, rfl, ?_⟩⟩
    rw [c2]
    exact upd_same
  rw [if_neg c2] at hQ
  refine itF (by simp [c2]) ?_
  refine ⟨_, rfl, rfl, _, rfl, ?_⟩
  by_cases c3 : x = "fresh"
  · rw [if_pos c3] at hQ
    refine itF (by simp [c3]) ?_
    refine ⟨_, rfl, rd_num (m := 2) rfl hW (by decide) (hQ.bind.imp fun n r H1 e k1 hW1 hQ => ?_)⟩
    refine ⟨by show 2 ≤ sizeLine; decide, fun p np => hQ.tup hW1 np ⟨p, rfl, ?_⟩⟩
    rw [c3]
    exact upd_same
  rw [if_neg c3] at hQ
  refine itT (by simp [c3]) ?_
  exact rd_place T.wCls T.nPlace rfl hW hQ.fail
theorem sc_read_line : FnScope ["words", "word"] ["words"] (defScope (top 57)) := ⟨rfl, rfl, rfl, by decide +kernel, rfl, by decide +kernel, by decide +kernel⟩
theorem ok_read_line (T : Tx w K mg) : Ok1 P w K mg base (L2.CX P w) 7 "read_line" ["words"] (spRL K) := by
  have sc := sc_read_line
  have F_Words_take := ok_Words_take (P := P) (base := base) T
  have F_read_source := ok_read_source (P := P) (base := base) T
  refine ok1_of T.glo (T.def_ 43) sc (fun vs H Q E h => ?_) (fun _ _ _ _ _ _ us hl => match us, hl with | [_], _ => rfl) (fun cdv A outer s H vs Q E hr h => ?_)
  · obtain ⟨a, rem, rfl, _⟩ := h
    rfl
  have tk : Takes (cxOf (L2.CX P w) P w K mg base ["words", "word"] "read_line" (defScope (top 57)) (He.ga K "read_line") cdv A outer s H E) (fun cls d _ H => E cls d H) := takes_of rfl rfl rfl rfl
  have hr_Words_take := hr.mono (show 4 ≤ 6 by decide)
  have hr_read_source := hr
  refine ⟨_, (pss_cons (ps_set (i := 1) sc.nd rfl (by first | exact Or.inl rfl | exact Or.inr rfl) (pe_m0 F_Words_take (pv 0) hr_Words_take (passes_call tk fun _ _ _ _ h => h)))
    (pss_cons (ps_if (pt_cmpR op_in_seq (pv 1) (pe_tup (pa_cons pe_str (pa_cons pe_str pa_nil))) (by rfl)) (pss_one (ps_ret (pe_tup (pa_cons (pv 1) pa_nil)))) pss_nil)
    (pss_one (ps_ret (pe_f F_read_source hr_read_source (passes_call tk fun _ _ _ _ h => h) (pa_cons (pv 0) (pa_cons (pv 1) pa_nil))))))), ?_⟩
  obtain ⟨a, rem, rfl, hW, hQ⟩ := h
  refine rd_take rfl hW (hQ.bind.imp fun wd r H1 e k1 hW1 hQ => ?_)
  refine ⟨_, rfl, by show 2 ≤ sizeLine; decide, fun p0 np0 => ?_⟩
  have hW2 := hW1.new (o := .tup [.str "keep", .str "clear"]) np0
  have hQ2 := hQ.keep (KeepW.new (o := .tup [.str "keep", .str "clear"]) np0)
  refine ⟨p0, _, rfl, .inr (SqT.of upd_same), rfl, rfl, _, rfl, ?_⟩
  by_cases c1 : wd = "keep"
  · rw [if_pos c1] at hQ2
    refine itT (by rw [c1]; decide +kernel) ?_
    refine ⟨_, rfl, by show 1 ≤ sizeLine; decide, fun p np => hQ2.tup hW2 np ⟨p, rfl, ?_⟩⟩
    rw [c1]
    exact upd_same
  rw [if_neg c1] at hQ2
  by_cases c2 : wd = "clear"
  · rw [if_pos c2] at hQ2
    refine itT (by rw [c2]; decide +kernel) ?_
    refine ⟨_, rfl, by show 1 ≤ sizeLine; decide, fun p np => hQ2.tup hW2 np ⟨p, rfl, ?_⟩⟩
    rw [c2]
    exact upd_same
  rw [if_neg c2] at hQ2
  refine itF (by simp [inV, L2.eqV, Ne.symm c1, Ne.symm c2]) ?_
  exact ⟨_, rfl, _, rfl, a, r, wd, rfl, hW2, hQ2⟩
end
end L2.Ta

set_option maxHeartbeats 4000000
/-! read_condition -/
namespace L2.Ta
open PySem PySem.Spec PyProof.Rows L2 TL
section
variable {P : Program} {w : World} {K : PySem.W.Frag} {mg : Str → Option Value} {base : Heap}
theorem sc_read_condition : FnScope ["words", "depth", "word", "name", "count", "parts", "_"] ["words", "depth"] (defScope (top 55)) := ⟨rfl, rfl, rfl, by decide +kernel, rfl, by decide +kernel, by decide +kernel⟩
theorem rc0 (T : Tx w K mg) : Ok1 P w K mg base (L2.CX P w) 6 "read_condition" ["words", "depth"] (spRC K 0) := by
  have sc := sc_read_condition
  refine ok1_of T.glo (T.def_ 41) sc (fun vs H Q E h => ?_) (fun _ _ _ _ _ _ us hl => match us, hl with | [_, _], _ => rfl) (fun cdv A outer s H vs Q E hr h => ?_)
  · obtain ⟨a, rem, rfl, _⟩ := h
    rfl
  have tk : Takes (cxOf (L2.CX P w) P w K mg base ["words", "depth", "word", "name", "count", "parts", "_"] "read_condition" (defScope (top 55)) (He.ga K "read_condition") cdv A outer s H E) (fun cls d _ H => E cls d H) := takes_of rfl rfl rfl rfl
  have hrE := hr.mono (show 3 ≤ 5 by decide)
  refine ⟨_, (pss_cons (ps_if (pt_cmpR op_eq (pv 1) pe_int (nomark _)) (pss_one (ps_err (ok_BadLine T) hrE rfl tk (pa_cons (pe_fld (pv 0) rfl) pa_nil))) pss_nil) pss_never), ?_⟩
  obtain ⟨a, rem, rfl, hW, hQ⟩ := h
  refine ⟨_, rfl, rfl, _, rfl, ?_⟩
  refine itT (by decide) ?_
  exact rd_place T.wCls T.nPlace rfl hW hQ
theorem rcS (T : Tx w K mg) (d : Nat) (ih : Ok1 P w K mg base (L2.CX P w) (6 + d) "read_condition" ["words", "depth"] (spRC K d)) : Ok1 P w K mg base (L2.CX P w) (6 + d + 1) "read_condition" ["words", "depth"] (spRC K (d + 1)) := by
  have sc := sc_read_condition
  have F_Words_take := ok_Words_take (P := P) (base := base) T
  have F_Words_marked := ok_Words_marked (P := P) (base := base) T
  have F_Words_number := ok_Words_number (P := P) (base := base) T
  have F_read_condition := ih
  obtain ⟨tn, m_NODES_MOST⟩ := T.int (x := "NODES_MOST") (i := 20)
  refine ok1_of T.glo (T.def_ 41) sc (fun vs H Q E h => ?_) (fun _ _ _ _ _ _ us hl => match us, hl with | [_, _], _ => rfl) (fun cdv A outer s H vs Q E hr h => ?_)
  · obtain ⟨a, rem, rfl, _⟩ := h
    rfl
  have tk : Takes (cxOf (L2.CX P w) P w K mg base ["words", "depth", "word", "name", "count", "parts", "_"] "read_condition" (defScope (top 55)) (He.ga K "read_condition") cdv A outer s H E) (fun cls d _ H => E cls d H) := takes_of rfl rfl rfl rfl
  have hrE := hr.mono (show 3 ≤ 6 + d by omega)
  have hr_Words_take := hr.mono (show 4 ≤ 6 + d by omega)
  have hr_Words_marked := hr.mono (show 5 ≤ 6 + d by omega)
  have hr_Words_number := hr_Words_marked
  have hr_read_condition := hr
  refine ⟨_, (pss_cons (ps_if (pt_cmpR op_eq (pv 1) pe_int (nomark _)) (pss_one (ps_err (ok_BadLine T) hrE rfl tk (pa_cons (pe_fld (pv 0) rfl) pa_nil))) pss_nil)
    (pss_cons (ps_set (i := 2) sc.nd rfl (by first | exact Or.inl rfl | exact Or.inr rfl) (pe_m0 F_Words_take (pv 0) hr_Words_take (passes_call tk fun _ _ _ _ h => h)))
    (pss_cons (ps_if (pt_cmpR op_in_seq (pv 2) (pe_tup (pa_cons pe_str (pa_cons pe_str pa_nil))) (by rfl)) (pss_one (ps_ret (pe_tup (pa_cons (pv 2) pa_nil)))) pss_nil)
    (pss_cons (ps_if (pt_cmpR op_eq (pv 2) pe_str (nomark _)) (pss_cons (ps_set (i := 3) sc.nd rfl (by first | exact Or.inl rfl | exact Or.inr rfl) (pe_m0 F_Words_take (pv 0) hr_Words_take (passes_call tk fun _ _ _ _ h => h)))
    (pss_one (ps_ret (pe_tup (pa_cons (pv 2) (pa_cons (pv 3) (pa_cons (pe_m0 F_Words_marked (pv 0) hr_Words_marked (passes_call tk fun _ _ _ _ h => h)) pa_nil))))))) pss_nil)
    (pss_cons (ps_if (pt_cmpR op_eq (pv 2) pe_str (nomark _)) (pss_cons (ps_set (i := 3) sc.nd rfl (by first | exact Or.inl rfl | exact Or.inr rfl) (pe_m0 F_Words_take (pv 0) hr_Words_take (passes_call tk fun _ _ _ _ h => h)))
    (pss_one (ps_ret (pe_tup (pa_cons (pv 2) (pa_cons (pv 3) (pa_cons (pe_m0 F_Words_take (pv 0) hr_Words_take (passes_call tk fun _ _ _ _ h => h)) pa_nil))))))) pss_nil)
    (pss_cons (ps_if (pt_cmpR op_eq (pv 2) pe_str (nomark _)) (pss_one (ps_ret (pe_tup (pa_cons (pv 2) (pa_cons (pe_m0 F_Words_take (pv 0) hr_Words_take (passes_call tk fun _ _ _ _ h => h)) pa_nil))))) pss_nil)
    (pss_cons (ps_set (i := 4) sc.nd rfl (by first | exact Or.inl rfl | exact Or.inr rfl) pe_int)
    (pss_cons (ps_if (pt_cmpR op_in_seq (pv 2) (pe_tup (pa_cons pe_str (pa_cons pe_str pa_nil))) (by rfl)) (pss_one (ps_set (i := 4) sc.nd rfl (by first | exact Or.inl rfl | exact Or.inr rfl) (pe_m F_Words_number (pv 0) hr_Words_number (passes_call tk fun _ _ _ _ h => h) (pa_cons (pe_glob (v := .int 20) (by rfl) m_NODES_MOST ⟨_, rfl⟩) pa_nil)))) (pss_one (ps_if (pt_cmpR op_ne (pv 2) pe_str (nomark _)) (pss_one (ps_err (ok_BadLine T) hrE rfl tk (pa_cons (pe_fld (pv 0) rfl) pa_nil))) pss_nil)))
    (pss_cons (ps_setLcX (i := 5) (own := [("_", 6)]) (g := gName 6) (W := E) rfl rfl tk rfl sc.nd rfl rfl (sw_true rfl rfl rfl (by decide +kernel)) (pi_range1 (by rfl) T.free (pa_cons (pv 4) pa_nil)) (blkOk_by (own := [("_", 6)]) (N := ["words", "depth", "word", "name", "count", "parts", "_"]) (sc := defScope (top 55)) (by decide +kernel)) (fun _ _ _ _ _ => pg_name (i := 6) sc.nd rfl (Or.inl rfl)) (fun _ _ _ _ _ => pts_nil) (fun _ _ _ _ _ => (pe_f F_read_condition hr_read_condition passes_blk (pa_cons (pv 0) (pa_cons (pe_op op_sub (pv 1) pe_int) pa_nil)))))
    (pss_one (ps_ret (pe_op op_catT (pe_tup (pa_cons (pv 2) pa_nil)) (pe_callTy call_tuple_of (by rfl) T.free (by decide +kernel) (pa_cons (pv 5) pa_nil)))))))))))))), ?_⟩
  obtain ⟨a, rem, rfl, hW, hQ⟩ := h
  refine ⟨_, rfl, rfl, _, rfl, ?_⟩
  refine itF (decide_eq_false fun z => by have z2 := V.int.inj z; omega) ?_
  rw [pcond] at hQ
  refine rd_take rfl hW (hQ.bind.imp fun wd r H1 e k1 hW1 hQ => ?_)
  -- word in ("always", "never")
  refine ⟨_, rfl, by show 2 ≤ sizeLine; decide, fun p0 np0 => ?_⟩
  have hW2 := hW1.new (o := .tup [.str "always", .str "never"]) np0
  have hQ2 := hQ.keep (KeepW.new (o := .tup [.str "always", .str "never"]) np0)
  clear hQ hW1
  refine ⟨p0, _, rfl, .inr (SqT.of upd_same), rfl, rfl, _, rfl, ?_⟩
  generalize upd H1 p0 (.tup [.str "always", .str "never"]) = H2 at hW2 hQ2
  by_cases c1 : wd = "always"
  · rw [if_pos c1] at hQ2
    refine itT (by rw [c1]; decide +kernel) ?_
    refine ⟨_, rfl, by show 1 ≤ sizeLine; decide, fun p np => hQ2.tup hW2 np ?_⟩
    rw [CondAt]
    exact ⟨p, rfl, by rw [c1]; exact upd_same⟩
  rw [if_neg c1] at hQ2
  by_cases c2 : wd = "never"
  · rw [if_pos c2] at hQ2
    refine itT (by rw [c2]; decide +kernel) ?_
    refine ⟨_, rfl, by show 1 ≤ sizeLine; decide, fun p np => hQ2.tup hW2 np ?_⟩
    rw [CondAt]
    exact ⟨p, rfl, by rw [c2]; exact upd_same⟩
  rw [if_neg c2] at hQ2
  refine itF (by simp [inV, L2.eqV, Ne.symm c1, Ne.symm c2]) ?_
  -- word == "matches"
  refine ⟨_, rfl, rfl, _, rfl, ?_⟩
  by_cases c3 : wd = "matches"
  · rw [if_pos c3] at hQ2
    refine itT (by simp [c3]) ?_
    refine rd_take rfl hW2 (hQ2.bind.imp fun n r3 H3 e3 k3 hW3 hQ3 => ?_)
    refine ⟨_, rfl, _, rfl, rd_mark rfl hW3 (hQ3.bind.imp fun t r4 H4 e4 k4 hW4 hQ4 => ?_)⟩
    refine ⟨by show 3 ≤ sizeLine; decide, fun p np => hQ4.tup hW4 np ?_⟩
    rw [CondAt]
    exact ⟨p, rfl, by rw [c3]; exact upd_same⟩
  rw [if_neg c3] at hQ2
  refine itF (by simp [c3]) ?_
  refine ⟨_, rfl, rfl, _, rfl, ?_⟩
  by_cases c4 : wd = "same"
  · rw [if_pos c4] at hQ2
    refine itT (by simp [c4]) ?_
    refine rd_take rfl hW2 (hQ2.bind.imp fun n r3 H3 e3 k3 hW3 hQ3 => ?_)
    refine ⟨_, rfl, _, rfl, rd_take rfl hW3 (hQ3.bind.imp fun t r4 H4 e4 k4 hW4 hQ4 => ?_)⟩
    refine ⟨by show 3 ≤ sizeLine; decide, fun p np => hQ4.tup hW4 np ?_⟩
    rw [CondAt]
    exact ⟨p, rfl, by rw [c4]; exact upd_same⟩
  rw [if_neg c4] at hQ2
  refine itF (by simp [c4]) ?_
  refine ⟨_, rfl, rfl, _, rfl, ?_⟩
  by_cases c5 : wd = "empty"
  · rw [if_pos c5] at hQ2
    refine itT (by simp [c5]) ?_
    refine ⟨_, rfl, rd_take rfl hW2 (hQ2.bind.imp fun n r3 H3 e3 k3 hW3 hQ3 => ?_)⟩
    refine ⟨by show 2 ≤ sizeLine; decide, fun p np => hQ3.tup hW3 np ?_⟩
    rw [CondAt]
    exact ⟨p, rfl, by rw [c5]; exact upd_same⟩
  rw [if_neg c5] at hQ2
  refine itF (by simp [c5]) ?_
  -- count = 1; word in ("and", "or")
  refine ⟨_, rfl, by show 2 ≤ sizeLine; decide, fun p1 np1 => ?_⟩
  have hW5 := hW2.new (o := .tup [.str "and", .str "or"]) np1
  have hQ5 := hQ2.keep (KeepW.new (o := .tup [.str "and", .str "or"]) np1)
  clear hQ2 hW2
  refine ⟨p1, _, rfl, .inr (SqT.of upd_same), rfl, rfl, _, rfl, ?_⟩
  generalize upd H2 p1 (.tup [.str "and", .str "or"]) = H5 at hW5 hQ5
  -- the element of the comprehension
  have elt : ∀ (k : Nat) (i : Nat) H1 rem1 (Q1 : VK), WRem K H1 a rem1 → (Out K a H1 E (pcond d rem1) fun x _ H' => ∀ v, CondAt H' x v → Q1 v H') →
      tCall (spRC K d) [] E (tCons (tVar 0) (tCons (tOp (rI0 fun i j => V.int (i - j)) (tVar 1) (tC (.int 1))) tNil)) ((wipe [some (.ref a.a), some (.int ((d + 1 : Nat) : Int)), some (.str wd), none, some (.int (k : Int)), none, none] [6]).set 6 (some (.int (0 + (i : Int))))) H1 Q1 := fun k i H1 rem1 Q1 hw hq => by
    refine ⟨_, rfl, _, rfl, _, _, rfl, rfl, a, rem1, ?_, hw, hq⟩
    have e : ((d + 1 : Nat) : Int) - 1 = (d : Int) := by omega
    show [V.ref a.a, V.int (((d + 1 : Nat) : Int) - 1)] = _
    rw [e]
  by_cases c6 : wd = "and" ∨ wd = "or"
  · have c6' : ∃ b, wd = bw b := by
      rcases c6 with z | z
      · exact ⟨true, z⟩
      · exact ⟨false, z⟩
    obtain ⟨b, hb⟩ := c6'
    have hQ6 : Out K a H5 E (pbind (pnum 20) (fun k => pbind (prep (pcond d) k) fun ps => pret (Cond.many b ps)) r) fun c _ H' => ∀ v, CondAt H' c v → Q v H' := by
      cases b with
      | true =>
        rw [if_pos (show wd = "and" from hb)] at hQ5
        exact hQ5
      | false =>
        rw [if_neg (show ¬ wd = "and" by rw [hb]; decide +kernel), if_pos (show wd = "or" from hb)] at hQ5
        exact hQ5
    refine itT (by cases b <;> (rw [hb]; decide +kernel)) ?_
    refine rd_num (m := 20) rfl hW5 (by decide) (hQ6.bind.imp fun k r6 H6 e6 k6 hW6 hQ6 => ?_)
    dsimp only [gName, tSeq, tAsg]
    show tLc (iRng1 (tCons (tVar 4) tNil)) (gName 6) tYes _ [6] [some (.ref a.a), some (.int ((d + 1 : Nat) : Int)), some (.str wd), none, some (.int (k : Int)), none, none] H6 _
    refine rep_lc (m := pcond d) (R := CondAt) (a := a) (rem := r6) (n := k) (E := E) (fun _ _ _ _ t h => CondAt.keep t h) (by have := (num_some e6).2; omega) (fun Q' h => ⟨_, rfl, h⟩) (fun _ => rfl) (elt k) hW6 (hQ6.bind.imp fun ps r7 H7 e7 k7 hW7 hQ7 D us hD hp => ?_)
    -- return (word,) + tuple(parts)
    refine ⟨_, rfl, by show 1 ≤ sizeLine; decide, fun p2 np2 => ?_⟩
    have hD2 : upd H7 p2 (.tup [.str wd]) D = some (.lst us) := by rw [upd_ne (ne_of_none hD np2)]; exact hD
    refine ⟨_, rfl, D, us, rfl, .inl ⟨SqL.of hD2, fun p3 np3 => ?_⟩⟩
    have h2 : upd (upd H7 p2 (.tup [.str wd])) p3 (.tup us) p2 = some (.tup [.str wd]) := by rw [upd_ne (ne_of_none upd_same np3)]; exact upd_same
    have lps : ps.length = k := by
      obtain ⟨_, z, _⟩ := rep_some (fun ws a r => cond_some d ws a r) k _ _ _ e7
      exact z
    have lus : us.length ≤ 20 := by
      have := (num_some e6).2
      have z := Paired.length hp
      omega
    have hW8 := (hW7.new (o := .tup [.str wd]) np2).new (o := .tup us) np3
    have hQ8 := (hQ7.keep (KeepW.new (o := .tup [.str wd]) np2)).keep (KeepW.new (o := .tup us) np3)
    have hp8 : Paired (CondAt (upd (upd H7 p2 (.tup [.str wd])) p3 (.tup us))) ps us := Paired.keepR (fun _ _ z => CondAt.keep (TupK.new np3) (CondAt.keep (TupK.new np2) z)) hp
    refine ⟨p2, p3, [.str wd], us, rfl, rfl, SqT.of h2, SqT.of upd_same, by simp, by rw [sizeLine_eq]; simp; omega, fun e0 => ?_, fun ne p4 np4 => ?_⟩
    · subst e0
      refine hQ8.ret hW8 _ ?_
      rw [CondAt]
      exact ⟨[], ⟨p2, rfl, by rw [h2, hb]⟩, condsAt_of hp8⟩
    · refine hQ8.tup hW8 np4 ?_
      rw [CondAt]
      exact ⟨us, ⟨p4, rfl, by rw [upd_same, hb]; rfl⟩, condsAt_of (Paired.keepR (fun _ _ z => CondAt.keep (TupK.new np4) z) hp8)⟩
  · have c61 : ¬ wd = "and" := fun z => c6 (.inl z)
    have c62 : ¬ wd = "or" := fun z => c6 (.inr z)
    rw [if_neg c61, if_neg c62] at hQ5
    refine itF (by simp [inV, L2.eqV, Ne.symm c61, Ne.symm c62]) ?_
    refine ⟨_, rfl, rfl, _, rfl, ?_⟩
    by_cases c7 : wd = "not"
    · rw [if_pos c7] at hQ5
      refine itF (by simp [c7]) ?_
      have hQ6 : Out K a H5 E (prep (pcond d) 1 r) fun xs r' H' => ∃ c, xs = [c] ∧ Out K a H' E (pret (Cond.not c) r') fun c _ H' => ∀ v, CondAt H' c v → Q v H' := by
        have z := hQ5.bind
        show Out K a H5 E (pbind (pcond d) (fun a => pbind (prep (pcond d) 0) fun r => pret (a :: r)) r) _
        unfold pbind
        cases ez : pcond d r with
        | none => rw [ez] at z; exact z
        | some q =>
          obtain ⟨c, r8⟩ := q
          rw [ez] at z
          exact fun H' k w => ⟨c, rfl, z H' k w⟩
      dsimp only [tNext, gName, tSeq, tAsg]
      show tLc (iRng1 (tCons (tVar 4) tNil)) (gName 6) tYes _ [6] [some (.ref a.a), some (.int ((d + 1 : Nat) : Int)), some (.str wd), none, some (.int ((1 : Nat) : Int)), none, none] H5 _
      refine rep_lc (m := pcond d) (R := CondAt) (a := a) (rem := r) (n := 1) (E := E) (fun _ _ _ _ t h => CondAt.keep t h) (by decide) (fun Q' h => ⟨_, rfl, h⟩) (fun _ => rfl) (elt 1) hW5 (hQ6.imp fun ps r7 H7 e7 k7 hW7 ⟨c, ec, hQ7⟩ D us hD hp => ?_)
      subst ec
      refine ⟨_, rfl, by show 1 ≤ sizeLine; decide, fun p2 np2 => ?_⟩
      have hD2 : upd H7 p2 (.tup [.str wd]) D = some (.lst us) := by rw [upd_ne (ne_of_none hD np2)]; exact hD
      refine ⟨_, rfl, D, us, rfl, .inl ⟨SqL.of hD2, fun p3 np3 => ?_⟩⟩
      have h2 : upd (upd H7 p2 (.tup [.str wd])) p3 (.tup us) p2 = some (.tup [.str wd]) := by rw [upd_ne (ne_of_none upd_same np3)]; exact upd_same
      have hW8 := (hW7.new (o := .tup [.str wd]) np2).new (o := .tup us) np3
      have hQ8 := (hQ7.keep (KeepW.new (o := .tup [.str wd]) np2)).keep (KeepW.new (o := .tup us) np3)
      have hp8 : Paired (CondAt (upd (upd H7 p2 (.tup [.str wd])) p3 (.tup us))) [c] us := Paired.keepR (fun _ _ z => CondAt.keep (TupK.new np3) (CondAt.keep (TupK.new np2) z)) hp
      cases hp8 with
      | @cons _ u _ us2 hu hr2 =>
        cases hr2
        refine ⟨p2, p3, [.str wd], [u], rfl, rfl, SqT.of h2, SqT.of upd_same, by simp, by show 2 ≤ sizeLine; decide, fun e0 => (by cases e0), fun ne p4 np4 => ?_⟩
        refine hQ8.tup hW8 np4 ?_
        rw [CondAt]
        exact ⟨u, ⟨p4, rfl, by rw [upd_same, c7]; rfl⟩, CondAt.keep (TupK.new np4) hu⟩
    · rw [if_neg c7] at hQ5
      refine itT (by simp [c7]) ?_
      exact rd_place T.wCls T.nPlace rfl hW5 hQ5.fail
theorem ok_read_condition (T : Tx w K mg) : ∀ d : Nat, Ok1 P w K mg base (L2.CX P w) (6 + d) "read_condition" ["words", "depth"] (spRC K d)
  | 0 => rc0 T
  | d + 1 => rcS T d (ok_read_condition T d)
end
end L2.Ta

set_option maxHeartbeats 4000000
/-! parse_rule -/
namespace L2.Ta
open PySem PySem.Spec PyProof.Rows L2 TL
/-- what an option promises -/
def Opt {α : Type} (x : Option α) (no : Prop) (yes : α → Prop) : Prop := match x with
  | none => no
  | some a => yes a
theorem Opt.bind {α β : Type} {x : Option α} {f : α → Option β} {no : Prop} {yes : β → Prop} (h : Opt (x.bind f) no yes) : Opt x no fun a => Opt (f a) no yes := by
  cases x with
  | none => exact h
  | some a => exact h
theorem Opt.map {α β : Type} {x : Option α} {f : α → β} {no : Prop} {yes : β → Prop} (h : Opt (x.map f) no yes) : Opt x no fun a => yes (f a) := by
  cases x with
  | none => exact h
  | some a => exact h
theorem Opt.mono {α : Type} {x : Option α} {no no' : Prop} {yes yes' : α → Prop} (h : Opt x no yes) (f : no → no') (g : ∀ a, x = some a → yes a → yes' a) : Opt x no' yes' := by
  cases x with
  | none => exact f h
  | some a => exact g a rfl h
def spPR (K : PySem.W.Frag) : Sp := fun vs H Q E => ∃ (line : Str) (pl : V) (n : Nat), vs = [.str line, pl, .int n] ∧ line.length + 2 ≤ sizeLine ∧ n ≤ 1000000 ∧
  Opt (prule n (Txt.split line spc)) (RE K H E) fun p => ∀ v H', KeepW H H' → RuleAt H' p.1 v → Q v H'
theorem if_none {D : Ends} {σ : L2.St} {H : Hp} {b : Bool} {i : Nat} {v : V} (hv : σ = σ.set i (some v)) (h : ∀ u, (b = true → u = .non) → (b = false → u = v) → D.nx (σ.set i (some u)) H) : if b = true then tAsg (tC .non) (gName i) D σ H else tNext D σ H := by
  cases b with
  | true => exact h .non (fun _ => rfl) (fun z => nomatch z)
  | false =>
    have z := h v (fun z => nomatch z) (fun _ => rfl)
    rw [← hv] at z
    exact z
section
variable {P : Program} {w : World} {K : PySem.W.Frag} {mg : Str → Option Value} {base : Heap}
theorem sc_parse_rule : FnScope ["line", "place", "registers", "words", "station", "request", "condition", "answer", "_", "turn", "following"] ["line", "place", "registers"] (defScope (top 58)) := ⟨rfl, rfl, rfl, by decide +kernel, rfl, by decide +kernel, by decide +kernel⟩
theorem ok_parse_rule (T : Tx w K mg) : Ok1 P w K mg base (L2.CX P w) 13 "parse_rule" ["line", "place", "registers"] (spPR K) := by
  have sc := sc_parse_rule
  have F_Words___init__ := ok_Words_init (P := P) (base := base) T
  have F_Words_take := ok_Words_take (P := P) (base := base) T
  have F_Words_expect := ok_Words_expect (P := P) (base := base) T
  have F_Words_number := ok_Words_number (P := P) (base := base) T
  have F_Words_rest := ok_Words_rest (P := P) (base := base) T
  have F_read_condition := ok_read_condition (P := P) (base := base) T 6
  have F_read_source := ok_read_source (P := P) (base := base) T
  have F_read_line := ok_read_line (P := P) (base := base) T
  obtain ⟨_, m_SOURCES_MOST⟩ := T.int (x := "SOURCES_MOST") (i := 4)
  obtain ⟨_, m_DEPTH_MOST⟩ := T.int (x := "DEPTH_MOST") (i := 6)
  refine ok1_of T.glo (T.def_ 44) sc (fun vs H Q E h => ?_) (fun _ _ _ _ _ _ us hl => match us, hl with | [_, _, _], _ => rfl) (fun cdv A outer s H vs Q E hr h => ?_)
  · obtain ⟨line, pl, n, rfl, _⟩ := h
    rfl
  have tk : Takes (cxOf (L2.CX P w) P w K mg base ["line", "place", "registers", "words", "station", "request", "condition", "answer", "_", "turn", "following"] "parse_rule" (defScope (top 58)) (He.ga K "parse_rule") cdv A outer s H E) (fun cls d _ H => E cls d H) := takes_of rfl rfl rfl rfl
  have hrE := hr.mono (show 3 ≤ 12 by decide)
  have hr_Words___init__ := hr.mono (show 2 ≤ 12 by decide)
  have hr_Words_take := hr.mono (show 4 ≤ 12 by decide)
  have hr_Words_expect := hr.mono (show 5 ≤ 12 by decide)
  have hr_Words_number := hr.mono (show 5 ≤ 12 by decide)
  have hr_Words_rest := hr.mono (show 1 ≤ 12 by decide)
  have hr_read_condition := hr
  have hr_read_source := hr.mono (show 6 ≤ 12 by decide)
  have hr_read_line := hr.mono (show 7 ≤ 12 by decide)
  refine ⟨_, (pss_cons (ps_set (i := 3) sc.nd rfl (by first | exact Or.inl rfl | exact Or.inr rfl) (pe_mk F_Words___init__ hr_Words___init__ pass0 (pa_cons (pv 0) (pa_cons (pv 1) pa_nil))))
    (pss_cons (ps_expr (pe_m F_Words_expect (pv 3) hr_Words_expect (passes_call tk fun _ _ _ _ h => h) (pa_cons pe_str pa_nil)))
    (pss_cons (ps_set (i := 4) sc.nd rfl (by first | exact Or.inl rfl | exact Or.inr rfl) (pe_m0 F_Words_take (pv 3) hr_Words_take (passes_call tk fun _ _ _ _ h => h)))
    (pss_cons (ps_if (pt_cmpR op_eq (pv 4) pe_str (nomark _)) (pss_one (ps_set (i := 4) sc.nd rfl (by first | exact Or.inl rfl | exact Or.inr rfl) pe_non)) pss_nil)
    (pss_cons (ps_set (i := 5) sc.nd rfl (by first | exact Or.inl rfl | exact Or.inr rfl) (pe_m0 F_Words_take (pv 3) hr_Words_take (passes_call tk fun _ _ _ _ h => h)))
    (pss_cons (ps_set (i := 6) sc.nd rfl (by first | exact Or.inl rfl | exact Or.inr rfl) (pe_f F_read_condition hr_read_condition (passes_call tk fun _ _ _ _ h => h) (pa_cons (pv 3) (pa_cons (pe_glob (v := .int 6) (by rfl) m_DEPTH_MOST ⟨_, rfl⟩) pa_nil))))
    (pss_cons (ps_expr (pe_m F_Words_expect (pv 3) hr_Words_expect (passes_call tk fun _ _ _ _ h => h) (pa_cons pe_str pa_nil)))
    (pss_cons (ps_set (i := 7) sc.nd rfl (by first | exact Or.inl rfl | exact Or.inr rfl) (pe_lst (pa_cons (pe_m0 F_Words_take (pv 3) hr_Words_take (passes_call tk fun _ _ _ _ h => h)) pa_nil)))
    (pss_cons (ps_for (passes_of rfl) rfl (pi_range1 (by rfl) T.free (pa_cons (pe_m F_Words_number (pv 3) hr_Words_number (passes_call tk fun _ _ _ _ h => h) (pa_cons (pe_glob (v := .int 4) (by rfl) m_SOURCES_MOST ⟨_, rfl⟩) pa_nil)) pa_nil)) (pg_name (i := 8) sc.nd rfl (by first | exact Or.inl rfl | exact Or.inr rfl)) (pss_one (ps_expr (pe_bm PySem.F.plainAttrs_list PySem.F.slot_list_append PySem.F.type_list_append mt_append (pv 7) (pa_cons (pe_f F_read_source hr_read_source (passes_call tk fun _ _ _ _ h => h) (pa_cons (pv 3) (pa_cons (pe_m0 F_Words_take (pv 3) hr_Words_take (passes_call tk fun _ _ _ _ h => h)) pa_nil))) pa_nil)))))
    (pss_cons (ps_expr (pe_m F_Words_expect (pv 3) hr_Words_expect (passes_call tk fun _ _ _ _ h => h) (pa_cons pe_str pa_nil)))
    (pss_cons (ps_setLcX (i := 9) (own := [("_", 8)]) (g := gName 8) (W := E) rfl rfl tk rfl sc.nd rfl rfl (sw_true rfl rfl rfl (by decide +kernel)) (pi_range1 (by rfl) T.free (pa_cons (pv 2) pa_nil)) (blkOk_by (own := [("_", 8)]) (N := ["line", "place", "registers", "words", "station", "request", "condition", "answer", "_", "turn", "following"]) (sc := defScope (top 58)) (by decide +kernel)) (fun _ _ _ _ _ => pg_name (i := 8) sc.nd rfl (Or.inl rfl)) (fun _ _ _ _ _ => pts_nil) (fun _ _ _ _ _ => (pe_f F_read_line hr_read_line passes_blk (pa_cons (pv 3) pa_nil))))
    (pss_cons (ps_expr (pe_m F_Words_expect (pv 3) hr_Words_expect (passes_call tk fun _ _ _ _ h => h) (pa_cons pe_str pa_nil)))
    (pss_cons (ps_set (i := 10) sc.nd rfl (by first | exact Or.inl rfl | exact Or.inr rfl) (pe_m0 F_Words_take (pv 3) hr_Words_take (passes_call tk fun _ _ _ _ h => h)))
    (pss_cons (ps_if (pt_cmpR op_gt (pe_callB call_len_seq (by rfl) T.free PySem.boot_len (pa_cons (pe_m0 F_Words_rest (pv 3) hr_Words_rest pass0) pa_nil)) pe_int (nomark _)) (pss_one (ps_err (ok_BadLine T) hrE rfl tk (pa_cons (pv 1) pa_nil))) pss_nil)
    (pss_one (ps_ret (pe_tup (pa_cons (pv 4) (pa_cons (pv 5) (pa_cons (pv 6) (pa_cons (pe_callTy call_tuple_of (by rfl) T.free (by decide +kernel) (pa_cons (pv 7) pa_nil)) (pa_cons (pe_callTy call_tuple_of (by rfl) T.free (by decide +kernel) (pa_cons (pv 9) pa_nil)) (pa_cons (pv 10) pa_nil))))))))))))))))))))))), ?_⟩
  obtain ⟨line, pl, n, rfl, hln, hn, hQ0⟩ := h
  refine ⟨_, rfl, _, rfl, fun x dx hx hd ne => ⟨x, dx, line, pl, rfl, upd_same, hln, fun H1 a er kk hW => ⟨rfl, ?_⟩⟩⟩
  subst er
  have kH : KeepW H H1 := ((KeepW.new hd).trans (KeepW.new (by rw [upd_ne (Ne.symm ne)]; exact hx))).trans kk
  clear kk hx hd
  have hQ : Out K a H1 E (prule n (Txt.split line spc)) (fun R _ H' => ∀ v, RuleAt H' R v → Q v H') := by
    unfold Out
    cases e : prule n (Txt.split line spc) with
    | none => rw [e] at hQ0; exact RE.mono hQ0 kH
    | some p => rw [e] at hQ0; exact fun H' k _ v hv => hQ0 v H' (kH.trans k) hv
  clear hQ0
  unfold prule at hQ
  refine rd_exp (x := "rule") rfl (fun _ z => z) hW (hQ.bind.imp fun _ r2 H2 e2 k2 hW2 hQ2 => ?_)
  refine rd_take rfl hW2 (hQ2.bind.imp fun st r3 H3 e3 k3 hW3 hQ3 => ?_)
  refine ⟨_, rfl, rfl, _, rfl, ?_⟩
  refine if_none (v := .str st) rfl (fun sv b1 b2 => ?_)
  have esv : sv = stV (pst st) := by
    by_cases c : st = "-"
    · unfold pst
      rw [if_pos c]
      exact b1 (decide_eq_true (congrArg V.str c))
    · unfold pst
      rw [if_neg c]
      exact b2 (decide_eq_false fun z => c (V.str.inj z))
  clear b1 b2
  subst esv
  refine rd_take rfl hW3 (hQ3.bind.imp fun kd r4 H4 e4 k4 hW4 hQ4 => ?_)
  refine ⟨_, rfl, a, r4, rfl, hW4, hQ4.bind.imp fun c r5 H5 e5 k5 hW5 hQ5 cv hcv => ?_⟩
  refine rd_exp (x := "answer") rfl (fun _ z => z) hW5 (hQ5.bind.imp fun _ r6 H6 e6 k6 hW6 hQ6 => ?_)
  refine rd_take rfl hW6 (hQ6.bind.imp fun aw r7 H7 e7 k7 hW7 hQ7 => ?_)
  refine ⟨by show 1 ≤ sizeLine; decide, fun an nan => ?_⟩
  have kA : KeepW H7 (upd H7 an (.lst [.str aw])) := KeepW.new nan
  have hW8 := hW7.new (o := .lst [.str aw]) nan
  have hc8 : CondAt (upd H7 an (.lst [.str aw])) c cv := CondAt.keep ((k6.trans k7).trans kA).tup hcv
  have ha8 : upd H7 an (.lst [.str aw]) an = some (.lst [.str aw]) := upd_same
  have ne8 := hW7.ne nan
  clear hQ hQ2 hQ3 hQ4 hQ5 hQ6 hW hW2 hW3 hW4 hW5 hW6 k6 k7 hcv e2 e3 e4 e5 e6 e7
  refine rd_num (m := 4) rfl hW8 (by decide) ((hQ7.bind0.keep kA).imp fun k r9 H9 e9 k9 hW9 hQ9 => ?_)
  have hc9 := hc8.keep k9.tup
  have ha9 := k9 an _ ha8 rfl
  have hk := (num_some e9).2
  have kB := kA.trans k9
  clear hQ7 hW8 hW7 hc8 ha8 e9 k9 kA
  refine ⟨(k : Int), rfl, by omega, by omega, ?_⟩
  refine for_range (lo := 0) (n := (k : Int).toNat) (fun i σ H' => ∃ (kv : Option V) (done : List Ln) (us : List V) (rem' : List Str), σ = [some (.str line), some pl, some (.int n), some (.ref a.a), some (stV (pst st)), some (.str kd), some cv, some (.ref an), kv, none, none] ∧
    done.length = i ∧ KeepW H7 H' ∧ CondAt H' c cv ∧ H' an = some (.lst (.str aw :: us)) ∧ Paired (LnAt H') done us ∧ WRem K H' a rem' ∧
    Out K a H7 E (prep (pbind ptake psrc) (k - i) rem') fun xs r _ => Out K a H7 E (pbind (pexp "turn") (fun _ => pbind (prep pline n) fun ls => pbind (pexp "next") fun _ => pbind ptake fun fo => fun r =>
      if r = [] then some (⟨pst st, kd, c, aw, done ++ xs, ls, fo⟩, []) else none) r) fun R _ H' => ∀ v, RuleAt H' R v → Q v H')
    ⟨none, [], [], r9, rfl, rfl, kB, hc9, ha9, .nil, hW9, hQ9.bind0⟩ (fun i σ H' hi ⟨kv, done, us, rem', es, e1, k1, c1, h1, pr, w1, q1⟩ => ?_) (fun σ H' ⟨kv, done, us, rem', es, e1, k1, c1, h1, pr, w1, q1⟩ => ?_)
  · subst es
    have hi2 : i < k := by omega
    have en : k - i = (k - (i + 1)) + 1 := by omega
    rw [en] at q1
    refine ⟨_, rfl, .inl ⟨rfl, _, SqL.of h1⟩, _, rfl, ?_⟩
    have q2 := Out.bind0 (m := pbind ptake psrc) (f := fun a => pbind (prep (pbind ptake psrc) (k - (i + 1))) fun r => pret (a :: r)) q1
    refine rd_take rfl w1 ((q2.bind0.keep k1).imp fun wd r4 H4 e4 k4 w4 q4 => ?_)
    refine ⟨a, r4, wd, rfl, w4, (q4.keep (k1.trans k4)).imp fun l r5 H5 e5 k5 w5 q5 lv hlv => ?_⟩
    have h5 := k5 an _ (k4 an _ h1 rfl) rfl
    have lu : us.length = i := by rw [← e1]; exact (Paired.length pr).symm
    refine ⟨an, _, lv, rfl, rfl, h5, by rw [sizeLine_eq]; simp; omega, ?_⟩
    have t6 : TupK H5 (upd H5 an (.lst (.str aw :: us ++ [lv]))) := TupK.lst h5
    have t46 := (k4.trans k5).tup.trans t6
    refine ⟨_, done ++ [l], us ++ [lv], r5, rfl, by simp [e1], ((k1.trans k4).trans k5).mut nan, c1.keep t46, upd_same, Paired.snoc (LnAt.keep t6 hlv) (Paired.keepR (fun _ _ => LnAt.keep t46) pr), w5.set ne8.1 ne8.2, ?_⟩
    refine Out.imp (Out.bind0 q5) fun xs r2 H6 e6 k6 w6 q6 => ?_
    have z := q6 H6 k6 w6
    rw [List.append_assoc]
    exact z
  · subst es
    have en : k - (k : Int).toNat = 0 := by omega
    rw [en] at q1
    have q2 := (q1 H' k1 w1).keep k1
    rw [List.append_nil] at q2
    clear q1
    refine rd_exp (x := "turn") rfl (fun _ z => z) w1 (q2.bind.imp fun _ r2 H2 e2 k2 w2 q2 => ?_)
    dsimp only [tSeq, tAsg]
    show tLc (iRng1 (tCons (tVar 2) tNil)) (gName 8) tYes _ [8] [some (.str line), some pl, some (.int n), some (.ref a.a), some (stV (pst st)), some (.str kd), some cv, some (.ref an), kv, none, none] H2 _
    refine rep_lc (m := pline) (R := LnAt) (a := a) (rem := r2) (n := n) (E := E) (fun _ _ _ _ t h => LnAt.keep t h) hn (fun Q' h => ⟨_, rfl, h⟩) (fun _ => rfl) (fun i H1 rem1 Q1 hw hq => ⟨_, rfl, a, rem1, rfl, hw, hq⟩) w2 (q2.bind.imp fun ls r3 H3 e3 k3 w3 q3 D ts hD hp => ?_)
    refine rd_exp (x := "next") rfl (fun _ z => z) w3 (q3.bind.imp fun _ r4 H4 e4 k4 w4 q4 => ?_)
    refine rd_take rfl w4 (q4.bind.imp fun fo r5 H5 e5 k5 w5 q5 => ?_)
    refine rd_rest rfl w5 fun p H6 k6 np hp6 w6 => ?_
    have k26 := ((((k2.trans k3).trans k4).trans k5).trans k6)
    have k36 := ((k4.trans k5).trans k6)
    refine ⟨p, _, rfl, .inl (SqL.of hp6), _, _, rfl, rfl, _, rfl, ?_⟩
    rw [List.length_map]
    by_cases c9 : r5 = []
    · subst c9
      refine itF (by decide) ?_
      have q6 : Out K a H5 E (pret (⟨pst st, kd, c, aw, done, ls, fo⟩ : Rule) []) _ := q5
      have hD6 := k36 D _ hD rfl
      have ha6 := k26 an _ h1 rfl
      refine ⟨_, rfl, _, rfl, _, rfl, _, rfl, an, _, rfl, .inl ⟨SqL.of ha6, fun p1 np1 => ?_⟩⟩
      have t1 : TupK H6 (upd H6 p1 (.tup (.str aw :: us))) := TupK.new np1
      have hD7 : upd H6 p1 (.tup (.str aw :: us)) D = some (.lst ts) := by rw [upd_ne (ne_of_none hD6 np1)]; exact hD6
      refine ⟨_, rfl, D, _, rfl, .inl ⟨SqL.of hD7, fun p2 np2 => ?_⟩⟩
      refine ⟨_, rfl, by show 6 ≤ sizeLine; decide, fun p3 np3 => ?_⟩
      have t2 := TupK.new (o := .tup ts) np2
      have t3 := TupK.new (o := .tup [stV (pst st), .str kd, cv, .ref p1, .ref p2, .str fo]) np3
      have t12 := (t1.trans t2).trans t3
      have k1 := ((k6.trans (KeepW.new (o := .tup (.str aw :: us)) np1)).trans (KeepW.new (o := .tup ts) np2)).trans (KeepW.new (o := .tup [stV (pst st), .str kd, cv, .ref p1, .ref p2, .str fo]) np3)
      refine q6 _ k1 (((w6.new np1).new np2).new np3) _ ⟨p3, p1, p2, cv, us, ts, rfl, upd_same, c1.keep (k26.tup.trans t12), t3 _ _ (t2 _ _ upd_same), Paired.keepR (fun _ _ => LnAt.keep (k26.tup.trans t12)) pr, t3 _ _ upd_same, Paired.keepR (fun _ _ => LnAt.keep (k36.tup.trans t12)) hp⟩
    · refine itT ?_ ?_
      · exact decide_eq_true (by have := List.length_pos_iff.mpr c9; omega)
      · refine ⟨_, rfl, ?_⟩
        have q6 : RE K H5 E := by
          have z : Out K a H5 E (if r5 = [] then some ((⟨pst st, kd, c, aw, done, ls, fo⟩ : Rule), ([] : List Str)) else none) _ := q5
          rw [if_neg c9] at z
          exact z
        exact err_end (pl := pl) q6 k6 rfl (by show 1 ≤ 1000; decide) (by decide +kernel)
end
end L2.Ta

set_option maxHeartbeats 4000000
/-! lists made by a walk; what the checks ask -/
namespace L2.Ta
open PySem PySem.Spec PyProof.Rows L2 TL
/-- all stands (the last word of it is always rfl) -/
def KeepI (H H' : Hp) : Prop := ∀ b o, H b = some o → (0 : Nat) = 0 → H' b = some o
variable {S : Addr → Prop} {H H1 H2 : Hp}
theorem KeepI.toW (k : KeepI H H1) : KeepW H H1 := fun b o e _ => k b o e rfl
theorem KeepI.refl (H : Hp) : KeepI H H := fun _ _ e _ => e
theorem KeepI.trans (a : KeepI H H1) (b : KeepI H1 H2) : KeepI H H2 := fun q u e _ => b q u (a q u e rfl) rfl
theorem KeepI.new {p : Addr} {o : HO} (h : H p = none) : KeepI H (upd H p o) := fun q u e _ => by
  rw [upd_ne (ne_of_none e h)]
  exact e
theorem KeepI.tup (k : KeepI H H1) : TupK H H1 := fun p xs e => k p _ e rfl
theorem RE.monoI {K : PySem.W.Frag} {E : XK} (r : RE K H E) (k : KeepI H H1) : RE K H1 E := RE.mono r k.toW
theorem err_endI {K : PySem.W.Frag} {x : Str} {E : XK} {vs dvs : List V} {pl : V} (re : RE K H E) (k : KeepI H H1) (hv : vs ++ dvs = [pl]) (hl : vs.length ≤ 1000) (hx : x ∈ excs := by decide +kernel) :
    vs.length ≤ 1000 ∧ ∀ a, H1 a = none → spErr K x (.ref a :: (vs ++ dvs)) (upd H1 a (exo a (He.ga K x) none))
      (fun v H2 => v = .non ∧ ∃ (d : Addr) (fs : List (Str × V)), H2 a = some (exo a (He.ga K x) (some d)) ∧ H2 d = some (exd d fs) ∧ H1 d = none ∧ E (.ref (He.ga K x)) (some d) (upd (del H2 a) d (.xd fs))) (fun _ _ _ => False) := err_end re k.toW hv hl hx
/-- all but the records of S stands -/
structure KeepG (S : Addr → Prop) (H H' : Hp) : Prop where
  tup : TupK H H'
  std : ∀ b u, H b = some u → ¬ S b → H' b = some u
theorem KeepI.g (k : KeepI H H1) : KeepG S H H1 := ⟨k.tup, fun b u e _ => k b u e rfl⟩
theorem KeepG.w (k : KeepG (fun _ => False) H H1) : KeepI H H1 := fun b u e _ => k.std b u e id
theorem KeepG.refl (H : Hp) : KeepG S H H := ⟨TupK.refl H, fun _ _ e _ => e⟩
theorem KeepG.trans (a : KeepG S H H1) (b : KeepG S H1 H2) : KeepG S H H2 := ⟨a.tup.trans b.tup, fun q u e n => b.std q u (a.std q u e n) n⟩
theorem KeepG.new {p : Addr} {o : HO} (h : H p = none) : KeepG S H (upd H p o) := (KeepI.new h).g
theorem KeepG.mut {p : Addr} {o : HO} (k : KeepG S H H1) (h : H p = none) : KeepG S H (upd H1 p o) := ⟨fun q ys e => by
  rw [upd_ne (ne_of_none e h)]
  exact k.tup q ys e, fun b u e n => by
  rw [upd_ne (ne_of_none e h)]
  exact k.std b u e n⟩
theorem KeepG.lst {p : Addr} {xs : List V} (k : KeepG S H H1) (h : H p = some (.lst xs)) (n : ¬ S p) : H1 p = some (.lst xs) := k.std p _ h n
theorem KeepG.tupS {v : V} {xs : List V} (k : KeepG S H H1) (h : TupS H v xs) : TupS H1 v xs := TupS.keep k.tup h
/-- [te for x in walk]: the i-th item is R i -/
theorem walk_lc {J : It} {n : Nat} {G : Hp → Prop} {Y : Nat → Hp → V → Hp → Prop} (w : Walk J n G Y) {X : Nat → V → Prop} {R : Nat → V → Hp → Prop} {σ : L2.St} {vs : List Nat} {j : Nat} {te : TE} {D : Addr} {Qd : Hp → Prop}
    (hY : ∀ i H x H', Y i H x H' → H' = H ∧ X i x) (hR : ∀ i v H H', TupK H H' → R i v H → R i v H') (hn : n ≤ 1000000) (hD : H D = none) (hS : ¬ S D) (hG : ∀ H', KeepG S H H' → G H')
    (hw : ∀ x, wipe ((wipe σ vs).set j (some x)) vs = wipe σ vs)
    (hte : ∀ i x H1 (Q1 : VK), i < n → X i x → KeepG S H H1 → (∀ y H2, KeepG S H1 H2 → R i y H2 → Q1 y H2) → te ((wipe σ vs).set j (some x)) H1 Q1)
    (hQ : ∀ H' us, KeepG S H H' → H' D = some (.lst us) → us.length = n → (∀ i u, us[i]? = some u → R i u H') → Qd H') :
    ∃ W : Nat → Nat → Hp → Prop, (∃ m, W 0 m (upd H D (.lst []))) ∧ ∀ i m H, W i m H →
      (J.stop i H ∧ Qd H) ∨ (J.go i H ∧ ∃ Nx : Hp → Prop, (∀ H', Nx H' → ∃ m', m' < m ∧ W (i + 1) m' H') ∧ ∀ x H', J.yld i H x H' → gName j x (wipe σ vs) H' fun σ2 H2 => wipe σ2 vs = wipe σ vs ∧ tYes σ2 H2 fun b H3 =>
        if b = true then te σ2 H3 fun y H4 => ∃ acc, H4 D = some (.lst acc) ∧ acc.length < sizeLine ∧ Nx (upd H4 D (.lst (acc ++ [y]))) else Nx H3) := by
  refine lc_it w (g := gName j) (tt := tYes) (fun i H' => ∃ us : List V, KeepG S H H' ∧ H' D = some (.lst us) ∧ us.length = i ∧ ∀ i u, us[i]? = some u → R i u H') ⟨[], KeepG.new hD, upd_same, rfl, fun i u h => by simp at h⟩ (fun i H' _ ⟨us, k, _⟩ => hG H' k)
    (fun i x H1 H1' hi ⟨us, k, hu, lu, ru⟩ hy => ?_) (fun H' ⟨us, k, hu, lu, ru⟩ => hQ H' us k hu lu ru)
  obtain ⟨rfl, hx⟩ := hY _ _ _ _ hy
  refine ⟨hw _, ?_⟩
  refine hte i x H1' _ hi hx k fun y H2 k2 ry => ?_
  have hu2 := k2.lst hu hS
  have t3 : TupK H2 (upd H2 D (.lst (us ++ [y]))) := TupK.lst hu2
  refine ⟨us, hu2, by rw [sizeLine_eq]; omega, us ++ [y], (k.trans k2).mut hD, upd_same, by simp [lu], fun i2 u2 h2 => ?_⟩
  by_cases c : i2 < us.length
  · rw [List.getElem?_append_left c] at h2
    exact hR _ _ _ _ (k2.tup.trans t3) (ru i2 u2 h2)
  · rw [List.getElem?_append_right (by omega)] at h2
    have e0 : i2 - us.length = 0 := by
      rcases Nat.eq_zero_or_pos (i2 - us.length) with z | z
      · exact z
      · rw [List.getElem?_eq_none (by simp; omega)] at h2
        cases h2
    rw [e0] at h2
    have e1 : i2 = i := by omega
    cases (show some y = some u2 from h2)
    rw [e1]
    exact hR _ _ _ _ t3 ry
/-- the list of a function -/
theorem list_of_at {us : List V} {n : Nat} {f : Nat → V} (lu : us.length = n) (h : ∀ i u, us[i]? = some u → u = f i) : us = (List.range n).map f := by
  refine List.ext_getElem? fun i => ?_
  by_cases c : i < n
  · have e : us[i]? = some us[i] := by simp [lu, c]
    rw [e, h i _ e]
    simp [c]
  · rw [List.getElem?_eq_none (by omega), List.getElem?_eq_none (by simp; omega)]
theorem map_of_at {α : Type} {us : List V} {xs : List α} {f : α → V} (lu : us.length = xs.length) (h : ∀ (i : Nat) u x, us[i]? = some u → xs[i]? = some x → u = f x) : us = xs.map f := by
  refine List.ext_getElem? fun i => ?_
  by_cases c : i < xs.length
  · have e : us[i]? = some us[i] := by simp [lu, c]
    have e2 : xs[i]? = some xs[i] := by simp [c]
    rw [e, h i _ _ e e2]
    simp [c]
  · rw [List.getElem?_eq_none (by omega), List.getElem?_eq_none (by simp; omega)]
/-- [te for c in text] -/
theorem str_lc {x : Str} {f : Nat → V} {σ : L2.St} {vs : List Nat} {i j : Nat} {te : TE} {Q : VK} (hs : σ[i]? = some (some (.str x))) (hx : x.length ≤ 1000000) (hw : ∀ x, wipe ((wipe σ vs).set j (some x)) vs = wipe σ vs)
    (hte : ∀ c H1 (Q1 : VK), c ∈ x.cps.toList → KeepI H H1 → (∀ H2, KeepI H1 H2 → Q1 (f c) H2) → te ((wipe σ vs).set j (some (.str ⟨#[c]⟩))) H1 Q1)
    (hQ : ∀ D H', KeepI H H' → H' D = some (.lst (x.cps.toList.map f)) → Q (.ref D) H') : tLc (iStr (tVar i)) (gName j) tYes te vs σ H Q := by
  refine ⟨_, hs, x, rfl, fun D hD => ?_⟩
  refine walk_lc (S := fun _ => False) (walk_str (z := x)) (X := fun i v => ∃ c, x.cps[i]? = some c ∧ v = .str ⟨#[c]⟩) (R := fun i v H => ∃ c, x.cps[i]? = some c ∧ v = f c) (fun _ _ _ _ h => h) (fun _ _ _ _ _ h => h) hx hD id (fun _ _ => trivial) hw
    (fun i v H1 Q1 hi ⟨c, e1, e2⟩ k q => ?_) (fun H' us k hu lu hr => hQ D H' k.w ?_)
  · subst e2
    refine hte c H1 Q1 ?_ k.w fun H2 k2 => q _ _ k2.g ⟨c, e1, rfl⟩
    rw [Array.mem_toList_iff]
    exact Array.mem_of_getElem? e1
  · rw [hu]
    refine congrArg some (congrArg HO.lst (map_of_at (by rw [lu]; exact Array.length_toList.symm) fun i u c h1 h2 => ?_))
    obtain ⟨c2, h3, h4⟩ := hr i u h1
    rw [Array.getElem?_toList] at h2
    rw [h2] at h3
    cases h3
    exact h4
/-- [te for x in list or tuple] -/
theorem seq_lc {J : It} {G : Hp → Prop} {xs : List V} (w : Walk J xs.length G (YAt xs)) {R : Nat → V → Hp → Prop} {σ : L2.St} {vs : List Nat} {j : Nat} {te : TE} {D : Addr} {Qd : Hp → Prop}
    (hR : ∀ i v H H', TupK H H' → R i v H → R i v H') (hn : xs.length ≤ 1000000) (hD : H D = none) (hS : ¬ S D) (hG : ∀ H', KeepG S H H' → G H')
    (hw : ∀ x, wipe ((wipe σ vs).set j (some x)) vs = wipe σ vs)
    (hte : ∀ i x H1 (Q1 : VK), xs[i]? = some x → KeepG S H H1 → (∀ y H2, KeepG S H1 H2 → R i y H2 → Q1 y H2) → te ((wipe σ vs).set j (some x)) H1 Q1)
    (hQ : ∀ H' us, KeepG S H H' → H' D = some (.lst us) → us.length = xs.length → (∀ i u, us[i]? = some u → R i u H') → Qd H') :
    ∃ W : Nat → Nat → Hp → Prop, (∃ m, W 0 m (upd H D (.lst []))) ∧ ∀ i m H, W i m H →
      (J.stop i H ∧ Qd H) ∨ (J.go i H ∧ ∃ Nx : Hp → Prop, (∀ H', Nx H' → ∃ m', m' < m ∧ W (i + 1) m' H') ∧ ∀ x H', J.yld i H x H' → gName j x (wipe σ vs) H' fun σ2 H2 => wipe σ2 vs = wipe σ vs ∧ tYes σ2 H2 fun b H3 =>
        if b = true then te σ2 H3 fun y H4 => ∃ acc, H4 D = some (.lst acc) ∧ acc.length < sizeLine ∧ Nx (upd H4 D (.lst (acc ++ [y]))) else Nx H3) :=
  walk_lc w (X := fun i x => xs[i]? = some x) (fun _ _ _ _ h => h) hR hn hD hS hG hw (fun i x H1 Q1 _ hx k q => hte i x H1 Q1 hx k q) hQ
/-! ### what the checks ask -/
def abc : Str := "abcdefghijklmnopqrstuvwxyz"
def isLet (c : Nat) : Bool := decide (c ∈ abc.cps.toList)
def letters (x : Str) : Bool := x.cps.toList.all isLet
def isName (x : Str) : Bool := decide (1 ≤ x.length) && decide (x.length ≤ 12) && letters x
def isPat (x : Str) : Bool := decide (x.length ≤ 8) && decide (Txt.count x "*" ≤ 2) && x.cps.toList.all fun c => isLet c || decide (c ∈ ("?*" : Str).cps.toList)
/-- names that differ -/
def namesOk (ns : List Str) : Prop := (∀ x ∈ ns, isName x = true) ∧ ns.Nodup
structure KindOk (regs k : List Str) : Prop where
  len : 1 ≤ k.length ∧ k.length ≤ 4
  names : ∀ x ∈ k, isName x = true
  tail : k.tail.Nodup ∧ ("self" : Str) ∉ k.tail ∧ ∀ x ∈ k.tail, x ∉ regs
def hd (k : List Str) : Str := k.headD ""
structure KindsOk (regs : List Str) (ks : List (List Str)) : Prop where
  len : 1 ≤ ks.length ∧ ks.length ≤ 6
  each : ∀ k ∈ ks, KindOk regs k
  first : (ks.map hd).head? = some "new"
  heads : (ks.map hd).Nodup
def SrcOk (names : List Str) : Ln → Prop
  | .keep | .clear => False
  | .value n => n ∈ names
  | .text t => letters t = true ∧ t.length ≤ 8
  | .fresh k => k ≤ 2
def LineOk (names : List Str) : Ln → Prop
  | .keep | .clear => True
  | l => SrcOk names l
mutual
def CondOk (names regs : List Str) : Nat → Cond → Prop
  | 0, _ => False
  | _ + 1, .always | _ + 1, .never => True
  | _ + 1, .mat n p => n ∈ names ∧ isPat p = true
  | _ + 1, .same a b => a ∈ names ∧ b ∈ names
  | _ + 1, .empty n => n ∈ regs
  | d + 1, .not c => CondOk names regs d c
  | d + 1, .many _ ps => CondsOk names regs d ps
def CondsOk (names regs : List Str) : Nat → List Cond → Prop
  | _, [] => True
  | d, c :: r => CondOk names regs d c ∧ CondsOk names regs d r
end
/-- the value names of the kind with a name -/
def valsOf (ks : List (List Str)) (x : Str) : Option (List Str) := (ks.find? fun k => decide (hd k = x)).map List.tail
structure RuleOk (stations regs : List Str) (ks : List (List Str)) (R : Rule) : Prop where
  st : ∀ x, R.st = some x → x ∈ stations
  kind : ∃ vn, valsOf ks R.kind = some vn ∧ CondOk (regs ++ vn ++ [("self" : Str)]) regs 6 R.cond ∧ (∀ s ∈ R.srcs, SrcOk (regs ++ vn ++ [("self" : Str)]) s) ∧ ∀ s ∈ R.turn, LineOk (regs ++ vn ++ [("self" : Str)]) s
  new : R.kind = "new" → R.st = none
  size : R.cond.size ≤ 20
  word : isName R.word = true
  srcs : R.srcs.length ≤ 4
  turn : R.turn.length = regs.length
  next : R.next ∈ stations
structure SvcOk (s : Svc) : Prop where
  stations : 1 ≤ s.stations.length ∧ s.stations.length ≤ 6
  stNames : namesOk s.stations
  registers : s.registers.length ≤ 3
  regNames : namesOk s.registers
  noSelf : ("self" : Str) ∉ s.registers
  kinds : KindsOk s.registers s.kinds
  rules : s.rules.length ≤ 40
  each : ∀ R ∈ s.rules, RuleOk s.stations s.registers s.kinds R
end L2.Ta

set_option maxHeartbeats 4000000
/-! the checks: texts, names, patterns -/
namespace L2.Ta
open PySem PySem.Spec PyProof.Rows L2 TL
def spIsT : Sp := fun vs H Q _ => ∃ x : Str, vs = [.str x] ∧ x.length ≤ 1000000 ∧ ∀ H', KeepI H H' → Q (.bl (letters x)) H'
def spIsN : Sp := fun vs H Q _ => ∃ x : Str, vs = [.str x] ∧ x.length ≤ 1000000 ∧ ∀ H', KeepI H H' → Q (.bl (isName x)) H'
def spIsP : Sp := fun vs H Q _ => ∃ x : Str, vs = [.str x] ∧ x.length ≤ 1000000 ∧ ∀ H', KeepI H H' → Q (.bl (isPat x)) H'
section
variable {P : Program} {w : World} {K : PySem.W.Frag} {mg : Str → Option Value} {base : Heap}
theorem sc_is_text : FnScope ["value", "char"] ["value"] (defScope (top 16)) := ⟨rfl, rfl, rfl, by decide +kernel, rfl, by decide +kernel, by decide +kernel⟩
theorem ok_is_text (T : Tx w K mg) : Ok1 P w K mg base CX0 1 "is_text" ["value"] spIsT := by
  have sc := sc_is_text
  obtain ⟨_, m_LETTERS⟩ := T.str (x := "LETTERS") (z := "abcdefghijklmnopqrstuvwxyz")
  refine ok1_of T.glo (T.def_ 13) sc (fun vs H Q E h => ?_) (fun _ _ _ _ _ _ us hl => match us, hl with | [_], _ => rfl) (fun cdv A outer s H vs Q E hr h => ?_)
  · obtain ⟨x, rfl, _⟩ := h
    rfl
  refine ⟨_, PSs.nox (pss_one (ps_ret (pe_and (pe_callB RZ.call_isTy (by rfl) T.free (by decide +kernel) (pa_cons (pv 0) (pa_cons (pe_bltn (v := .ty "str") (by rfl) T.free (by decide +kernel) rfl) pa_nil))) (pe_one (pe_callB (cr_all rfl) (by rfl) T.free (by decide +kernel) (pa_cons (pe_lc (own := [("char", 1)]) (g := gName 1) rfl sc.nd (pi_str (pv 0)) (blkOk_by (own := [("char", 1)]) (N := ["value", "char"]) (sc := defScope (top 16)) (by decide +kernel)) (fun _ _ _ _ _ => pg_name (i := 1) sc.nd rfl (Or.inl rfl)) (fun _ _ _ _ _ => pts_nil) (fun _ _ _ _ _ => (pe_cmpR op_in_sign (pv 1) (pe_glob (v := .str "abcdefghijklmnopqrstuvwxyz") (by rfl) m_LETTERS ⟨_, rfl⟩) (by rfl)))) pa_nil)))))), ?_⟩
  obtain ⟨x, rfl, hx, hQ⟩ := h
  refine ⟨_, rfl, _, _, rfl, .str x, _, rfl, itT rfl ?_⟩
  dsimp only [tNext, tCB, tCons, tRet]
  show tLc (iStr (tVar 0)) (gName 1) tYes _ [1] [some (.str x), none] H _
  refine str_lc rfl hx (fun _ => rfl) (f := fun c => .bl (isLet c)) (fun c H1 Q1 hc k q => ⟨_, rfl, c, _, rfl, rfl, q _ (KeepI.refl _)⟩) (fun D H1 k1 hD => ?_)
  refine ⟨D, x.cps.toList.map isLet, rfl, SqL.of (by rw [hD, List.map_map]; rfl), ?_⟩
  have z := hQ H1 k1
  unfold letters at z
  rw [List.all_map]
  exact z
theorem sc_is_name : FnScope ["value", "letter"] ["value"] (defScope (top 35)) := ⟨rfl, rfl, rfl, by decide +kernel, rfl, by decide +kernel, by decide +kernel⟩
theorem ok_is_name (T : Tx w K mg) : Ok1 P w K mg base CX0 1 "is_name" ["value"] spIsN := by
  have sc := sc_is_name
  obtain ⟨_, m_LETTERS⟩ := T.str (x := "LETTERS") (z := "abcdefghijklmnopqrstuvwxyz")
  obtain ⟨_, m_NAME_MOST⟩ := T.int (x := "NAME_MOST") (i := 12)
  refine ok1_of T.glo (T.def_ 21) sc (fun vs H Q E h => ?_) (fun _ _ _ _ _ _ us hl => match us, hl with | [_], _ => rfl) (fun cdv A outer s H vs Q E hr h => ?_)
  · obtain ⟨x, rfl, _⟩ := h
    rfl
  refine ⟨_, PSs.nox (pss_cons (ps_if (PW.pt (pw_or (pt_not (pt_val (pe_callB RZ.call_isTy (by rfl) T.free (by decide +kernel) (pa_cons (pv 0) (pa_cons (pe_bltn (v := .ty "str") (by rfl) T.free (by decide +kernel) rfl) pa_nil))))) (pw_or1 (pt_not (pt_chain op_le op_le pe_int (pe_callB call_len_str (by rfl) T.free PySem.boot_len (pa_cons (pv 0) pa_nil)) (pe_glob (v := .int 12) (by rfl) m_NAME_MOST ⟨_, rfl⟩)))))) (pss_one (ps_ret pe_bl)) pss_nil)
    (pss_one (ps_ret (pe_callB (cr_all rfl) (by rfl) T.free (by decide +kernel) (pa_cons (pe_lc (own := [("letter", 1)]) (g := gName 1) rfl sc.nd (pi_str (pv 0)) (blkOk_by (own := [("letter", 1)]) (N := ["value", "letter"]) (sc := defScope (top 35)) (by decide +kernel)) (fun _ _ _ _ _ => pg_name (i := 1) sc.nd rfl (Or.inl rfl)) (fun _ _ _ _ _ => pts_nil) (fun _ _ _ _ _ => (pe_cmpR op_in_sign (pv 1) (pe_glob (v := .str "abcdefghijklmnopqrstuvwxyz") (by rfl) m_LETTERS ⟨_, rfl⟩) (by rfl)))) pa_nil))))), ?_⟩
  obtain ⟨x, rfl, hx, hQ⟩ := h
  refine ⟨_, rfl, _, _, rfl, .str x, _, rfl, itF rfl ?_⟩
  refine ⟨_, rfl, x, rfl, by rw [sizeLine_eq]; omega, _, _, rfl, rfl, _, rfl, ?_⟩
  by_cases c1 : 1 ≤ x.length
  · refine itT (decide_eq_true (by omega)) ⟨_, _, rfl, rfl, _, rfl, ?_⟩
    by_cases c2 : x.length ≤ 12
    · refine itF (by rw [decide_eq_true (show (x.length : Int) ≤ 12 by omega)]; rfl) ?_
      dsimp only [tNext, tCB, tCons, tRet]
      show tLc (iStr (tVar 0)) (gName 1) tYes _ [1] [some (.str x), none] H _
      refine str_lc rfl hx (fun _ => rfl) (f := fun c => .bl (isLet c)) (fun c H1 Q1 hc k q => ⟨_, rfl, c, _, rfl, rfl, q _ (KeepI.refl _)⟩) (fun D H1 k1 hD => ?_)
      refine ⟨D, x.cps.toList.map isLet, rfl, SqL.of (by rw [hD, List.map_map]; rfl), ?_⟩
      have z := hQ H1 k1
      unfold isName letters at z
      rw [decide_eq_true c1, decide_eq_true c2] at z
      rw [List.all_map]
      exact z
    · refine itT (by rw [decide_eq_false (show ¬ (x.length : Int) ≤ 12 by omega)]; rfl) ?_
      have z := hQ H (KeepI.refl H)
      unfold isName at z
      rw [decide_eq_false c2, Bool.and_false, Bool.false_and] at z
      exact z
  · refine itF (decide_eq_false (by omega)) ⟨_, rfl, itT rfl ?_⟩
    have z := hQ H (KeepI.refl H)
    unfold isName at z
    rw [decide_eq_false c1, Bool.false_and, Bool.false_and] at z
    exact z
theorem sc_is_pattern : FnScope ["value", "sign"] ["value"] (defScope (top 20)) := ⟨rfl, rfl, rfl, by decide +kernel, rfl, by decide +kernel, by decide +kernel⟩
theorem ok_is_pattern (T : Tx w K mg) : Ok1 P w K mg base CX0 1 "is_pattern" ["value"] spIsP := by
  have sc := sc_is_pattern
  obtain ⟨_, m_LETTERS⟩ := T.str (x := "LETTERS") (z := "abcdefghijklmnopqrstuvwxyz")
  obtain ⟨_, m_SIGNS_MOST⟩ := T.int (x := "SIGNS_MOST") (i := 8)
  obtain ⟨_, m_STARS_MOST⟩ := T.int (x := "STARS_MOST") (i := 2)
  refine ok1_of T.glo (T.def_ 14) sc (fun vs H Q E h => ?_) (fun _ _ _ _ _ _ us hl => match us, hl with | [_], _ => rfl) (fun cdv A outer s H vs Q E hr h => ?_)
  · obtain ⟨x, rfl, _⟩ := h
    rfl
  refine ⟨_, PSs.nox (pss_cons (ps_if (PW.pt (pw_or (pt_not (pt_val (pe_callB RZ.call_isTy (by rfl) T.free (by decide +kernel) (pa_cons (pv 0) (pa_cons (pe_bltn (v := .ty "str") (by rfl) T.free (by decide +kernel) rfl) pa_nil))))) (pw_or1 (pt_cmpR op_gt (pe_callB call_len_str (by rfl) T.free PySem.boot_len (pa_cons (pv 0) pa_nil)) (pe_glob (v := .int 8) (by rfl) m_SIGNS_MOST ⟨_, rfl⟩) (nomark _))))) (pss_one (ps_ret pe_bl)) pss_nil)
    (pss_cons (ps_if (pt_cmpR op_gt (pe_m1 PySem.F.slot_str_count PySem.F.type_str_count mt_count (pv 0) pe_str) (pe_glob (v := .int 2) (by rfl) m_STARS_MOST ⟨_, rfl⟩) (nomark _)) (pss_one (ps_ret pe_bl)) pss_nil)
    (pss_one (ps_ret (pe_callB (cr_all rfl) (by rfl) T.free (by decide +kernel) (pa_cons (pe_lc (own := [("sign", 1)]) (g := gName 1) rfl sc.nd (pi_str (pv 0)) (blkOk_by (own := [("sign", 1)]) (N := ["value", "sign"]) (sc := defScope (top 20)) (by decide +kernel)) (fun _ _ _ _ _ => pg_name (i := 1) sc.nd rfl (Or.inl rfl)) (fun _ _ _ _ _ => pts_nil) (fun _ _ _ _ _ => (pe_or (pe_cmpR op_in_sign (pv 1) (pe_glob (v := .str "abcdefghijklmnopqrstuvwxyz") (by rfl) m_LETTERS ⟨_, rfl⟩) (by rfl)) (pe_one (pe_cmpR op_in_sign (pv 1) pe_str (by rfl)))))) pa_nil)))))), ?_⟩
  obtain ⟨x, rfl, hx, hQ⟩ := h
  refine ⟨_, rfl, _, _, rfl, .str x, _, rfl, itF rfl ?_⟩
  refine ⟨_, rfl, x, rfl, by rw [sizeLine_eq]; omega, _, _, rfl, rfl, _, rfl, ?_⟩
  by_cases c1 : x.length ≤ 8
  · refine itF (decide_eq_false (by omega)) ?_
    refine ⟨_, rfl, ⟨_, rfl⟩, _, _, rfl, rfl, _, _, rfl, rfl, _, rfl, ?_⟩
    by_cases c2 : Txt.count x "*" ≤ 2
    · refine itF (decide_eq_false (by omega)) ?_
      dsimp only [tNext, tCB, tCons, tRet]
      show tLc (iStr (tVar 0)) (gName 1) tYes _ [1] [some (.str x), none] H _
      refine str_lc rfl hx (fun _ => rfl) (f := fun c => .bl (isLet c || decide (c ∈ ("?*" : Str).cps.toList))) (fun c H1 Q1 hc k q => ⟨_, rfl, c, _, rfl, rfl, _, rfl, ?_⟩) (fun D H1 k1 hD => ?_)
      · have z := q _ (KeepI.refl _)
        cases e : isLet c with
        | true =>
          rw [e, Bool.true_or] at z
          exact itT e z
        | false =>
          rw [e, Bool.false_or] at z
          exact itF e ⟨_, rfl, c, _, rfl, rfl, z⟩
      · refine ⟨D, x.cps.toList.map fun c => isLet c || decide (c ∈ ("?*" : Str).cps.toList), rfl, SqL.of (by rw [hD, List.map_map]; rfl), ?_⟩
        have z := hQ H1 k1
        unfold isPat at z
        rw [decide_eq_true c1, decide_eq_true c2] at z
        rw [List.all_map]
        exact z
    · refine itT (decide_eq_true (by omega)) ?_
      have z := hQ H (KeepI.refl H)
      unfold isPat at z
      rw [decide_eq_false c2, Bool.and_false, Bool.false_and] at z
      exact z
  · refine itT (decide_eq_true (by omega)) ?_
    have z := hQ H (KeepI.refl H)
    unfold isPat at z
    rw [decide_eq_false c1, Bool.false_and, Bool.false_and] at z
    exact z
end
end L2.Ta

set_option maxHeartbeats 4000000
/-! the checks: conditions -/
namespace L2.Ta
open PySem PySem.Spec PyProof.Rows L2 TL
/-- a check: what is asked holds, and it goes on; or an error of the program ends it -/
def Chk (ok : Prop) (K : PySem.W.Frag) (H : Hp) (E : XK) (G : Hp → Prop) : Prop := (ok → ∀ H', KeepI H H' → G H') ∧ (¬ ok → RE K H E)
section
variable {a b : Prop} {K : PySem.W.Frag} {H H1 : Hp} {E : XK} {G G' : Hp → Prop}
theorem Chk.keep (h : Chk a K H E G) (k : KeepI H H1) : Chk a K H1 E G := ⟨fun x H' k' => h.1 x H' (k.trans k'), fun x => RE.monoI (h.2 x) k⟩
theorem Chk.and (h : Chk (a ∧ b) K H E G) : Chk a K H E fun H' => Chk b K H' E G :=
  ⟨fun x H' k => ⟨fun y H2 k2 => h.1 ⟨x, y⟩ H2 (k.trans k2), fun y => RE.monoI (h.2 fun z => y z.2) k⟩, fun x => h.2 fun z => x z.1⟩
theorem Chk.imp (h : Chk a K H E G) (f : ∀ H', a → KeepI H H' → G H' → G' H') : Chk a K H E G' := ⟨fun x H' k => f H' x k (h.1 x H' k), h.2⟩
theorem Chk.iff (h : Chk a K H E G) (e : a ↔ b) : Chk b K H E G := by rw [← propext e]; exact h
theorem Chk.yes (h : Chk a K H E G) (x : a) : G H := h.1 x H (KeepI.refl H)
end
/-! ### the head and the parts of a condition -/
def Cond.word : Cond → Str
  | .always => "always"
  | .never => "never"
  | .mat _ _ => "matches"
  | .same _ _ => "same"
  | .empty _ => "empty"
  | .not _ => "not"
  | .many b _ => bw b
def Cond.parts : Cond → List Cond
  | .not c => [c]
  | .many _ ps => ps
  | _ => []
def Cond.strs : Cond → List Str
  | .mat n p => [n, p]
  | .same a b => [a, b]
  | .empty n => [n]
  | _ => []
def Cond.conn : Cond → Bool
  | .not _ => true
  | .many _ _ => true
  | _ => false
theorem CondAt.tup {H : Hp} {c : Cond} {v : V} (h : CondAt H c v) : ∃ p xs, v = .ref p ∧ H p = some (.tup (.str c.word :: xs)) ∧ (c.conn = true → CondsAt H c.parts xs) ∧ (c.conn = false → xs = c.strs.map V.str) := by
  cases c with
  | always => rw [CondAt] at h; obtain ⟨p, e, h⟩ := h; exact ⟨p, _, e, h, (by intro z; cases z), fun _ => rfl⟩
  | never => rw [CondAt] at h; obtain ⟨p, e, h⟩ := h; exact ⟨p, _, e, h, (by intro z; cases z), fun _ => rfl⟩
  | mat n q => rw [CondAt] at h; obtain ⟨p, e, h⟩ := h; exact ⟨p, _, e, h, (by intro z; cases z), fun _ => rfl⟩
  | same n q => rw [CondAt] at h; obtain ⟨p, e, h⟩ := h; exact ⟨p, _, e, h, (by intro z; cases z), fun _ => rfl⟩
  | empty n => rw [CondAt] at h; obtain ⟨p, e, h⟩ := h; exact ⟨p, _, e, h, (by intro z; cases z), fun _ => rfl⟩
  | not c => rw [CondAt] at h; obtain ⟨u, ⟨p, e, h⟩, hu⟩ := h; exact ⟨p, _, e, h, fun _ => by rw [Cond.parts, CondsAt]; exact ⟨u, [], rfl, hu, by rw [CondsAt]⟩, (by intro z; cases z)⟩
  | many b ps => rw [CondAt] at h; obtain ⟨us, ⟨p, e, h⟩, hu⟩ := h; exact ⟨p, _, e, h, fun _ => hu, (by intro z; cases z)⟩
theorem conn_iff (c : Cond) : c.conn = true ↔ c.word = "and" ∨ c.word = "or" ∨ c.word = "not" := by
  cases c with
  | many b ps => cases b <;> simp [Cond.conn, Cond.word, bw]
  | _ => first | (simp [Cond.conn, Cond.word]; done) | (simp [Cond.conn, Cond.word]; decide +kernel)
def spPO (K : PySem.W.Frag) : Sp := fun vs H Q _ => ∃ (c : Cond) (v : V), vs = [v] ∧ CondAt H c v ∧ ∀ p us H', KeepI H H' → H' p = some (.tup us) → CondsAt H' c.parts us → Q (.ref p) H'
def spSO (K : PySem.W.Frag) (d : Nat) : Sp := fun vs H Q _ => ∃ (c : Cond) (v : V), vs = [v] ∧ CondAt H c v ∧ c.fits d ∧ ∀ H', KeepI H H' → Q (.int (c.size : Nat)) H'
section
variable {P : Program} {w : World} {K : PySem.W.Frag} {mg : Str → Option Value} {base : Heap}
theorem sc_parts_of : FnScope ["condition"] ["condition"] (defScope (top 25)) := ⟨rfl, rfl, rfl, by decide +kernel, rfl, by decide +kernel, by decide +kernel⟩
theorem ok_parts_of (T : Tx w K mg) : Ok1 P w K mg base CX0 1 "parts_of" ["condition"] (spPO K) := by
  have sc := sc_parts_of
  refine ok1_of T.glo (T.def_ 15) sc (fun vs H Q E h => ?_) (fun _ _ _ _ _ _ us hl => match us, hl with | [_], _ => rfl) (fun cdv A outer s H vs Q E hr h => ?_)
  · obtain ⟨c, v, rfl, _⟩ := h
    rfl
  refine ⟨_, PSs.nox (pss_cons (ps_if (pt_cmpR op_in_seq (pe_ix ix_tup (pv 0) pe_int (fun _ _ => rfl)) (pe_tup (pa_cons pe_str (pa_cons pe_str (pa_cons pe_str pa_nil)))) (by rfl)) (pss_one (ps_ret (pe_slice sl_tup (pv 0) (po_some pe_int) po_none))) pss_nil)
    (pss_one (ps_ret (pe_tup pa_nil)))), ?_⟩
  obtain ⟨c, v, rfl, hc, hQ⟩ := h
  obtain ⟨p, xs, rfl, hp, h1, h2⟩ := hc.tup
  refine ⟨_, rfl, p, _, 0, _, rfl, rfl, SqT.of hp, at_of (j := 0) rfl rfl, by show 3 ≤ sizeLine; decide, fun p0 np0 => ?_⟩
  have k0 : KeepI H (upd H p0 (.tup [.str "and", .str "or", .str "not"])) := KeepI.new np0
  have hp0 := k0 p _ hp rfl
  refine ⟨p0, _, rfl, .inr (SqT.of upd_same), rfl, rfl, _, rfl, ?_⟩
  cases e : c.conn with
  | true =>
    have hw := (conn_iff c).mp e
    refine itT (by rcases hw with z | z | z <;> rw [z] <;> decide +kernel) ?_
    refine ⟨_, rfl, _, rfl, p, _, rfl, SqT.of hp0, ?_, fun p1 np1 => ?_⟩
    · intro z
      have z1 := z.1
      have e1 : HT.sIx (V.str c.word :: xs).length 0 (some 1) = min 1 (V.str c.word :: xs).length := HT.sIx_nat _ _ 1
      rw [e1] at z1
      simp at z1
    · have ec : cutV (V.str c.word :: xs) (some 1) none = xs := by
        have e1 : HT.sIx (V.str c.word :: xs).length 0 (some 1) = min 1 (V.str c.word :: xs).length := HT.sIx_nat _ _ 1
        unfold cutV
        rw [e1, HT.sIx_none]
        simp
      rw [ec]
      exact hQ p1 xs _ (k0.trans (KeepI.new np1)) upd_same (CondsAt.keep (k0.trans (KeepI.new np1)).tup (h1 e))
  | false =>
    have hw : ¬ (c.word = "and" ∨ c.word = "or" ∨ c.word = "not") := fun z => by
      have z2 := (conn_iff c).mpr z
      rw [e] at z2
      cases z2
    refine itF ?_ ?_
    · have n1 : ¬ c.word = "and" := fun z => hw (.inl z)
      have n2 : ¬ c.word = "or" := fun z => hw (.inr (.inl z))
      have n3 : ¬ c.word = "not" := fun z => hw (.inr (.inr z))
      simp [inV, L2.eqV, Ne.symm n1, Ne.symm n2, Ne.symm n3]
    · refine ⟨by show 0 ≤ sizeLine; decide, fun p1 np1 => hQ p1 [] _ (k0.trans (KeepI.new np1)) upd_same ?_⟩
      have ep : c.parts = [] := by
        cases c <;> first
          | rfl
          | cases e
      rw [ep, CondsAt]
theorem sc_size_of : FnScope ["condition", "part"] ["condition"] (defScope (top 26)) := ⟨rfl, rfl, rfl, by decide +kernel, rfl, by decide +kernel, by decide +kernel⟩
theorem size_parts (c : Cond) : c.size = 1 + sizeL c.parts := by
  cases c with
  | not c => simp [Cond.size, Cond.parts, sizeL]
  | many b ps => rw [Cond.size, Cond.parts]
  | _ => rfl
theorem sizeL_sum : ∀ ps : List Cond, (sizeL ps : Int) = (ps.map fun c => (c.size : Int)).sum
  | [] => rfl
  | c :: r => by
    rw [sizeL, List.map_cons, List.sum_cons, ← sizeL_sum r]
    omega
theorem fits_parts {d : Nat} {c : Cond} (h : c.fits (d + 1)) : c.parts.length ≤ 20 ∧ ∀ x ∈ c.parts, x.fits d := by
  cases c with
  | not c =>
    rw [Cond.fits] at h
    exact ⟨by show 1 ≤ 20; decide, fun x hx => by rw [Cond.parts, List.mem_singleton] at hx; rw [hx]; exact h⟩
  | many b ps =>
    rw [Cond.fits] at h
    exact ⟨h.1, fun x hx => (fitsL_iff ps).mp h.2 x hx⟩
  | _ => exact ⟨Nat.zero_le _, fun x hx => nomatch hx⟩
theorem Paired.at_ {α : Type} {R : α → V → Prop} : ∀ {xs : List α} {us : List V}, Paired R xs us → ∀ (i : Nat) (u : V), us[i]? = some u → ∃ x, xs[i]? = some x ∧ R x u
  | _, _, .nil, i, u, h => by simp at h
  | _, _, .cons h r, 0, u, e => ⟨_, rfl, by cases (show some _ = some u from e); exact h⟩
  | _, _, .cons h r, i + 1, u, e => by
    obtain ⟨x, e1, e2⟩ := Paired.at_ r i u e
    exact ⟨x, e1, e2⟩
theorem ok_size_of (T : Tx w K mg) : ∀ d : Nat, Ok1 P w K mg base CX0 (2 + d) "size_of" ["condition"] (spSO K d)
  | 0 => by
    have sc := sc_size_of
    refine ok1_of T.glo (T.def_ 16) sc (fun vs H Q E h => ?_) (fun _ _ _ _ _ _ us hl => match us, hl with | [_], _ => rfl) (fun cdv A outer s H vs Q E hr h => ?_)
    · obtain ⟨c, v, rfl, _⟩ := h
      rfl
    · obtain ⟨c, v, rfl, hc, hf, hQ⟩ := h
      rw [Cond.fits] at hf
      exact hf.elim
  | d + 1 => by
    have sc := sc_size_of
    have F_parts_of := ok_parts_of (P := P) (base := base) T
    have F_size_of := ok_size_of T d
    refine ok1_of T.glo (T.def_ 16) sc (fun vs H Q E h => ?_) (fun _ _ _ _ _ _ us hl => match us, hl with | [_], _ => rfl) (fun cdv A outer s H vs Q E hr h => ?_)
    · obtain ⟨c, v, rfl, _⟩ := h
      rfl
    have hr_parts_of := hr.mono (show 1 ≤ 2 + d by omega)
    have hr_size_of := hr
    refine ⟨_, PSs.nox (pss_one (ps_ret (pe_op op_add pe_int (pe_callB (cr_sum rfl) (by rfl) T.free (by decide +kernel) (pa_cons (pe_lc (own := [("part", 1)]) (g := gName 1) rfl sc.nd (pi_tup (pe_f F_parts_of hr_parts_of pass0 (pa_cons (pv 0) pa_nil))) (blkOk_by (own := [("part", 1)]) (N := ["condition", "part"]) (sc := defScope (top 26)) (by decide +kernel)) (fun _ _ _ _ _ => pg_name (i := 1) sc.nd rfl (Or.inl rfl)) (fun _ _ _ _ _ => pts_nil) (fun _ _ _ _ _ => (pe_f F_size_of hr_size_of pass0 (pa_cons (pv 1) pa_nil)))) pa_nil))))), ?_⟩
    obtain ⟨c, v, rfl, hc, hf, hQ⟩ := h
    obtain ⟨f1, f2⟩ := fits_parts hf
    refine ⟨_, rfl, c, v, rfl, hc, fun p us H1 k1 hp hcs => ⟨p, rfl, ⟨_, SqT.of hp⟩, fun D hD => ?_⟩⟩
    have hpr := condsAt_to hcs
    have lus := Paired.length hpr
    refine seq_lc (walk_tup (a := p) (xs := us)) (S := fun _ => False) (R := fun i v H => ∃ x, c.parts[i]? = some x ∧ v = .int (x.size : Nat)) (fun _ _ _ _ _ z => z) (by omega) hD id (fun H' k => SqT.of (k.tup p _ hp)) (fun _ => rfl)
      (fun i x H2 Q1 hx k q => ?_) (fun H2 vs2 k hvs lvs hr2 => ?_)
    · obtain ⟨y, e1, e2⟩ := Paired.at_ hpr i x hx
      exact ⟨_, rfl, y, x, rfl, e2.keep k.tup, f2 y (List.mem_of_getElem? e1), fun H3 k3 => q _ _ k3.g ⟨y, e1, rfl⟩⟩
    · refine ⟨D, c.parts.map fun c => (c.size : Int), rfl, SqL.of ?_, _, _, rfl, rfl, ?_⟩
      · rw [hvs, List.map_map]
        refine congrArg some (congrArg HO.lst (map_of_at (by rw [lvs, ← lus]) fun i u y h1 h2 => ?_))
        obtain ⟨y2, h3, h4⟩ := hr2 i u h1
        rw [h2] at h3
        cases h3
        exact h4
      · rw [← sizeL_sum]
        have e : (1 : Int) + (sizeL c.parts : Int) = ((c.size : Nat) : Int) := by rw [size_parts c]; omega
        have z := hQ H2 (k1.trans k.w)
        rw [← e] at z
        exact z

theorem inStr {x : Str} {ns : List Str} : inV (.str x) (ns.map V.str) = decide (x ∈ ns) := by
  unfold inV
  rw [List.any_map]
  refine Bool.eq_iff_iff.mpr ?_
  rw [List.any_eq_true, decide_eq_true_eq]
  constructor
  · rintro ⟨y, hy, e⟩
    have e2 : y = x := by simpa [L2.eqV] using e
    rw [← e2]
    exact hy
  · intro h
    exact ⟨x, h, by simp [L2.eqV]⟩
theorem flatStrs (ns : List Str) : (ns.map V.str).all flatV = true := by
  rw [List.all_map, List.all_eq_true]
  intro x hx
  rfl
def spCN (K : PySem.W.Frag) : Sp := fun vs H Q E => ∃ (x : Str) (nl : Addr) (ns : List Str), vs = [.str x, .ref nl] ∧ H nl = some (.lst (ns.map V.str)) ∧ Chk (x ∈ ns) K H E fun H' => Q .non H'
theorem sc_check_name : FnScope ["name", "names"] ["name", "names"] (defScope (top 27)) := ⟨rfl, rfl, rfl, by decide +kernel, rfl, by decide +kernel, by decide +kernel⟩
theorem ok_check_name (T : Tx w K mg) : Ok1 P w K mg base (L2.CX P w) 4 "check_name" ["name", "names"] (spCN K) := by
  have sc := sc_check_name
  refine ok1_of T.glo (T.def_ 17) sc (fun vs H Q E h => ?_) (fun _ _ _ _ _ _ us hl => match us, hl with | [_, _], _ => rfl) (fun cdv A outer s H vs Q E hr h => ?_)
  · obtain ⟨x, nl, ns, rfl, _⟩ := h
    rfl
  have tk : Takes (cxOf (L2.CX P w) P w K mg base ["name", "names"] "check_name" (defScope (top 27)) (He.ga K "check_name") cdv A outer s H E) (fun cls d _ H => E cls d H) := takes_of rfl rfl rfl rfl
  have hrE := hr
  refine ⟨_, (pss_one (ps_if (pt_cmpR op_notIn_seq (pv 0) (pv 1) (by rfl)) (pss_one (ps_err (ok_UnknownName T) hrE rfl tk (pa_cons (pv 0) pa_nil))) pss_nil)), ?_⟩
  obtain ⟨x, nl, ns, rfl, hn, hC⟩ := h
  refine ⟨_, rfl, _, rfl, nl, _, rfl, .inl (SqL.of hn), rfl, flatStrs ns, _, rfl, ?_⟩
  rw [inStr]
  by_cases c : x ∈ ns
  · rw [decide_eq_true c]
    exact itF rfl (hC.yes c)
  · rw [decide_eq_false c]
    refine itT rfl ?_
    refine ⟨_, rfl, ?_⟩
    exact err_endI (hC.2 c) (KeepI.refl H) rfl (by show 1 ≤ 1000; decide)
def NodeOk (ns rs : List Str) : Cond → Prop
  | .mat n p => n ∈ ns ∧ isPat p = true
  | .same a b => a ∈ ns ∧ b ∈ ns
  | .empty n => n ∈ rs
  | _ => True
/-- the texts of a condition are small -/
def okS (x : Str) : Prop := x.length ≤ 1000000 ∧ PyData.strOk x = true
def Sm (ws : List Str) : Prop := ∀ x ∈ ws, okS x
theorem strOk_tl (x : Str) : PyData.strOk x = (tl x).all (· < 0x110000) := by
  unfold PyData.strOk
  rw [← Array.all_toList]
theorem okS_eqT {t : Str} (h : okS (eqT t)) : okS t := by
  obtain ⟨h1, h2⟩ := h
  rw [strOk_tl] at h2
  unfold eqT at h1 h2
  rw [tl_append, List.all_append, Bool.and_eq_true] at h2
  rw [len_tl, tl_append, List.length_append] at h1
  refine ⟨by rw [len_tl]; omega, ?_⟩
  rw [strOk_tl]
  exact h2.2
theorem Sm.pat {n p : Str} (h : Sm (Cond.mat n p).words) : p.length ≤ 1000000 := (okS_eqT (h (eqT p) (by simp [Cond.words]))).1
def spNode (K : PySem.W.Frag) : Sp := fun vs H Q E => ∃ (c : Cond) (v : V) (nl rl : Addr) (ns rs : List Str), vs = [v, .ref nl, .ref rl] ∧ CondAt H c v ∧ Sm c.words ∧ H nl = some (.lst (ns.map V.str)) ∧ H rl = some (.lst (rs.map V.str)) ∧ Chk (NodeOk ns rs c) K H E fun H' => Q .non H'
theorem lenOf (c : Cond) (h : c.word ≠ "and" ∧ c.word ≠ "or") : (c.word, ((1 + c.strs.length + c.parts.length : Nat) : Int)) ∈ lensL := by
  cases c with
  | many b ps => cases b <;> simp [Cond.word, bw] at h
  | _ => simp [Cond.word, Cond.strs, Cond.parts, lensL]
theorem sc_check_node : FnScope ["condition", "names", "registers", "word"] ["condition", "names", "registers"] (defScope (top 28)) := ⟨rfl, rfl, rfl, by decide +kernel, rfl, by decide +kernel, by decide +kernel⟩
theorem ok_check_node (T : Tx w K mg) : Ok1 P w K mg base (L2.CX P w) 5 "check_node" ["condition", "names", "registers"] (spNode K) := by
  have sc := sc_check_node
  have F_check_name := ok_check_name (P := P) (base := base) T
  have F_is_pattern := ok_is_pattern (P := P) (base := base) T
  obtain ⟨_, _, LD⟩ := T.lens
  refine ok1_of T.glo (T.def_ 18) sc (fun vs H Q E h => ?_) (fun _ _ _ _ _ _ us hl => match us, hl with | [_, _, _], _ => rfl) (fun cdv A outer s H vs Q E hr h => ?_)
  · obtain ⟨c, v, nl, rl, ns, rs, rfl, _⟩ := h
    rfl
  have tk : Takes (cxOf (L2.CX P w) P w K mg base ["condition", "names", "registers", "word"] "check_node" (defScope (top 28)) (He.ga K "check_node") cdv A outer s H E) (fun cls d _ H => E cls d H) := takes_of rfl rfl rfl rfl
  have hrE := hr.mono (show 3 ≤ 4 by decide)
  have hr_check_name := hr
  have hr_is_pattern := hr.mono (show 1 ≤ 4 by decide)
  refine ⟨_, (pss_cons (ps_if (PW.pt (pw_or (pt_not (pt_val (pe_callB RZ.call_isTy (by rfl) T.free (by decide +kernel) (pa_cons (pv 0) (pa_cons (pe_bltn (v := .ty "tuple") (by rfl) T.free (by decide +kernel) rfl) pa_nil))))) (pw_or (pt_cmpR op_eq (pe_callB call_len_seq (by rfl) T.free PySem.boot_len (pa_cons (pv 0) pa_nil)) pe_int (nomark _)) (pw_or1 (pt_not (pt_val (pe_callB RZ.call_isTy (by rfl) T.free (by decide +kernel) (pa_cons (pe_ix ix_tup (pv 0) pe_int (fun _ _ => rfl)) (pa_cons (pe_bltn (v := .ty "str") (by rfl) T.free (by decide +kernel) rfl) pa_nil))))))))) (pss_one (ps_err (ok_BadCondition T) hrE rfl tk (pa_cons (pv 0) pa_nil))) pss_nil)
    (pss_cons (ps_set (i := 3) sc.nd rfl (by first | exact Or.inl rfl | exact Or.inr rfl) (pe_ix ix_tup (pv 0) pe_int (fun _ _ => rfl)))
    (pss_cons (ps_if (PW.pt (pw_and (pt_cmpR op_notIn_seq (pv 3) (pe_tup (pa_cons pe_str (pa_cons pe_str pa_nil))) (by rfl)) (pw_and1 (pt_cmpR op_ne (pe_kget2 LD (pe_glob (v := .ref (He.ga K "LENGTHS")) (by rfl) T.glo rfl) (pv 3) pe_int ⟨rfl, rfl, rfl, rfl⟩) (pe_callB call_len_seq (by rfl) T.free PySem.boot_len (pa_cons (pv 0) pa_nil)) (nomark _))))) (pss_one (ps_err (ok_BadCondition T) hrE rfl tk (pa_cons (pv 0) pa_nil))) pss_nil)
    (pss_one (ps_if (pt_cmpR op_eq (pv 3) pe_str (nomark _)) (pss_cons (ps_expr (pe_f F_check_name hr_check_name (passes_call tk fun _ _ _ _ h => h) (pa_cons (pe_ix ix_tup (pv 0) pe_int (fun _ _ => rfl)) (pa_cons (pv 1) pa_nil))))
    (pss_one (ps_if (pt_not (pt_val (pe_f F_is_pattern hr_is_pattern pass0 (pa_cons (pe_ix ix_tup (pv 0) pe_int (fun _ _ => rfl)) pa_nil)))) (pss_one (ps_err (ok_BadPattern T) hrE rfl tk (pa_cons (pe_ix ix_tup (pv 0) pe_int (fun _ _ => rfl)) pa_nil))) pss_nil))) (pss_one (ps_if (pt_cmpR op_eq (pv 3) pe_str (nomark _)) (pss_cons (ps_expr (pe_f F_check_name hr_check_name (passes_call tk fun _ _ _ _ h => h) (pa_cons (pe_ix ix_tup (pv 0) pe_int (fun _ _ => rfl)) (pa_cons (pv 1) pa_nil))))
    (pss_one (ps_expr (pe_f F_check_name hr_check_name (passes_call tk fun _ _ _ _ h => h) (pa_cons (pe_ix ix_tup (pv 0) pe_int (fun _ _ => rfl)) (pa_cons (pv 1) pa_nil)))))) (pss_one (ps_if (pt_cmpR op_eq (pv 3) pe_str (nomark _)) (pss_one (ps_expr (pe_f F_check_name hr_check_name (passes_call tk fun _ _ _ _ h => h) (pa_cons (pe_ix ix_tup (pv 0) pe_int (fun _ _ => rfl)) (pa_cons (pv 2) pa_nil))))) pss_nil))))))))), ?_⟩
  obtain ⟨c, v, nl, rl, ns, rs, rfl, hc, sm, hn, hl, hC⟩ := h
  obtain ⟨p, xs, rfl, hp, h1, h2⟩ := hc.tup
  refine ⟨_, rfl, _, _, rfl, .tup hp, _, rfl, itF rfl ?_⟩
  refine ⟨_, rfl, p, _, rfl, .inr (SqT.of hp), rfl, _, rfl, itF (decide_eq_false fun z => by have z2 := V.int.inj z; simp at z2; omega) ?_⟩
  refine ⟨_, rfl, p, _, 0, _, rfl, rfl, SqT.of hp, at_of (j := 0) rfl rfl, _, _, rfl, .str c.word, _, rfl, itF rfl ?_⟩
  refine ⟨_, rfl, p, _, 0, _, rfl, rfl, SqT.of hp, at_of (j := 0) rfl rfl, ?_⟩
  refine ⟨_, rfl, by show 2 ≤ sizeLine; decide, fun p0 np0 => ?_⟩
  have k0 : KeepI H (upd H p0 (.tup [.str "and", .str "or"])) := KeepI.new np0
  have hp0 := k0 p _ hp rfl
  have hn0 := k0 nl _ hn rfl
  have hl0 := k0 rl _ hl rfl
  have hC0 := hC.keep k0
  refine ⟨p0, _, rfl, .inr (SqT.of upd_same), rfl, rfl, _, rfl, ?_⟩
  generalize upd H p0 (.tup [.str "and", .str "or"]) = H0 at k0 hp0 hn0 hl0 hC0
  by_cases hm : c.word ≠ "and" ∧ c.word ≠ "or"
  · refine itT (by simp [inV, L2.eqV, Ne.symm hm.1, Ne.symm hm.2]) ?_
    obtain ⟨t, et⟩ := T.len (lenOf c hm)
    have lx : xs.length = c.strs.length + c.parts.length := by
      cases e : c.conn with
      | true =>
        have z := Paired.length (condsAt_to (h1 e))
        have es : c.strs = [] := by
          cases c <;> first
            | rfl
            | cases e
        rw [es]
        simp [z]
      | false =>
        have es : c.parts = [] := by
          cases c <;> first
            | rfl
            | cases e
        rw [es, h2 e]
        simp
    refine ⟨rfl, _, rfl, _, _, .int _, rfl, et, ⟨t, rfl⟩, _, rfl, p, _, rfl, .inr (SqT.of hp0), rfl, _, rfl, itF ?_ ?_⟩
    · have e : ((1 + c.strs.length + c.parts.length : Nat) : Int) = ((V.str c.word :: xs).length : Int) := by simp [lx]; omega
      rw [e]
      simp
    · cases c with
      | mat n q =>
        have ex := h2 rfl
        subst ex
        refine ⟨_, rfl, rfl, _, rfl, itT (by first | (simp only [Cond.word, bw]; done) | (simp only [Cond.word, bw]; decide +kernel)) ?_⟩
        refine ⟨_, rfl, p, _, 1, _, rfl, rfl, SqT.of hp0, at_of (j := 1) rfl rfl, _, rfl, n, nl, ns, rfl, hn0, hC0.and.imp fun H1 _ k1 hC1 => ?_⟩
        refine ⟨_, rfl, p, _, 2, _, rfl, rfl, SqT.of (k1 p _ hp0 rfl), at_of (j := 2) rfl rfl, q, rfl, sm.pat, fun H2 k2 => ⟨_, rfl, ?_⟩⟩
        have hC2 := hC1.keep k2
        cases e : isPat q with
        | true => exact itF rfl (hC2.yes e)
        | false =>
          refine itT rfl ?_
          refine ⟨_, rfl, p, _, 2, _, rfl, rfl, SqT.of (k2 p _ (k1 p _ hp0 rfl) rfl), at_of (j := 2) rfl rfl, ?_⟩
          exact err_endI (hC2.2 (by rw [e]; decide)) (KeepI.refl H2) rfl (by show 1 ≤ 1000; decide)
      | same n q =>
        have ex := h2 rfl
        subst ex
        refine ⟨_, rfl, rfl, _, rfl, itF (decide_eq_false fun z => absurd (V.str.inj z) (by simp only [Cond.word, bw]; decide +kernel)) ⟨_, rfl, rfl, _, rfl, itT (by first | (simp only [Cond.word, bw]; done) | (simp only [Cond.word, bw]; decide +kernel)) ?_⟩⟩
        refine ⟨_, rfl, p, _, 1, _, rfl, rfl, SqT.of hp0, at_of (j := 1) rfl rfl, _, rfl, n, nl, ns, rfl, hn0, hC0.and.imp fun H1 _ k1 hC1 => ?_⟩
        exact ⟨_, rfl, p, _, 2, _, rfl, rfl, SqT.of (k1 p _ hp0 rfl), at_of (j := 2) rfl rfl, _, rfl, q, nl, ns, rfl, k1 nl _ hn0 rfl, hC1⟩
      | empty n =>
        have ex := h2 rfl
        subst ex
        refine ⟨_, rfl, rfl, _, rfl, itF (decide_eq_false fun z => absurd (V.str.inj z) (by simp only [Cond.word, bw]; decide +kernel)) ⟨_, rfl, rfl, _, rfl, itF (decide_eq_false fun z => absurd (V.str.inj z) (by simp only [Cond.word, bw]; decide +kernel)) ⟨_, rfl, rfl, _, rfl, itT (by first | (simp only [Cond.word, bw]; done) | (simp only [Cond.word, bw]; decide +kernel)) ?_⟩⟩⟩
        exact ⟨_, rfl, p, _, 1, _, rfl, rfl, SqT.of hp0, at_of (j := 1) rfl rfl, _, rfl, n, rl, rs, rfl, hl0, hC0⟩
      | always => exact ⟨_, rfl, rfl, _, rfl, itF (decide_eq_false fun z => absurd (V.str.inj z) (by simp only [Cond.word, bw]; decide +kernel)) ⟨_, rfl, rfl, _, rfl, itF (decide_eq_false fun z => absurd (V.str.inj z) (by simp only [Cond.word, bw]; decide +kernel)) ⟨_, rfl, rfl, _, rfl, itF (decide_eq_false fun z => absurd (V.str.inj z) (by simp only [Cond.word, bw]; decide +kernel)) (hC0.yes trivial)⟩⟩⟩
      | never => exact ⟨_, rfl, rfl, _, rfl, itF (decide_eq_false fun z => absurd (V.str.inj z) (by simp only [Cond.word, bw]; decide +kernel)) ⟨_, rfl, rfl, _, rfl, itF (decide_eq_false fun z => absurd (V.str.inj z) (by simp only [Cond.word, bw]; decide +kernel)) ⟨_, rfl, rfl, _, rfl, itF (decide_eq_false fun z => absurd (V.str.inj z) (by simp only [Cond.word, bw]; decide +kernel)) (hC0.yes trivial)⟩⟩⟩
      | not c => exact ⟨_, rfl, rfl, _, rfl, itF (decide_eq_false fun z => absurd (V.str.inj z) (by simp only [Cond.word, bw]; decide +kernel)) ⟨_, rfl, rfl, _, rfl, itF (decide_eq_false fun z => absurd (V.str.inj z) (by simp only [Cond.word, bw]; decide +kernel)) ⟨_, rfl, rfl, _, rfl, itF (decide_eq_false fun z => absurd (V.str.inj z) (by simp only [Cond.word, bw]; decide +kernel)) (hC0.yes trivial)⟩⟩⟩
      | many b ps => cases b <;> simp [Cond.word, bw] at hm
  · have hc2 : ∃ b ps, c = .many b ps := by
      cases c with
      | many b ps => exact ⟨b, ps, rfl⟩
      | _ => exact absurd (show _ ≠ _ ∧ _ ≠ _ from ⟨by simp only [Cond.word]; decide +kernel, by simp only [Cond.word]; decide +kernel⟩) hm
    obtain ⟨b, ps, rfl⟩ := hc2
    refine itF (by cases b <;> first | (simp only [Cond.word, bw]; done) | (simp only [Cond.word, bw]; decide +kernel)) (itF rfl ?_)
    cases b <;> exact ⟨_, rfl, rfl, _, rfl, itF (decide_eq_false fun z => absurd (V.str.inj z) (by simp only [Cond.word, bw]; decide +kernel)) ⟨_, rfl, rfl, _, rfl, itF (decide_eq_false fun z => absurd (V.str.inj z) (by simp only [Cond.word, bw]; decide +kernel)) ⟨_, rfl, rfl, _, rfl, itF (decide_eq_false fun z => absurd (V.str.inj z) (by simp only [Cond.word, bw]; decide +kernel)) (hC0.yes trivial)⟩⟩⟩
/-! ### the whole condition -/
theorem Sm.part {c x : Cond} (h : Sm c.words) (hx : x ∈ c.parts) : Sm x.words := by
  cases c with
  | not c =>
    rw [Cond.parts, List.mem_singleton] at hx
    subst hx
    intro y hy
    exact h y (by rw [Cond.words]; exact List.mem_cons_of_mem _ hy)
  | many b ps =>
    intro y hy
    refine h y ?_
    rw [Cond.words, wordsL_eq]
    exact List.mem_cons_of_mem _ (List.mem_cons_of_mem _ (List.mem_flatten_of_mem (List.mem_map_of_mem hx) hy))
  | _ => cases hx
theorem condsOk_iff {ns rs : List Str} {d : Nat} : ∀ ps : List Cond, CondsOk ns rs d ps ↔ ∀ c ∈ ps, CondOk ns rs d c
  | [] => by simp [CondsOk]
  | c :: r => by
    rw [CondsOk, condsOk_iff r]
    simp
theorem condOk_iff {ns rs : List Str} {d : Nat} (c : Cond) : CondOk ns rs (d + 1) c ↔ NodeOk ns rs c ∧ ∀ x ∈ c.parts, CondOk ns rs d x := by
  cases c with
  | many b ps =>
    rw [CondOk, condsOk_iff]
    simp [NodeOk, Cond.parts]
  | _ => simp [CondOk, NodeOk, Cond.parts]
def spCP (K : PySem.W.Frag) (d : Nat) : Sp := fun vs H Q E => ∃ (c : Cond) (v : V) (nl rl : Addr) (ns rs : List Str), vs = [v, .ref nl, .ref rl, .int (d : Nat)] ∧ CondAt H c v ∧ Sm c.words ∧ c.fits d ∧ H nl = some (.lst (ns.map V.str)) ∧ H rl = some (.lst (rs.map V.str)) ∧
  Chk (CondOk ns rs d c) K H E fun H' => Q .non H'
theorem sc_check_parts : FnScope ["condition", "names", "registers", "depth", "part"] ["condition", "names", "registers", "depth"] (defScope (top 29)) := ⟨rfl, rfl, rfl, by decide +kernel, rfl, by decide +kernel, by decide +kernel⟩
theorem ok_check_parts (T : Tx w K mg) : ∀ d : Nat, Ok1 P w K mg base (L2.CX P w) (6 + d) "check_parts" ["condition", "names", "registers", "depth"] (spCP K d)
  | 0 => by
    have sc := sc_check_parts
    refine ok1_of T.glo (T.def_ 19) sc (fun vs H Q E h => ?_) (fun _ _ _ _ _ _ us hl => match us, hl with | [_, _, _, _], _ => rfl) (fun cdv A outer s H vs Q E hr h => ?_)
    · obtain ⟨c, v, nl, rl, ns, rs, rfl, _⟩ := h
      rfl
    · obtain ⟨c, v, nl, rl, ns, rs, rfl, _, _, hf, _⟩ := h
      rw [Cond.fits] at hf
      exact hf.elim
  | d + 1 => by
    have sc := sc_check_parts
    have F_parts_of := ok_parts_of (P := P) (base := base) T
    have F_check_node := ok_check_node (P := P) (base := base) T
    have F_check_parts := ok_check_parts T d
    refine ok1_of T.glo (T.def_ 19) sc (fun vs H Q E h => ?_) (fun _ _ _ _ _ _ us hl => match us, hl with | [_, _, _, _], _ => rfl) (fun cdv A outer s H vs Q E hr h => ?_)
    · obtain ⟨c, v, nl, rl, ns, rs, rfl, _⟩ := h
      rfl
    have tk : Takes (cxOf (L2.CX P w) P w K mg base ["condition", "names", "registers", "depth", "part"] "check_parts" (defScope (top 29)) (He.ga K "check_parts") cdv A outer s H E) (fun cls d _ H => E cls d H) := takes_of rfl rfl rfl rfl
    have hrE := hr.mono (show 3 ≤ 6 + d by omega)
    have hr_parts_of := hr.mono (show 1 ≤ 6 + d by omega)
    have hr_check_node := hr.mono (show 5 ≤ 6 + d by omega)
    have hr_check_parts := hr
    refine ⟨_, (pss_cons (ps_if (pt_cmpR op_eq (pv 3) pe_int (nomark _)) (pss_one (ps_err (ok_BadCondition T) hrE rfl tk (pa_cons (pv 0) pa_nil))) pss_nil)
    (pss_cons (ps_expr (pe_f F_check_node hr_check_node (passes_call tk fun _ _ _ _ h => h) (pa_cons (pv 0) (pa_cons (pv 1) (pa_cons (pv 2) pa_nil)))))
    (pss_one (ps_for (passes_of rfl) rfl (pi_tup (pe_f F_parts_of hr_parts_of pass0 (pa_cons (pv 0) pa_nil))) (pg_name (i := 4) sc.nd rfl (by first | exact Or.inl rfl | exact Or.inr rfl)) (pss_one (ps_expr (pe_f F_check_parts hr_check_parts (passes_call tk fun _ _ _ _ h => h) (pa_cons (pv 4) (pa_cons (pv 1) (pa_cons (pv 2) (pa_cons (pe_op op_sub (pv 3) pe_int) pa_nil))))))))))), ?_⟩
    obtain ⟨c, v, nl, rl, ns, rs, rfl, hc, sm, hf, hn, hl, hC⟩ := h
    obtain ⟨f1, f2⟩ := fits_parts hf
    refine ⟨_, rfl, rfl, _, rfl, itF (decide_eq_false fun z => by have z2 := V.int.inj z; omega) ?_⟩
    have hC1 := (hC.iff (condOk_iff c)).and
    refine ⟨_, rfl, _, rfl, _, rfl, c, v, nl, rl, ns, rs, rfl, hc, sm, hn, hl, hC1.imp fun H1 _ k1 hC2 => ?_⟩
    refine ⟨_, rfl, c, v, rfl, hc.keep k1.tup, fun p us H2 k2 hp hcs => ⟨p, rfl, ⟨_, SqT.of hp⟩, ?_⟩⟩
    have hpr := condsAt_to hcs
    have hC3 := hC2.keep k2
    have lus := Paired.length hpr
    refine for_tup (a := p) (xs := us) (fun i σ H' => KeepI H2 H' ∧ (∃ pv, σ = [some v, some (.ref nl), some (.ref rl), some (.int ((d + 1 : Nat) : Int)), pv]) ∧ ∀ j x, j < i → c.parts[j]? = some x → CondOk ns rs d x)
      ⟨KeepI.refl _, ⟨_, rfl⟩, fun j x h => absurd h (Nat.not_lt_zero j)⟩ (fun i σ H' _ ⟨k, _⟩ => SqT.of (k p _ hp rfl)) (fun i x σ H' hx ⟨k, ⟨pv, es⟩, hd⟩ => ?_) (fun σ H' ⟨k, _, hd⟩ => ?_)
    · subst es
      obtain ⟨y, e1, e2⟩ := Paired.at_ hpr i x hx
      have my := List.mem_of_getElem? e1
      refine ⟨_, rfl, _, rfl, _, rfl, _, rfl, _, _, rfl, rfl, y, x, nl, rl, ns, rs, ?_, e2.keep k.tup, sm.part my, f2 y my, k nl _ (k2 nl _ (k1 nl _ hn rfl) rfl) rfl, k rl _ (k2 rl _ (k1 rl _ hl rfl) rfl) rfl, ?_, ?_⟩
      · have e : ((d + 1 : Nat) : Int) - 1 = (d : Int) := by omega
        show [x, V.ref nl, V.ref rl, V.int (((d + 1 : Nat) : Int) - 1)] = _
        rw [e]
      · refine fun ok H3 k3 => ⟨k.trans k3, ⟨_, rfl⟩, fun j z hj hz => ?_⟩
        rcases Nat.lt_succ_iff_lt_or_eq.mp hj with h1 | h1
        · exact hd j z h1 hz
        · rw [h1, e1] at hz
          cases hz
          exact ok
      · exact fun no => RE.monoI (hC3.2 fun z => no (z y my)) k
    · refine hC3.1 (fun x hx => ?_) H' k
      obtain ⟨j, hj⟩ := List.getElem?_of_mem hx
      have lt : j < c.parts.length := by
        rcases Nat.lt_or_ge j c.parts.length with z | z
        · exact z
        · rw [List.getElem?_eq_none z] at hj
          cases hj
      exact hd j x (by omega) hj
def spCC (K : PySem.W.Frag) : Sp := fun vs H Q E => ∃ (c : Cond) (v : V) (nl rl : Addr) (ns rs : List Str), vs = [v, .ref nl, .ref rl] ∧ CondAt H c v ∧ Sm c.words ∧ c.fits 6 ∧ H nl = some (.lst (ns.map V.str)) ∧ H rl = some (.lst (rs.map V.str)) ∧
  Chk (CondOk ns rs 6 c ∧ c.size ≤ 20) K H E fun H' => Q .non H'
theorem sc_check_condition : FnScope ["condition", "names", "registers"] ["condition", "names", "registers"] (defScope (top 30)) := ⟨rfl, rfl, rfl, by decide +kernel, rfl, by decide +kernel, by decide +kernel⟩
theorem ok_check_condition (T : Tx w K mg) : Ok1 P w K mg base (L2.CX P w) 13 "check_condition" ["condition", "names", "registers"] (spCC K) := by
  have sc := sc_check_condition
  have F_check_parts := ok_check_parts (P := P) (base := base) T 6
  have F_size_of := ok_size_of (P := P) (base := base) T 6
  obtain ⟨_, m_DEPTH_MOST⟩ := T.int (x := "DEPTH_MOST") (i := 6)
  obtain ⟨_, m_NODES_MOST⟩ := T.int (x := "NODES_MOST") (i := 20)
  refine ok1_of T.glo (T.def_ 20) sc (fun vs H Q E h => ?_) (fun _ _ _ _ _ _ us hl => match us, hl with | [_, _, _], _ => rfl) (fun cdv A outer s H vs Q E hr h => ?_)
  · obtain ⟨c, v, nl, rl, ns, rs, rfl, _⟩ := h
    rfl
  have tk : Takes (cxOf (L2.CX P w) P w K mg base ["condition", "names", "registers"] "check_condition" (defScope (top 30)) (He.ga K "check_condition") cdv A outer s H E) (fun cls d _ H => E cls d H) := takes_of rfl rfl rfl rfl
  have hrE := hr.mono (show 3 ≤ 12 by omega)
  have hr_check_parts := hr
  have hr_size_of := hr.mono (show 8 ≤ 12 by omega)
  refine ⟨_, (pss_cons (ps_expr (pe_f F_check_parts hr_check_parts (passes_call tk fun _ _ _ _ h => h) (pa_cons (pv 0) (pa_cons (pv 1) (pa_cons (pv 2) (pa_cons (pe_glob (v := .int 6) (by rfl) m_DEPTH_MOST ⟨_, rfl⟩) pa_nil))))))
    (pss_one (ps_if (pt_cmpR op_gt (pe_f F_size_of hr_size_of pass0 (pa_cons (pv 0) pa_nil)) (pe_glob (v := .int 20) (by rfl) m_NODES_MOST ⟨_, rfl⟩) (nomark _)) (pss_one (ps_err (ok_BadCondition T) hrE rfl tk (pa_cons (pv 0) pa_nil))) pss_nil))), ?_⟩
  obtain ⟨c, v, nl, rl, ns, rs, rfl, hc, sm, hf, hn, hl, hC⟩ := h
  refine ⟨_, rfl, _, rfl, _, rfl, c, v, nl, rl, ns, rs, rfl, hc, sm, hf, hn, hl, hC.and.imp fun H1 _ k1 hC1 => ?_⟩
  refine ⟨_, rfl, c, v, rfl, hc.keep k1.tup, hf, fun H2 k2 => ⟨_, _, rfl, rfl, _, rfl, ?_⟩⟩
  have hC2 := hC1.keep k2
  by_cases e : c.size ≤ 20
  · exact itF (decide_eq_false (by omega)) (hC2.yes e)
  · refine itT (decide_eq_true (by omega)) ?_
    refine ⟨_, rfl, ?_⟩
    exact err_endI (hC2.2 e) (KeepI.refl H2) rfl (by show 1 ≤ 1000; decide)
end
end L2.Ta

set_option maxHeartbeats 4000000
/-! the checks: kinds, names -/
namespace L2.Ta
open PySem PySem.Spec PyProof.Rows L2 TL
theorem nodup_take {l : List Str} : l.Nodup ↔ ∀ i x, l[i]? = some x → x ∉ l.take i := by
  unfold List.Nodup
  rw [List.pairwise_iff_getElem]
  constructor
  · intro h i x hx hm
    obtain ⟨hi, ex⟩ := List.getElem?_eq_some_iff.mp hx
    obtain ⟨j, hj, e⟩ := List.mem_take_iff_getElem.mp hm
    exact h j i (by omega) hi (by omega) (e.trans ex.symm)
  · intro h i j hi hj hij e
    refine h j l[j] (by simp [hj]) ?_
    exact List.mem_take_iff_getElem.mpr ⟨i, by omega, e⟩
theorem cut_to {xs : List V} {k : Nat} (h : k ≤ xs.length) : cutV xs none (some (k : Int)) = xs.take k := by
  unfold cutV
  rw [HT.sIx_nat, HT.sIx_none, Nat.min_eq_left h]
  simp
theorem cut_from {xs : List V} {k : Nat} (h : k ≤ xs.length) : cutV xs (some (k : Int)) none = xs.drop k := by
  unfold cutV
  rw [HT.sIx_nat, HT.sIx_none, Nat.min_eq_left h, List.take_of_length_le (by simp)]
def tailOk (rs : List Str) (t : List Str) (i : Nat) (x : Str) : Prop := x ≠ "self" ∧ x ∉ rs ∧ x ∉ t.take i
theorem kindOk_iff {rs ks : List Str} : KindOk rs ks ↔ (1 ≤ ks.length ∧ ks.length ≤ 4) ∧ (∀ x ∈ ks, isName x = true) ∧ ∀ i x, ks.tail[i]? = some x → tailOk rs ks.tail i x := by
  constructor
  · rintro ⟨h1, h2, h3, h4, h5⟩
    refine ⟨h1, h2, fun i x hx => ⟨fun z => h4 ?_, h5 x (List.mem_of_getElem? hx), nodup_take.mp h3 i x hx⟩⟩
    rw [← z]
    exact List.mem_of_getElem? hx
  · rintro ⟨h1, h2, h3⟩
    refine ⟨h1, h2, nodup_take.mpr fun i x hx => (h3 i x hx).2.2, fun z => ?_, fun x hx => ?_⟩
    · obtain ⟨i, hi⟩ := List.getElem?_of_mem z
      exact (h3 i _ hi).1 rfl
    · obtain ⟨i, hi⟩ := List.getElem?_of_mem hx
      exact (h3 i _ hi).2.1
def KindAt (H : Hp) (k : List Str) (v : V) : Prop := TupS H v (k.map V.str)
theorem KindAt.keep {H H' : Hp} (t : TupK H H') {k : List Str} {v : V} (h : KindAt H k v) : KindAt H' k v := TupS.keep t h
def spIK (K : PySem.W.Frag) : Sp := fun vs H Q _ => ∃ (v : V) (ks : List Str) (rl : Addr) (rs : List Str), vs = [v, .ref rl] ∧ KindAt H ks v ∧ ks.length ≤ 1000000 ∧ Sm ks ∧ H rl = some (.lst (rs.map V.str)) ∧
  ∀ b H', (b = true ↔ KindOk rs ks) → KeepI H H' → Q (.bl b) H'
section
variable {P : Program} {w : World} {K : PySem.W.Frag} {mg : Str → Option Value} {base : Heap}
theorem sc_is_kind : FnScope ["kind", "registers", "name", "names", "k"] ["kind", "registers"] (defScope (top 36)) := ⟨rfl, rfl, rfl, by decide +kernel, rfl, by decide +kernel, by decide +kernel⟩
theorem ok_is_kind (T : Tx w K mg) : Ok1 P w K mg base CX0 2 "is_kind" ["kind", "registers"] (spIK K) := by
  have sc := sc_is_kind
  have F_is_name := ok_is_name (P := P) (base := base) T
  obtain ⟨_, m_VALUES_MOST⟩ := T.int (x := "VALUES_MOST") (i := 3)
  refine ok1_of T.glo (T.def_ 22) sc (fun vs H Q E h => ?_) (fun _ _ _ _ _ _ us hl => match us, hl with | [_, _], _ => rfl) (fun cdv A outer s H vs Q E hr h => ?_)
  · obtain ⟨v, ks, rl, rs, rfl, _⟩ := h
    rfl
  have hr_is_name := hr
  refine ⟨_, PSs.nox (pss_cons (ps_if (PW.pt (pw_or (pt_not (pt_chain op_le op_le pe_int (pe_callB call_len_seq (by rfl) T.free PySem.boot_len (pa_cons (pv 0) pa_nil)) (pe_op op_add (pe_glob (v := .int 3) (by rfl) m_VALUES_MOST ⟨_, rfl⟩) pe_int))) (pw_or1 (pt_not (pt_val (pe_callB (cr_all rfl) (by rfl) T.free (by decide +kernel) (pa_cons (pe_lc (own := [("name", 2)]) (g := gName 2) rfl sc.nd (pi_tup (pv 0)) (blkOk_by (own := [("name", 2)]) (N := ["kind", "registers", "name", "names", "k"]) (sc := defScope (top 36)) (by decide +kernel)) (fun _ _ _ _ _ => pg_name (i := 2) sc.nd rfl (Or.inl rfl)) (fun _ _ _ _ _ => pts_nil) (fun _ _ _ _ _ => (pe_f F_is_name hr_is_name pass0 (pa_cons (pv 2) pa_nil)))) pa_nil))))))) (pss_one (ps_ret pe_bl)) pss_nil)
    (pss_cons (ps_set (i := 3) sc.nd rfl (by first | exact Or.inl rfl | exact Or.inr rfl) (pe_slice sl_tup (pv 0) (po_some pe_int) po_none))
    (pss_cons (ps_for PassesOwn.never rfl (pi_range1 (by rfl) T.free (pa_cons (pe_callB call_len_seq (by rfl) T.free PySem.boot_len (pa_cons (pv 3) pa_nil)) pa_nil)) (pg_name (i := 4) sc.nd rfl (by first | exact Or.inl rfl | exact Or.inr rfl)) (pss_one (ps_if (PW.pt (pw_or (pt_cmpR op_eq (pe_ix ix_tup (pv 3) (pv 4) (fun _ _ => rfl)) pe_str (nomark _)) (pw_or (pt_cmpR op_in_seq (pe_ix ix_tup (pv 3) (pv 4) (fun _ _ => rfl)) (pv 1) (by rfl)) (pw_or1 (pt_cmpR op_in_seq (pe_ix ix_tup (pv 3) (pv 4) (fun _ _ => rfl)) (pe_slice sl_tup (pv 3) po_none (po_some (pv 4))) (by rfl)))))) (pss_one (ps_ret pe_bl)) pss_nil)))
    (pss_one (ps_ret pe_bl))))), ?_⟩
  obtain ⟨v, ks, rl, rs, rfl, ⟨p, rfl, hp⟩, hk, sm, hrl, hQ⟩ := h
  have nope : ∀ H', KeepI H H' → ¬ KindOk rs ks → Q (.bl false) H' := fun H' k no => hQ false H' ⟨fun z => (nomatch z), fun z => (no z).elim⟩ k
  refine ⟨_, rfl, p, _, rfl, .inr (SqT.of hp), _, _, rfl, rfl, _, rfl, ?_⟩
  rw [List.length_map]
  by_cases c1 : 1 ≤ ks.length
  · refine itT (decide_eq_true (by omega)) ⟨_, _, rfl, rfl, _, _, rfl, rfl, _, rfl, ?_⟩
    by_cases c2 : ks.length ≤ 4
    · refine itF (by rw [decide_eq_true (show (ks.length : Int) ≤ 3 + 1 by omega)]; rfl) ?_
      dsimp only [tNot, tB, tCB, tCons]
      refine ⟨_, rfl, p, rfl, ⟨_, SqT.of hp⟩, fun D hD => ?_⟩
      refine seq_lc (walk_tup (a := p) (xs := ks.map V.str)) (S := fun _ => False) (R := fun i v H => ∃ x, ks[i]? = some x ∧ v = .bl (isName x)) (fun _ _ _ _ _ z => z) (by rw [List.length_map]; exact hk) hD id (fun H' k => SqT.of (k.tup p _ hp)) (fun _ => rfl)
        (fun i x H2 Q1 hx k q => ?_) (fun H2 vs2 k hvs lvs hr2 => ?_)
      · rw [List.getElem?_map] at hx
        cases e : ks[i]? with
        | none => rw [e] at hx; cases hx
        | some y =>
          rw [e] at hx
          cases hx
          exact ⟨_, rfl, y, rfl, (sm y (List.mem_of_getElem? e)).1, fun H3 k3 => q _ _ k3.g ⟨y, e, rfl⟩⟩
      · rw [List.length_map] at lvs
        have ev : vs2 = (ks.map isName).map V.bl := by
          rw [List.map_map]
          refine map_of_at lvs fun i u y h1 h2 => ?_
          obtain ⟨y2, h3, h4⟩ := hr2 i u h1
          rw [h2] at h3
          cases h3
          exact h4
        subst ev
        refine ⟨D, ks.map isName, rfl, SqL.of hvs, _, rfl, ?_⟩
        have kA := k.w
        cases e : (ks.map isName).all id with
        | false =>
          refine itT rfl (nope H2 kA fun z => ?_)
          have e2 : (ks.map isName).all id = true := by
            rw [List.all_map, List.all_eq_true]
            exact fun x hx => z.names x hx
          rw [e] at e2
          cases e2
        | true =>
          have allN : ∀ x ∈ ks, isName x = true := by
            rw [List.all_map, List.all_eq_true] at e
            exact fun x hx => e x hx
          refine itF rfl ?_
          have hp2 := kA p _ hp rfl
          have hl1 : 1 ≤ (ks.map V.str).length := by rw [List.length_map]; exact c1
          refine ⟨_, rfl, _, rfl, p, _, rfl, SqT.of hp2, fun z => ?_, fun p1 np1 => ?_⟩
          · have z1 : HT.sIx (ks.map V.str).length 0 (some ((1 : Nat) : Int)) = 0 := z.1
            rw [HT.sIx_nat] at z1
            omega
          · rw [show (some (1 : Int)) = some ((1 : Nat) : Int) from rfl, cut_from hl1]
            have ed : (ks.map V.str).drop 1 = ks.tail.map V.str := by
              rw [← List.map_drop]
              simp
            rw [ed]
            have kB := kA.trans (KeepI.new (o := .tup (ks.tail.map V.str)) np1)
            have hp1 : upd H2 p1 (.tup (ks.tail.map V.str)) p1 = some (.tup (ks.tail.map V.str)) := upd_same
            generalize upd H2 p1 (.tup (ks.tail.map V.str)) = H3 at kB hp1
            have hrl3 := kB rl _ hrl rfl
            refine ⟨_, rfl, p1, _, rfl, .inr (SqT.of hp1), _, rfl, by omega, by rw [List.length_map, List.length_tail]; omega, ?_⟩
            rw [List.length_map]
            refine for_range (lo := 0) (n := (ks.tail.length : Int).toNat) (fun i σ H' => KeepI H3 H' ∧ (∃ nv kv, σ = [some (.ref p), some (.ref rl), nv, some (.ref p1), kv]) ∧ ∀ j x, j < i → ks.tail[j]? = some x → tailOk rs ks.tail j x)
              ⟨KeepI.refl _, ⟨_, _, rfl⟩, fun j x h => absurd h (Nat.not_lt_zero j)⟩ (fun i σ H' hi ⟨k4, ⟨nv, kv, es⟩, hd⟩ => ?_) (fun σ H' ⟨k4, _, hd⟩ => ?_)
            · subst es
              have hi2 : i < ks.tail.length := by omega
              have e0 : (0 : Int) + (i : Int) = ((i : Nat) : Int) := by omega
              have ei : (ks.tail.map V.str)[i]? = some (.str ks.tail[i]) := by simp [hi2]
              have ei2 : ks.tail[i]? = some ks.tail[i] := by simp [hi2]
              generalize ks.tail[i] = x at ei ei2
              have bad : ¬ tailOk rs ks.tail i x → Q (.bl false) H' := fun no => nope H' (kB.trans k4) fun z => no ((kindOk_iff.mp z).2.2 i x ei2)
              have hp4 := k4 p1 _ hp1 rfl
              refine ⟨_, rfl, _, rfl, p1, _, _, _, rfl, rfl, SqT.of hp4, at_of (j := i) e0 ei, rfl, _, rfl, ?_⟩
              by_cases d1 : x = "self"
              · exact itT (by simp [d1]) (itT rfl (bad fun z => z.1 d1))
              refine itF (by simp [d1]) ?_
              refine ⟨_, rfl, _, rfl, p1, _, _, _, rfl, rfl, SqT.of hp4, at_of (j := i) e0 ei, _, rfl, rl, _, rfl, .inl (SqL.of (k4 rl _ hrl3 rfl)), rfl, flatStrs rs, _, rfl, ?_⟩
              rw [inStr]
              by_cases d2 : x ∈ rs
              · exact itT (decide_eq_true d2) (itT rfl (bad fun z => z.2.1 d2))
              refine itF (decide_eq_false d2) ?_
              refine ⟨_, rfl, _, rfl, p1, _, _, _, rfl, rfl, SqT.of hp4, at_of (j := i) e0 ei, _, rfl, _, rfl, _, rfl, p1, _, rfl, SqT.of hp4, fun z => ?_, fun p5 np5 => ?_⟩
              · have z2 := z.2
                rw [e0, HT.sIx_nat, List.length_map] at z2
                omega
              · rw [e0, cut_to (by rw [List.length_map]; omega), ← List.map_take]
                refine ⟨p5, _, rfl, .inr (SqT.of upd_same), rfl, flatStrs _, _, rfl, ?_⟩
                rw [inStr]
                have kC := k4.trans (KeepI.new (o := .tup ((ks.tail.take i).map V.str)) np5)
                by_cases d3 : x ∈ ks.tail.take i
                · exact itT (decide_eq_true d3) (nope _ (kB.trans kC) fun z => ((kindOk_iff.mp z).2.2 i x ei2).2.2 d3)
                refine itF (decide_eq_false d3) ⟨kC, ⟨_, _, rfl⟩, fun j y hj hy => ?_⟩
                rcases Nat.lt_succ_iff_lt_or_eq.mp hj with h1 | h1
                · exact hd j y h1 hy
                · rw [h1, ei2] at hy
                  cases hy
                  rw [h1]
                  exact ⟨d1, d2, d3⟩
            · refine hQ true H' ⟨fun _ => kindOk_iff.mpr ⟨⟨c1, c2⟩, allN, fun i x hx => hd i x ?_ hx⟩, fun _ => rfl⟩ (kB.trans k4)
              have lt : i < ks.tail.length := by
                rcases Nat.lt_or_ge i ks.tail.length with z | z
                · exact z
                · rw [List.getElem?_eq_none z] at hx
                  cases hx
              omega
    · refine itT (by rw [decide_eq_false (show ¬ (ks.length : Int) ≤ 3 + 1 by omega)]; rfl) (itT rfl ?_)
      exact nope H (KeepI.refl H) fun z => c2 z.len.2
  · refine itF (decide_eq_false (by omega)) ⟨_, rfl, itT rfl (itT rfl ?_)⟩
    exact nope H (KeepI.refl H) fun z => c1 z.len.1
theorem kindsOk_iff {rs : List Str} {ks : List (List Str)} : KindsOk rs ks ↔ (1 ≤ ks.length ∧ ks.length ≤ 6) ∧ (∀ k ∈ ks, KindOk rs k) ∧ (ks.map hd).head? = some "new" ∧ ∀ i x, (ks.map hd)[i]? = some x → x ∉ (ks.map hd).take i :=
  ⟨fun ⟨a, b, c, d⟩ => ⟨a, b, c, nodup_take.mp d⟩, fun ⟨a, b, c, d⟩ => ⟨a, b, c, nodup_take.mpr d⟩⟩
theorem ok1_ofD {CX : CXT} {k : Nat} {x : Str} {st : Stmt} {N ps : List Str} {sp : Sp} {dvs : List V} (hm : mg x = some (.ref (He.ga K x))) (hd : ∃ fd, FunT K x x st dvs (gaf x K) fd) (S : FnScope N ps (defScope st))
    (len : ∀ vs H Q E, sp vs H Q E → vs.length = ps.length) (hdv : dvs ≠ [])
    (hb : ∀ (T : Addr) (kV doc pm : Value) (an : Option Addr) (cdv ct : Value) (us its : List Value), us.length = ps.length → its.length = dvs.length →
      ∃ k, bindArgs (PySem.W.fnOf x x (defArgs st) (defBody st) (defScope st) (.ref T) kV doc pm an cdv ct) ⟨us, []⟩ = seqItems? (.ref T) >>= k ∧ k (some its.toArray) = pure (ps.zip (us ++ its.drop dvs.length)))
    (hbody : ∀ (cdv : Value) (A : Around) (outer : List Env) (s : Shared) (H : Hp) (vs : List V) (Q : VK) (E : XK), Room k (A.deeper (envOfC x (defScope st) s.heap.objs.size (He.ga K x) cdv)) → sp vs H Q E →
      ∃ t, PSs (cxOf CX P w K mg base N x (defScope st) (He.ga K x) cdv A outer s H E) (defBody st) t ∧ t { nx := fun _ H' => Q .non H', rt := Q } (start N vs) H) : Ok1 P w K mg base CX (k + 1) x ps sp := by
  obtain ⟨fd, F⟩ := hd
  obtain ⟨ds, hv, b⟩ := F.binds1 ps.length dvs.length hdv (by simp) hb
  rw [List.drop_length] at hv
  cases hv
  exact ⟨fd, hm, F.kp, b, F.ok S len hbody⟩
def spCK (K : PySem.W.Frag) : Sp := fun vs H Q E => ∃ (kl rl : Addr) (us : List V) (ks : List (List Str)) (rs : List Str), vs = [.ref kl, .ref rl] ∧ H kl = some (.lst us) ∧ Paired (KindAt H) ks us ∧ (∀ k ∈ ks, Sm k) ∧ (∀ k ∈ ks, k.length ≤ 1000000) ∧
  H rl = some (.lst (rs.map V.str)) ∧ Chk (KindsOk rs ks) K H E fun H' => Q .non H'
theorem sc_check_kinds : FnScope ["kinds", "registers", "kind", "names", "k"] ["kinds", "registers"] (defScope (top 37)) := ⟨rfl, rfl, rfl, by decide +kernel, rfl, by decide +kernel, by decide +kernel⟩
theorem ok_check_kinds (T : Tx w K mg) : Ok1 P w K mg base (L2.CX P w) 4 "check_kinds" ["kinds", "registers"] (spCK K) := by
  have sc := sc_check_kinds
  have F_is_kind := ok_is_kind (P := P) (base := base) T
  obtain ⟨_, m_KINDS_MOST⟩ := T.int (x := "KINDS_MOST") (i := 6)
  refine ok1_ofD (dvs := [.ref (He.dflAt ("check_kinds", none) 0 K)]) T.glo (T.def_ 23) sc (fun vs H Q E h => ?_) (by simp) (fun T kV doc pm an cdv ct us its hu hi => match us, hu, its, hi with | [_, _], _, [_], _ => ⟨_, rfl, rfl⟩) (fun cdv A outer s H vs Q E hr h => ?_)
  · obtain ⟨kl, rl, us, ks, rs, rfl, _⟩ := h
    rfl
  have tk : Takes (cxOf (L2.CX P w) P w K mg base ["kinds", "registers", "kind", "names", "k"] "check_kinds" (defScope (top 37)) (He.ga K "check_kinds") cdv A outer s H E) (fun cls d _ H => E cls d H) := takes_of rfl rfl rfl rfl
  have hrE := hr
  have hr_is_kind := hr.mono (show 2 ≤ 3 by decide)
  refine ⟨_, (pss_cons (ps_if (pt_not (pt_chain op_le op_le pe_int (pe_callB call_len_seq (by rfl) T.free PySem.boot_len (pa_cons (pv 0) pa_nil)) (pe_glob (v := .int 6) (by rfl) m_KINDS_MOST ⟨_, rfl⟩))) (pss_one (ps_err0 (ok_BadKinds T) hrE rfl tk)) pss_nil)
    (pss_cons (ps_for (passes_of rfl) rfl (pi_list (pv 0)) (pg_name (i := 2) sc.nd rfl (by first | exact Or.inl rfl | exact Or.inr rfl)) (pss_one (ps_if (pt_not (pt_val (pe_f F_is_kind hr_is_kind pass0 (pa_cons (pv 2) (pa_cons (pv 1) pa_nil))))) (pss_one (ps_err0 (ok_BadKinds T) hrE rfl tk)) pss_nil)))
    (pss_cons (ps_setLc (i := 3) (own := [("kind", 2)]) (g := gName 2) rfl sc.nd rfl rfl (sw_true rfl rfl rfl (by decide +kernel)) (pi_list (pv 0)) (blkOk_by (own := [("kind", 2)]) (N := ["kinds", "registers", "kind", "names", "k"]) (sc := defScope (top 37)) (by decide +kernel)) (fun _ _ _ _ _ => pg_name (i := 2) sc.nd rfl (Or.inl rfl)) (fun _ _ _ _ _ => pts_nil) (fun _ _ _ _ _ => (pe_ix (show IxR _ (rIxT K) from ix_tup) (pv 2) pe_int (fun _ _ => rfl))))
    (pss_cons (ps_if (pt_cmpR op_ne (pe_ix ix_list (pv 3) pe_int (fun _ _ => rfl)) pe_str (nomark _)) (pss_one (ps_err0 (ok_BadKinds T) hrE rfl tk)) pss_nil)
    (pss_one (ps_for (passes_of rfl) rfl (pi_range1 (by rfl) T.free (pa_cons (pe_callB call_len_seq (by rfl) T.free PySem.boot_len (pa_cons (pv 3) pa_nil)) pa_nil)) (pg_name (i := 4) sc.nd rfl (by first | exact Or.inl rfl | exact Or.inr rfl)) (pss_one (ps_if (pt_cmpR op_in_seq (pe_ix ix_list (pv 3) (pv 4) (fun _ _ => rfl)) (pe_slice sl_list (pv 3) po_none (po_some (pv 4))) (by rfl)) (pss_one (ps_err0 (ok_BadKinds T) hrE rfl tk)) pss_nil)))))))), ?_⟩
  obtain ⟨kl, rl, us, ks, rs, rfl, hkl, hp, sm, hks, hrl, hC⟩ := h
  have hC0 := (hC.iff kindsOk_iff).and
  clear hC
  have lu := Paired.length hp
  refine ⟨_, rfl, kl, _, rfl, .inl (SqL.of hkl), _, _, rfl, rfl, _, rfl, ?_⟩
  rw [← lu]
  by_cases c1 : 1 ≤ ks.length
  rotate_left
  · refine itF (decide_eq_false (by omega)) ⟨_, rfl, itT rfl ?_⟩
    exact err_endI (pl := .non) (dvs := [.non]) (hC0.2 fun z => c1 z.1) (KeepI.refl _) rfl (by show 0 ≤ 1000; decide)
  refine itT (decide_eq_true (by omega)) ⟨_, _, rfl, rfl, _, rfl, ?_⟩
  by_cases c2 : ks.length ≤ 6
  rotate_left
  · refine itT (by rw [decide_eq_false (show ¬ (ks.length : Int) ≤ 6 by omega)]; rfl) ?_
    exact err_endI (pl := .non) (dvs := [.non]) (hC0.2 fun z => c2 z.2) (KeepI.refl _) rfl (by show 0 ≤ 1000; decide)
  refine itF (by rw [decide_eq_true (show (ks.length : Int) ≤ 6 by omega)]; rfl) ?_
  have hC1 := hC0.yes ⟨c1, c2⟩
  clear hC0
  have hC2 := hC1.and
  refine ⟨_, rfl, kl, rfl, ⟨_, SqL.of hkl⟩, ?_⟩
  refine for_list (a := kl) (xs := us) (fun i σ H' => KeepI H H' ∧ (∃ kv, σ = [some (.ref kl), some (.ref rl), kv, none, none]) ∧ ∀ j x, j < i → ks[j]? = some x → KindOk rs x)
    ⟨KeepI.refl _, ⟨_, rfl⟩, fun j x h => absurd h (Nat.not_lt_zero j)⟩ (fun i σ H' _ ⟨k, _⟩ => SqL.of (k kl _ hkl rfl)) (fun i x σ H' hx ⟨k, ⟨kv, es⟩, hd⟩ => ?_) (fun σ H' ⟨k, ⟨kv, es⟩, hd⟩ => ?_)
  · subst es
    obtain ⟨y, e1, e2⟩ := Paired.at_ hp i x hx
    have my := List.mem_of_getElem? e1
    refine ⟨_, rfl, _, rfl, x, y, rl, rs, rfl, e2.keep k.tup, hks y my, sm y my, k rl _ hrl rfl, fun b H3 hb k3 => ⟨_, rfl, ?_⟩⟩
    cases b with
    | true =>
      refine itF rfl ⟨k.trans k3, ⟨_, rfl⟩, fun j z hj hz => ?_⟩
      rcases Nat.lt_succ_iff_lt_or_eq.mp hj with h1 | h1
      · exact hd j z h1 hz
      · rw [h1, e1] at hz
        cases hz
        exact hb.mp rfl
    | false =>
      refine itT rfl ?_
      have no : ¬ ∀ k ∈ ks, KindOk rs k := fun z => by
        have z2 := hb.mpr (z y my)
        cases z2
      exact err_endI (pl := .non) (dvs := [.non]) (hC2.2 no) (k.trans k3) rfl (by show 0 ≤ 1000; decide)
  subst es
  have ok2 : ∀ k ∈ ks, KindOk rs k := fun x hx => by
    obtain ⟨j, hj⟩ := List.getElem?_of_mem hx
    refine hd j x ?_ hj
    rcases Nat.lt_or_ge j us.length with z | z
    · exact z
    · rw [List.getElem?_eq_none (by omega)] at hj
      cases hj
  have hC3 := hC2.1 ok2 H' k
  clear hC1 hC2 hd
  dsimp only [tSeq, tAsg]
  have hkl' := k kl _ hkl rfl
  have hp' : Paired (KindAt H') ks us := Paired.keepR (fun _ _ => KindAt.keep k.tup) hp
  refine ⟨_, rfl, kl, rfl, ⟨_, SqL.of hkl'⟩, fun D hD => ?_⟩
  refine seq_lc (walk_list (a := kl) (xs := us)) (S := fun _ => False) (R := fun i v H => ∃ x, ks[i]? = some x ∧ v = .str (Ta.hd x)) (fun _ _ _ _ _ z => z) (by omega) hD id (fun H2 k => SqL.of (k.w kl _ hkl' rfl)) (fun _ => rfl)
    (fun i x H2 Q1 hx k q => ?_) (fun H2 vs2 k2 hvs lvs hr2 => ?_)
  · obtain ⟨y, e1, ⟨p, e2, e3⟩⟩ := Paired.at_ hp' i x hx
    have ly := (ok2 y (List.mem_of_getElem? e1)).len.1
    refine ⟨_, rfl, p, _, 0, .str (Ta.hd y), e2, rfl, SqT.of (k.tup p _ e3), at_of (j := 0) rfl ?_, q _ _ (KeepG.refl H2) ⟨y, e1, rfl⟩⟩
    cases y with
    | nil => cases ly
    | cons a r => rfl
  have ev : vs2 = (ks.map Ta.hd).map V.str := by
    rw [List.map_map]
    refine map_of_at (by omega) fun i u y h1 h2 => ?_
    obtain ⟨y2, h3, h4⟩ := hr2 i u h1
    rw [h2] at h3
    cases h3
    exact h4
  subst ev
  have hC4 := (hC3.keep k2.w).and
  have lk : (ks.map Ta.hd).length = ks.length := List.length_map _
  have h0 : ∃ a r, ks.map Ta.hd = a :: r := by
    cases e : ks.map Ta.hd with
    | nil => rw [e] at lk; simp at lk; omega
    | cons a r => exact ⟨a, r, rfl⟩
  obtain ⟨a0, r0, e0⟩ := h0
  refine ⟨_, rfl, D, _, 0, _, rfl, rfl, SqL.of hvs, at_of (j := 0) rfl (by rw [e0]; rfl), rfl, _, rfl, ?_⟩
  by_cases c3 : a0 = "new"
  rotate_left
  · refine itT (by simp [c3]) ?_
    exact err_endI (pl := .non) (dvs := [.non]) (hC4.2 (by rw [e0]; simp [c3])) (KeepI.refl _) rfl (by show 0 ≤ 1000; decide)
  refine itF (by simp [c3]) ?_
  have hC5 := hC4.yes (by rw [e0]; simp [c3])
  refine ⟨_, rfl, D, _, rfl, .inl (SqL.of hvs), _, rfl, by omega, by rw [List.length_map, List.length_map]; omega, ?_⟩
  rw [List.length_map]
  generalize ks.map Ta.hd = hs at hvs hC5 lk
  refine for_range (lo := 0) (n := (hs.length : Int).toNat) (fun i σ H' => KeepI H2 H' ∧ (∃ kv2, σ = [some (.ref kl), some (.ref rl), kv, some (.ref D), kv2]) ∧ ∀ j x, j < i → hs[j]? = some x → x ∉ hs.take j)
    ⟨KeepI.refl _, ⟨_, rfl⟩, fun j x h => absurd h (Nat.not_lt_zero j)⟩ (fun i σ H' hi ⟨k4, ⟨kv2, es⟩, hd⟩ => ?_) (fun σ H' ⟨k4, _, hd⟩ => ?_)
  · subst es
    have hi2 : i < hs.length := by omega
    have e0 : (0 : Int) + (i : Int) = ((i : Nat) : Int) := by omega
    have ei : (hs.map V.str)[i]? = some (.str hs[i]) := by simp [hi2]
    have ei2 : hs[i]? = some hs[i] := by simp [hi2]
    generalize hs[i] = x at ei ei2
    have hD4 := k4 D _ hvs rfl
    refine ⟨_, rfl, _, rfl, D, _, _, _, rfl, rfl, SqL.of hD4, at_of (j := i) e0 ei, _, rfl, _, rfl, _, rfl, D, _, rfl, SqL.of hD4, fun p5 np5 => ?_⟩
    rw [e0, cut_to (by rw [List.length_map]; omega), ← List.map_take]
    refine ⟨p5, _, rfl, .inl (SqL.of upd_same), rfl, flatStrs _, _, rfl, ?_⟩
    rw [inStr]
    have kC := k4.trans (KeepI.new (o := .lst ((hs.take i).map V.str)) np5)
    by_cases d3 : x ∈ hs.take i
    · refine itT (decide_eq_true d3) ?_
      exact err_endI (pl := .non) (dvs := [.non]) (hC5.2 fun z => z i x ei2 d3) kC rfl (by show 0 ≤ 1000; decide)
    refine itF (decide_eq_false d3) ⟨kC, ⟨_, rfl⟩, fun j y hj hy => ?_⟩
    rcases Nat.lt_succ_iff_lt_or_eq.mp hj with h1 | h1
    · exact hd j y h1 hy
    · rw [h1, ei2] at hy
      cases hy
      rw [h1]
      exact d3
  · refine hC5.1 (fun i x hx => hd i x ?_ hx) H' k4
    have lt : i < hs.length := by
      rcases Nat.lt_or_ge i hs.length with z | z
      · exact z
      · rw [List.getElem?_eq_none z] at hx
        cases hx
    omega
def spCNs (K : PySem.W.Frag) : Sp := fun vs H Q E => ∃ (nl : Addr) (ns : List Str), vs = [.ref nl] ∧ H nl = some (.lst (ns.map V.str)) ∧ Sm ns ∧ Chk (namesOk ns) K H E fun H' => Q .non H'
theorem namesOk_iff {ns : List Str} : namesOk ns ↔ ∀ i x, ns[i]? = some x → isName x = true ∧ x ∉ ns.take i := by
  unfold namesOk
  rw [nodup_take]
  constructor
  · exact fun ⟨a, b⟩ i x hx => ⟨a x (List.mem_of_getElem? hx), b i x hx⟩
  · refine fun h => ⟨fun x hx => ?_, fun i x hx => (h i x hx).2⟩
    obtain ⟨j, hj⟩ := List.getElem?_of_mem hx
    exact (h j x hj).1
theorem sc_check_names : FnScope ["names", "at", "name"] ["names"] (defScope (top 51)) := ⟨rfl, rfl, rfl, by decide +kernel, rfl, by decide +kernel, by decide +kernel⟩
theorem ok_check_names (T : Tx w K mg) : Ok1 P w K mg base (L2.CX P w) 4 "check_names" ["names"] (spCNs K) := by
  have sc := sc_check_names
  have F_is_name := ok_is_name (P := P) (base := base) T
  refine ok1_of T.glo (T.def_ 29) sc (fun vs H Q E h => ?_) (fun _ _ _ _ _ _ us hl => match us, hl with | [_], _ => rfl) (fun cdv A outer s H vs Q E hr h => ?_)
  · obtain ⟨nl, ns, rfl, _⟩ := h
    rfl
  have tk : Takes (cxOf (L2.CX P w) P w K mg base ["names", "at", "name"] "check_names" (defScope (top 51)) (He.ga K "check_names") cdv A outer s H E) (fun cls d _ H => E cls d H) := takes_of rfl rfl rfl rfl
  have hrE := hr
  have hr_is_name := hr.mono (show 1 ≤ 3 by decide)
  refine ⟨_, (pss_one (ps_for (passes_of rfl) rfl (pi_enum (by rfl) T.free (pa_cons (pv 0) pa_nil)) (pg_tup rfl (pgs_cons (pg_name (i := 1) sc.nd rfl (by first | exact Or.inl rfl | exact Or.inr rfl)) (pgs_cons (pg_name (i := 2) sc.nd rfl (by first | exact Or.inl rfl | exact Or.inr rfl)) pgs_nil))) (pss_cons (ps_if (pt_not (pt_val (pe_f F_is_name hr_is_name pass0 (pa_cons (pv 2) pa_nil)))) (pss_one (ps_err (ok_BadName T) hrE rfl tk (pa_cons (pv 2) pa_nil))) pss_nil)
    (pss_one (ps_if (pt_cmpR op_in_seq (pv 2) (pe_slice sl_list (pv 0) po_none (po_some (pv 1))) (by rfl)) (pss_one (ps_err (ok_DuplicateName T) hrE rfl tk (pa_cons (pv 2) pa_nil))) pss_nil))))), ?_⟩
  obtain ⟨nl, ns, rfl, hn, sm, hC⟩ := h
  refine ⟨_, rfl, nl, _, rfl, SqL.of hn, ?_⟩
  refine for_it (walk_enum (a := nl) (xs := ns.map V.str)) (fun i σ H' => KeepI H H' ∧ (∃ a b, σ = [some (.ref nl), a, b]) ∧ ∀ j x, j < i → ns[j]? = some x → isName x = true ∧ x ∉ ns.take j)
    ⟨KeepI.refl _, ⟨_, _, rfl⟩, fun j x h => absurd h (Nat.not_lt_zero j)⟩ (fun i σ H' _ ⟨k, _⟩ => SqL.of (k nl _ hn rfl)) (fun i v σ H1 H' hi ⟨k, ⟨a, b, es⟩, hd⟩ hy => ?_) (fun σ H' ⟨k, _, hd⟩ => ?_)
  · subst es
    obtain ⟨p, u, y, rfl, np, rfl, eu, ey⟩ := hy
    cases eu
    rw [List.length_map] at hi
    have ei2 : ns[i]? = some ns[i] := by simp [hi]
    have ey2 : (ns.map V.str)[i]? = some y := ey
    rw [List.getElem?_map, ei2] at ey2
    generalize ns[i] = x at ei2 ey2
    cases ey2
    have k1 := k.trans (KeepI.new (o := .tup [.int (i : Nat), .str x]) np)
    have no : ¬ (isName x = true ∧ x ∉ ns.take i) → ¬ namesOk ns := fun n z => n (namesOk_iff.mp z i x ei2)
    refine ⟨p, _, rfl, SqT.of upd_same, rfl, _, _, rfl, _, _, rfl, rfl, ?_⟩
    refine ⟨_, rfl, x, rfl, (sm x (List.mem_of_getElem? ei2)).1, fun H3 k3 => ⟨_, rfl, ?_⟩⟩
    have k13 := k1.trans k3
    cases e : isName x with
    | false =>
      refine itT rfl ⟨_, rfl, ?_⟩
      exact err_endI (hC.2 (no fun z => by rw [e] at z; cases z.1)) k13 rfl (by show 1 ≤ 1000; decide)
    | true =>
      refine itF rfl ⟨_, rfl, _, rfl, _, rfl, _, rfl, nl, _, rfl, SqL.of (k13 nl _ hn rfl), fun p5 np5 => ?_⟩
      rw [cut_to (by rw [List.length_map]; omega), ← List.map_take]
      refine ⟨p5, _, rfl, .inl (SqL.of upd_same), rfl, flatStrs _, _, rfl, ?_⟩
      rw [inStr]
      have kC := k13.trans (KeepI.new (o := .lst ((ns.take i).map V.str)) np5)
      by_cases d3 : x ∈ ns.take i
      · refine itT (decide_eq_true d3) ⟨_, rfl, ?_⟩
        exact err_endI (hC.2 (no fun z => z.2 d3)) kC rfl (by show 1 ≤ 1000; decide)
      refine itF (decide_eq_false d3) ⟨kC, ⟨_, _, rfl⟩, fun j y hj hy => ?_⟩
      rcases Nat.lt_succ_iff_lt_or_eq.mp hj with h1 | h1
      · exact hd j y h1 hy
      · rw [h1, ei2] at hy
        cases hy
        rw [h1]
        exact ⟨e, d3⟩
  · refine hC.1 (namesOk_iff.mpr fun i x hx => hd i x ?_ hx) H' k
    have lt : i < ns.length := by
      rcases Nat.lt_or_ge i ns.length with z | z
      · exact z
      · rw [List.getElem?_eq_none z] at hx
        cases hx
    rw [List.length_map]
    exact lt
end
end L2.Ta

set_option maxHeartbeats 4000000
/-! the checks: sources, lines, answers, rules -/
namespace L2.Ta
open PySem PySem.Spec PyProof.Rows L2 TL
theorem valsOf_cons {k : List Str} {ks : List (List Str)} {x : Str} : valsOf (k :: ks) x = if hd k = x then some k.tail else valsOf ks x := by
  unfold valsOf
  rw [List.find?_cons]
  by_cases c : hd k = x
  · rw [decide_eq_true c, if_pos c]
    rfl
  · rw [decide_eq_false c, if_neg c]
theorem valsOf_drop {x : Str} : ∀ {ks : List (List Str)} {i : Nat}, (∀ j y, j < i → ks[j]? = some y → hd y ≠ x) → valsOf ks x = valsOf (ks.drop i) x
  | ks, 0, _ => rfl
  | [], i + 1, _ => rfl
  | k :: ks, i + 1, h => by
    rw [List.drop_succ_cons, valsOf_cons, if_neg (h 0 k (Nat.zero_lt_succ _) rfl)]
    exact valsOf_drop fun j y hj hy => h (j + 1) y (Nat.succ_lt_succ hj) hy
def spVN (K : PySem.W.Frag) : Sp := fun vs H Q E => ∃ (kl : Addr) (us : List V) (ks : List (List Str)) (x : Str), vs = [.ref kl, .str x] ∧ H kl = some (.lst us) ∧ Paired (KindAt H) ks us ∧ (∀ k ∈ ks, k ≠ []) ∧
  match valsOf ks x with
  | none => RE K H E
  | some vn => ∀ p H', KeepI H H' → H' p = some (.lst (vn.map V.str)) → Q (.ref p) H'
def spCS (K : PySem.W.Frag) : Sp := fun vs H Q E => ∃ (l : Ln) (v : V) (nl : Addr) (ns : List Str), vs = [v, .ref nl] ∧ LnAt H l v ∧ Sm l.words ∧ H nl = some (.lst (ns.map V.str)) ∧ Chk (SrcOk ns l) K H E fun H' => Q .non H'
def spCL (K : PySem.W.Frag) : Sp := fun vs H Q E => ∃ (l : Ln) (v : V) (nl : Addr) (ns : List Str), vs = [v, .ref nl] ∧ LnAt H l v ∧ Sm l.words ∧ H nl = some (.lst (ns.map V.str)) ∧ Chk (LineOk ns l) K H E fun H' => Q .non H'
def spCA (K : PySem.W.Frag) : Sp := fun vs H Q E => ∃ (p : Addr) (wd : Str) (us : List V) (ss : List Ln) (nl : Addr) (ns : List Str), vs = [.ref p, .ref nl] ∧ H p = some (.tup (.str wd :: us)) ∧ Paired (LnAt H) ss us ∧ wd.length ≤ 1000000 ∧ (∀ s ∈ ss, Sm s.words) ∧
  H nl = some (.lst (ns.map V.str)) ∧ Chk (ss.length ≤ 4 ∧ isName wd = true ∧ ∀ s ∈ ss, SrcOk ns s) K H E fun H' => Q .non H'
/-- x not in a written tuple of tuples -/
def rNotInDT (K : PySem.W.Frag) : R2 := fun x y H Q => ∃ d ds, Dp K H x d ∧ Dp K H y (.tuple ds) ∧ SeqAt.shaped d = true ∧ SeqAt.shaped (.tuple ds) = true ∧ Q (.bl (!ds.any fun z => PyData.eqv z d)) H
theorem op_notInDT {X : Cx} (hu : X.A.units + 65 < cLine) : OpR X (compareOp .NotIn) (rNotInDT X.K) := by
  intro pins s σ H x y v u Q I rx ry h
  obtain ⟨d, ds, hd, he, sd, se, q⟩ := h
  obtain ⟨as, r1⟩ := Dp.reads I d x v hd rx
  obtain ⟨bs, r2⟩ := Dp.reads I (.tuple ds) y u he ry
  exact SeqAt.notIn_tuple_reads r2 r1 (SeqAt.canLay_of_shaped se) (SeqAt.canLay_of_shaped sd) (room_in_shaped sd hu) ⟨.bl _, H, I, rfl, q⟩
section
variable {P : Program} {w : World} {K : PySem.W.Frag} {mg : Str → Option Value} {base : Heap}
theorem sc_value_names : FnScope ["requests", "name", "kind"] ["requests", "name"] (defScope (top 42)) := ⟨rfl, rfl, rfl, by decide +kernel, rfl, by decide +kernel, by decide +kernel⟩
theorem ok_value_names (T : Tx w K mg) : Ok1 P w K mg base (L2.CX P w) 4 "value_names" ["requests", "name"] (spVN K) := by
  have sc := sc_value_names
  refine ok1_of T.glo (T.def_ 24) sc (fun vs H Q E h => ?_) (fun _ _ _ _ _ _ us hl => match us, hl with | [_, _], _ => rfl) (fun cdv A outer s H vs Q E hr h => ?_)
  · obtain ⟨kl, us, ks, x, rfl, _⟩ := h
    rfl
  have tk : Takes (cxOf (L2.CX P w) P w K mg base ["requests", "name", "kind"] "value_names" (defScope (top 42)) (He.ga K "value_names") cdv A outer s H E) (fun cls d _ H => E cls d H) := takes_of rfl rfl rfl rfl
  have hrE := hr
  refine ⟨_, (pss_cons (ps_for (passes_of rfl) rfl (pi_list (pv 0)) (pg_name (i := 2) sc.nd rfl (by first | exact Or.inl rfl | exact Or.inr rfl)) (pss_one (ps_if (pt_cmpR op_eq (pe_ix ix_tup (pv 2) pe_int (fun _ _ => rfl)) (pv 1) (nomark _)) (pss_one (ps_ret (pe_callTy call_list_of (by rfl) T.free (by decide +kernel) (pa_cons (pe_slice sl_tup (pv 2) (po_some pe_int) po_none) pa_nil)))) pss_nil)))
    (pss_one (ps_err (ok_UnknownRequest T) hrE rfl tk (pa_cons (pv 1) pa_nil)))), ?_⟩
  obtain ⟨kl, us, ks, x, rfl, hkl, hp, hne, hQ⟩ := h
  have lu := Paired.length hp
  refine ⟨_, rfl, kl, rfl, ⟨_, SqL.of hkl⟩, ?_⟩
  refine for_list (a := kl) (xs := us) (fun i σ H' => H' = H ∧ (∃ kv, σ = [some (.ref kl), some (.str x), kv]) ∧ ∀ j y, j < i → ks[j]? = some y → hd y ≠ x)
    ⟨rfl, ⟨_, rfl⟩, fun j x h => absurd h (Nat.not_lt_zero j)⟩ (fun i σ H' _ ⟨k, _⟩ => SqL.of (by rw [k]; exact hkl)) (fun i v σ H' hx ⟨k, ⟨kv, es⟩, hd0⟩ => ?_) (fun σ H' ⟨k, ⟨kv, es⟩, hd0⟩ => ?_)
  · subst es k
    obtain ⟨y, e1, ⟨p, e2, e3⟩⟩ := Paired.at_ hp i v hx
    subst e2
    have ny := hne y (List.mem_of_getElem? e1)
    have ly : 1 ≤ y.length := by
      cases y with
      | nil => exact (ny rfl).elim
      | cons a r => exact Nat.succ_le_succ (Nat.zero_le _)
    refine ⟨_, rfl, p, _, 0, .str (hd y), rfl, rfl, SqT.of e3, at_of (j := 0) rfl ?_, _, rfl, rfl, _, rfl, ?_⟩
    · cases y with
      | nil => exact (ny rfl).elim
      | cons a r => rfl
    by_cases c : hd y = x
    · refine itT (by simp [c]) ?_
      refine ⟨_, rfl, _, rfl, p, _, rfl, SqT.of e3, fun z => ?_, fun p1 np1 => ?_⟩
      · have z1 : HT.sIx (y.map V.str).length 0 (some ((1 : Nat) : Int)) = 0 := z.1
        rw [HT.sIx_nat, List.length_map] at z1
        omega
      · rw [show (some (1 : Int)) = some ((1 : Nat) : Int) from rfl, cut_from (by rw [List.length_map]; exact ly)]
        refine ⟨p1, _, rfl, .inr (SqT.of upd_same), fun p2 np2 => ?_⟩
        have ev : valsOf ks x = some y.tail := by
          rw [valsOf_drop hd0, List.drop_eq_getElem_cons (List.getElem?_eq_some_iff.mp e1).1, (List.getElem?_eq_some_iff.mp e1).2, valsOf_cons, if_pos c]
        rw [ev] at hQ
        have ed : (y.map V.str).drop 1 = y.tail.map V.str := by
          rw [← List.map_drop]
          simp
        rw [ed] at np2 ⊢
        exact hQ p2 _ ((KeepI.new np1).trans (KeepI.new np2)) upd_same
    · refine itF (by simp [c]) ⟨rfl, ⟨_, rfl⟩, fun j z hj hz => ?_⟩
      rcases Nat.lt_succ_iff_lt_or_eq.mp hj with h1 | h1
      · exact hd0 j z h1 hz
      · rw [h1, e1] at hz
        cases hz
        exact c
  · subst es k
    have ev : valsOf ks x = none := by
      rw [valsOf_drop hd0, List.drop_of_length_le (by omega)]
      rfl
    rw [ev] at hQ
    refine ⟨_, rfl, ?_⟩
    exact err_endI hQ (KeepI.refl _) rfl (by show 1 ≤ 1000; decide)
theorem sc_check_source : FnScope ["source", "names", "word", "told"] ["source", "names"] (defScope (top 43)) := ⟨rfl, rfl, rfl, by decide +kernel, rfl, by decide +kernel, by decide +kernel⟩
theorem ok_check_source (T : Tx w K mg) : Ok1 P w K mg base (L2.CX P w) 5 "check_source" ["source", "names"] (spCS K) := by
  have sc := sc_check_source
  have F_check_name := ok_check_name (P := P) (base := base) T
  have F_is_text := ok_is_text (P := P) (base := base) T
  obtain ⟨_, m_TEXT_MOST⟩ := T.int (x := "TEXT_MOST") (i := 8)
  refine ok1_of T.glo (T.def_ 25) sc (fun vs H Q E h => ?_) (fun _ _ _ _ _ _ us hl => match us, hl with | [_, _], _ => rfl) (fun cdv A outer s H vs Q E hr h => ?_)
  · obtain ⟨l, v, nl, ns, rfl, _⟩ := h
    rfl
  have tk : Takes (cxOf (L2.CX P w) P w K mg base ["source", "names", "word", "told"] "check_source" (defScope (top 43)) (He.ga K "check_source") cdv A outer s H E) (fun cls d _ H => E cls d H) := takes_of rfl rfl rfl rfl
  have hrE := hr.mono (show 3 ≤ 4 by decide)
  have hr_check_name := hr
  have hr_is_text := hr.mono (show 1 ≤ 4 by decide)
  refine ⟨_, (pss_cons (ps_if (PW.pt (pw_or (pt_not (pt_val (pe_callB RZ.call_isTy (by rfl) T.free (by decide +kernel) (pa_cons (pv 0) (pa_cons (pe_bltn (v := .ty "tuple") (by rfl) T.free (by decide +kernel) rfl) pa_nil))))) (pw_or1 (pt_cmpR op_ne (pe_callB call_len_seq (by rfl) T.free PySem.boot_len (pa_cons (pv 0) pa_nil)) pe_int (nomark _))))) (pss_one (ps_err (ok_BadSource T) hrE rfl tk (pa_cons (pv 0) pa_nil))) pss_nil)
    (pss_cons (ps_asg (pv 0) (pg_tup rfl (pgs_cons (pg_name (i := 2) sc.nd rfl (by first | exact Or.inl rfl | exact Or.inr rfl)) (pgs_cons (pg_name (i := 3) sc.nd rfl (by first | exact Or.inl rfl | exact Or.inr rfl)) pgs_nil))))
    (pss_one (ps_if (pt_cmpR op_eq (pv 2) pe_str (nomark _)) (pss_one (ps_expr (pe_f F_check_name hr_check_name (passes_call tk fun _ _ _ _ h => h) (pa_cons (pv 3) (pa_cons (pv 1) pa_nil))))) (pss_one (ps_if (pt_cmpR op_eq (pv 2) pe_str (nomark _)) (pss_one (ps_if (PW.pt (pw_or (pt_not (pt_val (pe_f F_is_text hr_is_text pass0 (pa_cons (pv 3) pa_nil)))) (pw_or1 (pt_cmpR op_gt (pe_callB call_len_str (by rfl) T.free PySem.boot_len (pa_cons (pv 3) pa_nil)) (pe_glob (v := .int 8) (by rfl) m_TEXT_MOST ⟨_, rfl⟩) (nomark _))))) (pss_one (ps_err (ok_BadSource T) hrE rfl tk (pa_cons (pv 0) pa_nil))) pss_nil)) (pss_one (ps_if (PW.pt (pw_or (pt_cmpR op_ne (pv 2) pe_str (nomark _)) (pw_or1 (pt_cmpR op_notIn_seq (pv 3) (pe_tup (pa_cons pe_int (pa_cons pe_int (pa_cons pe_int pa_nil)))) (by rfl))))) (pss_one (ps_err (ok_BadSource T) hrE rfl tk (pa_cons (pv 0) pa_nil))) pss_nil)))))))), ?_⟩
  obtain ⟨l, v, nl, ns, rfl, ⟨p, rfl, hp⟩, sm, hn, hC⟩ := h
  refine ⟨_, rfl, _, _, rfl, .tup hp, _, rfl, itF rfl ?_⟩
  refine ⟨_, rfl, p, _, rfl, .inr (SqT.of hp), rfl, _, rfl, ?_⟩
  have bad : l.vals.length ≠ 2 → ¬ SrcOk ns l := by
    cases l <;> simp [Ln.vals, SrcOk]
  by_cases c : l.vals.length = 2
  rotate_left
  · refine itT (by simp; omega) ⟨_, rfl, ?_⟩
    exact err_endI (hC.2 (bad c)) (KeepI.refl _) rfl (by show 1 ≤ 1000; decide)
  refine itF (by simp [c]) ?_
  cases l with
  | keep => simp [Ln.vals] at c
  | clear => simp [Ln.vals] at c
  | value n =>
    refine ⟨_, rfl, p, _, rfl, SqT.of hp, rfl, _, _, rfl, _, _, rfl, rfl, ?_⟩
    refine ⟨_, rfl, rfl, _, rfl, itT (by decide +kernel) ?_⟩
    exact ⟨_, rfl, _, rfl, n, nl, ns, rfl, hn, hC⟩
  | text t =>
    refine ⟨_, rfl, p, _, rfl, SqT.of hp, rfl, _, _, rfl, _, _, rfl, rfl, ?_⟩
    refine ⟨_, rfl, rfl, _, rfl, itF (by decide +kernel) ⟨_, rfl, rfl, _, rfl, itT (by decide +kernel) ?_⟩⟩
    have lt : t.length ≤ 1000000 := (okS_eqT (sm (eqT t) (by simp [Ln.words]))).1
    refine ⟨_, rfl, t, rfl, lt, fun H1 k1 => ⟨_, rfl, ?_⟩⟩
    have err : ¬ SrcOk ns (.text t) → tErr K "BadSource" E [] (tCons (tVar 0) tNil) D0 [some (.ref p), some (.ref nl), some (.str "text"), some (.str t)] H1 := fun no => ⟨_, rfl, err_endI (hC.2 no) k1 rfl (by show 1 ≤ 1000; decide)⟩
    cases e : letters t with
    | false => exact itT rfl (err fun z => by rw [SrcOk, e] at z; cases z.1)
    | true =>
      refine itF rfl ⟨_, rfl, t, rfl, by rw [sizeLine_eq]; omega, _, _, rfl, rfl, _, rfl, ?_⟩
      by_cases c8 : t.length ≤ 8
      · exact itF (decide_eq_false (by omega)) (hC.1 ⟨e, c8⟩ H1 k1)
      · exact itT (decide_eq_true (by omega)) (err fun z => c8 z.2)
  | fresh k =>
    refine ⟨_, rfl, p, _, rfl, SqT.of hp, rfl, _, _, rfl, _, _, rfl, rfl, ?_⟩
    refine ⟨_, rfl, rfl, _, rfl, itF (by decide +kernel) ⟨_, rfl, rfl, _, rfl, itF (by decide +kernel) ?_⟩⟩
    refine ⟨_, rfl, rfl, _, rfl, itF (by decide +kernel) ?_⟩
    refine ⟨_, rfl, by show 3 ≤ sizeLine; decide, fun p0 np0 => ?_⟩
    refine ⟨p0, _, rfl, .inr (SqT.of upd_same), rfl, rfl, _, rfl, ?_⟩
    have k1 := KeepI.new (o := .tup [.int 0, .int 1, .int 2]) np0
    by_cases ck : k ≤ 2
    · refine itF ?_ (hC.1 ck _ k1)
      rcases Nat.lt_or_ge k 1 with z | z
      · rw [show k = 0 by omega]
        decide +kernel
      · rcases Nat.lt_or_ge k 2 with z2 | z2
        · rw [show k = 1 by omega]
          decide +kernel
        · rw [show k = 2 by omega]
          decide +kernel
    · refine itT ?_ ⟨_, rfl, ?_⟩
      · simp [inV, L2.eqV]
        omega
      · exact err_endI (hC.2 ck) k1 rfl (by show 1 ≤ 1000; decide)
theorem sc_check_line : FnScope ["line", "names"] ["line", "names"] (defScope (top 44)) := ⟨rfl, rfl, rfl, by decide +kernel, rfl, by decide +kernel, by decide +kernel⟩
theorem ok_check_line (T : Tx w K mg) : Ok1 P w K mg base (L2.CX P w) 6 "check_line" ["line", "names"] (spCL K) := by
  have sc := sc_check_line
  have F_check_source := ok_check_source (P := P) (base := base) T
  refine ok1_of T.glo (T.def_ 26) sc (fun vs H Q E h => ?_) (fun _ _ _ _ _ _ us hl => match us, hl with | [_, _], _ => rfl) (fun cdv A outer s H vs Q E hr h => ?_)
  · obtain ⟨l, v, nl, ns, rfl, _⟩ := h
    rfl
  have tk : Takes (cxOf (L2.CX P w) P w K mg base ["line", "names"] "check_line" (defScope (top 44)) (He.ga K "check_line") cdv A outer s H E) (fun cls d _ H => E cls d H) := takes_of rfl rfl rfl rfl
  have hr_check_source := hr
  have opN : OpR (cxOf (L2.CX P w) P w K mg base ["line", "names"] "check_line" (defScope (top 44)) (He.ga K "check_line") cdv A outer s H E) (compareOp .NotIn) (rNotInDT K) := op_notInDT (by have := hr.un; show (A.deeper _).units + 65 < cLine; omega)
  refine ⟨_, (pss_one (ps_if (pt_cmpR opN (pv 0) (pe_tup (pa_cons (pe_tup (pa_cons pe_str pa_nil)) (pa_cons (pe_tup (pa_cons pe_str pa_nil)) pa_nil))) (by rfl)) (pss_one (ps_expr (pe_f F_check_source hr_check_source (passes_call tk fun _ _ _ _ h => h) (pa_cons (pv 0) (pa_cons (pv 1) pa_nil))))) pss_nil)), ?_⟩
  obtain ⟨l, v, nl, ns, rfl, ⟨p, rfl, hp⟩, sm, hn, hC⟩ := h
  refine ⟨_, rfl, by show 1 ≤ sizeLine; decide, fun p0 np0 => ⟨by show 1 ≤ sizeLine; decide, fun p1 np1 => ⟨by show 2 ≤ sizeLine; decide, fun p2 np2 => ?_⟩⟩⟩
  have h0 : upd (upd (upd H p0 (.tup [.str "keep"])) p1 (.tup [.str "clear"])) p2 (.tup [.ref p0, .ref p1]) p0 = some (.tup [.str "keep"]) := by
    rw [upd_ne (ne_of_none (show upd (upd H p0 (.tup [.str "keep"])) p1 (.tup [.str "clear"]) p0 = some (.tup [.str "keep"]) by rw [upd_ne (ne_of_none upd_same np1)]; exact upd_same) np2), upd_ne (ne_of_none upd_same np1)]
    exact upd_same
  have h1 : upd (upd (upd H p0 (.tup [.str "keep"])) p1 (.tup [.str "clear"])) p2 (.tup [.ref p0, .ref p1]) p1 = some (.tup [.str "clear"]) := by
    rw [upd_ne (ne_of_none upd_same np2)]
    exact upd_same
  have k : KeepI H (upd (upd (upd H p0 (.tup [.str "keep"])) p1 (.tup [.str "clear"])) p2 (.tup [.ref p0, .ref p1])) := ((KeepI.new np0).trans (KeepI.new np1)).trans (KeepI.new np2)
  have h2 : upd (upd (upd H p0 (.tup [.str "keep"])) p1 (.tup [.str "clear"])) p2 (.tup [.ref p0, .ref p1]) p2 = some (.tup [.ref p0, .ref p1]) := upd_same
  generalize upd (upd (upd H p0 (.tup [.str "keep"])) p1 (.tup [.str "clear"])) p2 (.tup [.ref p0, .ref p1]) = H1 at h0 h1 h2 k
  have hp1 := k p _ hp rfl
  have dy : Dp K H1 (.ref p2) (.tuple [.tuple [.str "keep"], .tuple [.str "clear"]]) := .tup (SqT.of h2) (.cons (.tup (SqT.of h0) (.cons (.str _) .nil)) (.cons (.tup (SqT.of h1) (.cons (.str _) .nil)) .nil))
  have ey : SeqAt.shaped (.tuple [.tuple [.str "keep"], .tuple [.str "clear"]]) = true := by decide +kernel
  have shp : ∀ ds : List PyData, PyData.canLayAll0 ds = true → (∀ d ∈ ds, d.depth = 0) → SeqAt.shaped (.tuple ds) = true := fun ds h1 h2 => by
    unfold SeqAt.shaped
    rw [Bool.and_eq_true]
    refine ⟨h1, decide_eq_true ?_⟩
    have e : PyData.depthAll ds = 0 := by
      clear h1
      induction ds with
      | nil => rfl
      | cons a r ih =>
        rw [PyData.depthAll, h2 a List.mem_cons_self, ih fun d hd => h2 d (List.mem_cons_of_mem _ hd)]
        rfl
    rw [PyData.depth, e]
    decide
  cases l with
  | keep => exact ⟨_, _, .tup (SqT.of hp1) (.cons (.str _) .nil), dy, by decide +kernel, ey, _, rfl, itF (by decide +kernel) (hC.1 trivial _ k)⟩
  | clear => exact ⟨_, _, .tup (SqT.of hp1) (.cons (.str _) .nil), dy, by decide +kernel, ey, _, rfl, itF (by decide +kernel) (hC.1 trivial _ k)⟩
  | value n =>
    refine ⟨_, _, .tup (SqT.of hp1) (.cons (.str "value") (.cons (.str n) .nil)), dy, shp _ ?_ ?_, ey, _, rfl, itT (by simp [PyData.eqv, PyData.eqvAll]) ?_⟩
    · have z := (sm n (by simp [Ln.words])).2
      rw [PyData.canLayAll0, PyData.canLayAll0, PyData.canLayAll0, PyData.canLay0, PyData.canLay0, z]
      decide +kernel
    · simp [PyData.depth]
    · exact ⟨_, rfl, _, rfl, .value n, _, nl, ns, rfl, ⟨p, rfl, hp1⟩, sm, k nl _ hn rfl, hC.keep k⟩
  | text n =>
    refine ⟨_, _, .tup (SqT.of hp1) (.cons (.str "text") (.cons (.str n) .nil)), dy, shp _ ?_ ?_, ey, _, rfl, itT (by simp [PyData.eqv, PyData.eqvAll]) ?_⟩
    · have z := (okS_eqT (sm (eqT n) (by simp [Ln.words]))).2
      rw [PyData.canLayAll0, PyData.canLayAll0, PyData.canLayAll0, PyData.canLay0, PyData.canLay0, z]
      decide +kernel
    · simp [PyData.depth]
    · exact ⟨_, rfl, _, rfl, .text n, _, nl, ns, rfl, ⟨p, rfl, hp1⟩, sm, k nl _ hn rfl, hC.keep k⟩
  | fresh n =>
    refine ⟨_, _, .tup (SqT.of hp1) (.cons (.str "fresh") (.cons (.int n) .nil)), dy, shp _ ?_ ?_, ey, _, rfl, itT (by simp [PyData.eqv, PyData.eqvAll]) ?_⟩
    · rw [PyData.canLayAll0, PyData.canLayAll0, PyData.canLayAll0, PyData.canLay0, PyData.canLay0]
      decide +kernel
    · simp [PyData.depth]
    · exact ⟨_, rfl, _, rfl, .fresh n, _, nl, ns, rfl, ⟨p, rfl, hp1⟩, sm, k nl _ hn rfl, hC.keep k⟩
theorem sc_check_answer : FnScope ["answer", "names", "source"] ["answer", "names"] (defScope (top 45)) := ⟨rfl, rfl, rfl, by decide +kernel, rfl, by decide +kernel, by decide +kernel⟩
theorem ok_check_answer (T : Tx w K mg) : Ok1 P w K mg base (L2.CX P w) 6 "check_answer" ["answer", "names"] (spCA K) := by
  have sc := sc_check_answer
  have F_check_source := ok_check_source (P := P) (base := base) T
  have F_is_name := ok_is_name (P := P) (base := base) T
  obtain ⟨_, m_SOURCES_MOST⟩ := T.int (x := "SOURCES_MOST") (i := 4)
  refine ok1_of T.glo (T.def_ 27) sc (fun vs H Q E h => ?_) (fun _ _ _ _ _ _ us hl => match us, hl with | [_, _], _ => rfl) (fun cdv A outer s H vs Q E hr h => ?_)
  · obtain ⟨p, wd, us, ss, nl, ns, rfl, _⟩ := h
    rfl
  have tk : Takes (cxOf (L2.CX P w) P w K mg base ["answer", "names", "source"] "check_answer" (defScope (top 45)) (He.ga K "check_answer") cdv A outer s H E) (fun cls d _ H => E cls d H) := takes_of rfl rfl rfl rfl
  have hrE := hr.mono (show 3 ≤ 5 by decide)
  have hr_check_source := hr
  have hr_is_name := hr.mono (show 1 ≤ 5 by decide)
  refine ⟨_, (pss_cons (ps_if (PW.pt (pw_or (pt_not (pt_val (pe_callB RZ.call_isTy (by rfl) T.free (by decide +kernel) (pa_cons (pv 0) (pa_cons (pe_bltn (v := .ty "tuple") (by rfl) T.free (by decide +kernel) rfl) pa_nil))))) (pw_or1 (pt_not (pt_chain op_le op_le pe_int (pe_callB call_len_seq (by rfl) T.free PySem.boot_len (pa_cons (pv 0) pa_nil)) (pe_op op_add pe_int (pe_glob (v := .int 4) (by rfl) m_SOURCES_MOST ⟨_, rfl⟩))))))) (pss_one (ps_err (ok_BadRule T) hrE rfl tk (pa_cons pe_int pa_nil))) pss_nil)
    (pss_cons (ps_if (pt_not (pt_val (pe_f F_is_name hr_is_name pass0 (pa_cons (pe_ix ix_tup (pv 0) pe_int (fun _ _ => rfl)) pa_nil)))) (pss_one (ps_err (ok_BadName T) hrE rfl tk (pa_cons (pe_ix ix_tup (pv 0) pe_int (fun _ _ => rfl)) pa_nil))) pss_nil)
    (pss_one (ps_for (passes_of rfl) rfl (pi_tup (pe_slice sl_tup (pv 0) (po_some pe_int) po_none)) (pg_name (i := 2) sc.nd rfl (by first | exact Or.inl rfl | exact Or.inr rfl)) (pss_one (ps_expr (pe_f F_check_source hr_check_source (passes_call tk fun _ _ _ _ h => h) (pa_cons (pv 2) (pa_cons (pv 1) pa_nil))))))))), ?_⟩
  obtain ⟨p, wd, us, ss, nl, ns, rfl, hp, hpr, lw, sm, hn, hC⟩ := h
  have lus := Paired.length hpr
  refine ⟨_, rfl, _, _, rfl, .tup hp, _, rfl, itF rfl ?_⟩
  refine ⟨_, rfl, p, _, rfl, .inr (SqT.of hp), _, _, rfl, rfl, _, rfl, itT (decide_eq_true (by simp; omega)) ⟨_, _, rfl, rfl, _, _, rfl, rfl, _, rfl, ?_⟩⟩
  have hC1 := hC.and
  by_cases c4 : ss.length ≤ 4
  rotate_left
  · refine itT (by simp; omega) ?_
    exact err_endI (pl := .int 3) (hC1.2 c4) (KeepI.refl _) rfl (by show 1 ≤ 1000; decide)
  refine itF (by simp; omega) ?_
  have hC2 := hC1.yes c4
  clear hC hC1
  refine ⟨_, rfl, p, _, 0, .str wd, rfl, rfl, SqT.of hp, at_of (j := 0) rfl rfl, wd, rfl, lw, fun H1 k1 => ⟨_, rfl, ?_⟩⟩
  have hC3 := (hC2.keep k1).and
  have hp1 := k1 p _ hp rfl
  cases e : isName wd with
  | false =>
    refine itT rfl ?_
    refine ⟨_, rfl, p, _, 0, .str wd, rfl, rfl, SqT.of hp1, at_of (j := 0) rfl rfl, ?_⟩
    exact err_endI (hC3.2 (by rw [e]; decide)) (KeepI.refl _) rfl (by show 1 ≤ 1000; decide)
  | true =>
    refine itF rfl ?_
    have hC4 := hC3.yes e
    refine ⟨_, rfl, _, rfl, p, _, rfl, SqT.of hp1, fun z => ?_, fun p1 np1 => ?_⟩
    · have z1 : HT.sIx (V.str wd :: us).length 0 (some ((1 : Nat) : Int)) = 0 := z.1
      rw [HT.sIx_nat] at z1
      simp at z1
    · rw [show (some (1 : Int)) = some ((1 : Nat) : Int) from rfl, cut_from (by simp)]
      have kB := k1.trans (KeepI.new (o := .tup ((V.str wd :: us).drop 1)) np1)
      have hC5 := hC4.keep (KeepI.new (o := .tup ((V.str wd :: us).drop 1)) np1)
      have hq : upd H1 p1 (.tup ((V.str wd :: us).drop 1)) p1 = some (.tup us) := upd_same
      generalize upd H1 p1 (.tup ((V.str wd :: us).drop 1)) = H2 at kB hC5 hq
      refine ⟨p1, rfl, ⟨_, SqT.of hq⟩, ?_⟩
      refine for_tup (a := p1) (xs := us) (fun i σ H' => KeepI H2 H' ∧ (∃ pv, σ = [some (.ref p), some (.ref nl), pv]) ∧ ∀ j x, j < i → ss[j]? = some x → SrcOk ns x)
        ⟨KeepI.refl _, ⟨_, rfl⟩, fun j x h => absurd h (Nat.not_lt_zero j)⟩ (fun i σ H' _ ⟨k, _⟩ => SqT.of (k p1 _ hq rfl)) (fun i x σ H' hx ⟨k, ⟨pv, es⟩, hd⟩ => ?_) (fun σ H' ⟨k, _, hd⟩ => ?_)
      · subst es
        obtain ⟨y, e1, e2⟩ := Paired.at_ hpr i x hx
        have my := List.mem_of_getElem? e1
        have k2 := kB.trans k
        refine ⟨_, rfl, _, rfl, y, x, nl, ns, rfl, e2.keep k2.tup, sm y my, k2 nl _ hn rfl, ?_, fun no => RE.monoI (hC5.2 fun z => no (z y my)) k⟩
        refine fun ok H3 k3 => ⟨k.trans k3, ⟨_, rfl⟩, fun j z hj hz => ?_⟩
        rcases Nat.lt_succ_iff_lt_or_eq.mp hj with h1 | h1
        · exact hd j z h1 hz
        · rw [h1, e1] at hz
          cases hz
          exact ok
      · refine hC5.1 (fun x hx => ?_) H' k
        obtain ⟨j, hj⟩ := List.getElem?_of_mem hx
        have lt : j < ss.length := by
          rcases Nat.lt_or_ge j ss.length with z | z
          · exact z
          · rw [List.getElem?_eq_none z] at hj
            cases hj
        exact hd j x (by omega) hj
end
end L2.Ta

set_option maxHeartbeats 4000000
/-! the checks: rules, the service -/
namespace L2.Ta
open PySem PySem.Spec PyProof.Rows L2 TL
def namesOf (rs : List Str) (ks : List (List Str)) (x : Str) : List Str := rs ++ (valsOf ks x).getD [] ++ [("self" : Str)]
theorem ruleOk_iff {sts rs : List Str} {ks : List (List Str)} {R : Rule} : RuleOk sts rs ks R ↔
    (∀ x, R.st = some x → x ∈ sts) ∧ (∃ vn, valsOf ks R.kind = some vn) ∧ (R.kind = "new" → R.st = none) ∧ (CondOk (namesOf rs ks R.kind) rs 6 R.cond ∧ R.cond.size ≤ 20) ∧
    (R.srcs.length ≤ 4 ∧ isName R.word = true ∧ ∀ s ∈ R.srcs, SrcOk (namesOf rs ks R.kind) s) ∧ R.turn.length = rs.length ∧ (∀ s ∈ R.turn, LineOk (namesOf rs ks R.kind) s) ∧ R.next ∈ sts := by
  unfold namesOf
  constructor
  · rintro ⟨a, ⟨vn, e, b, c, d⟩, f, g, h, i, j, k⟩
    rw [e]
    exact ⟨a, ⟨vn, rfl⟩, f, ⟨b, g⟩, ⟨i, h, c⟩, j, d, k⟩
  · rintro ⟨a, ⟨vn, e⟩, f, ⟨b, g⟩, ⟨i, h, c⟩, j, d, k⟩
    rw [e] at b c d
    exact ⟨a, ⟨vn, e, b, c, d⟩, f, g, h, i, j, k⟩
theorem valsOf_mem {ks : List (List Str)} {x : Str} {vn : List Str} (h : valsOf ks x = some vn) : ∃ k ∈ ks, vn = k.tail := by
  unfold valsOf at h
  rw [Option.map_eq_some_iff] at h
  obtain ⟨k, h1, h2⟩ := h
  exact ⟨k, List.mem_of_find?_eq_some h1, h2.symm⟩
theorem Sm.cond {R : Rule} (h : Sm R.words) : Sm R.cond.words := fun x hx => h x (by simp [Rule.words, hx])
theorem Sm.word {R : Rule} (h : Sm R.words) : okS R.word := h _ (by simp [Rule.words])
theorem Sm.srcs {R : Rule} (h : Sm R.words) {s : Ln} (hs : s ∈ R.srcs) : Sm s.words := fun x hx => h x (by
  have z : x ∈ lnsW R.srcs := by rw [lnsW_eq]; exact List.mem_flatten_of_mem (List.mem_map_of_mem hs) hx
  simp [Rule.words, z])
theorem Sm.turn {R : Rule} (h : Sm R.words) {s : Ln} (hs : s ∈ R.turn) : Sm s.words := fun x hx => h x (by
  have z : x ∈ lnsW R.turn := by rw [lnsW_eq]; exact List.mem_flatten_of_mem (List.mem_map_of_mem hs) hx
  simp [Rule.words, z])
def spCR (K : PySem.W.Frag) : Sp := fun vs H Q E => ∃ (R : Rule) (v : V) (sl rl kl : Addr) (us : List V) (sts rs : List Str) (ks : List (List Str)), vs = [v, .ref sl, .ref rl, .ref kl] ∧ RuleAt H R v ∧ R.cond.fits 6 ∧ Sm R.words ∧
  H sl = some (.lst (sts.map V.str)) ∧ H rl = some (.lst (rs.map V.str)) ∧ H kl = some (.lst us) ∧ Paired (KindAt H) ks us ∧ (∀ k ∈ ks, k ≠ []) ∧ rs.length ≤ 1000000 ∧ (∀ k ∈ ks, k.length ≤ 1000000) ∧
  Chk (RuleOk sts rs ks R) K H E fun H' => Q .non H'
/-- if station is not None and station not in stations: .. -/
theorem st_chk {K : PySem.W.Frag} {D : Ends} {σ : L2.St} {H : Hp} {st : Option Str} {sts : List Str} {sl : Addr} {te : TS} (h4 : σ[4]? = some (some (stV st))) (h1 : σ[1]? = some (some (.ref sl))) (hs : H sl = some (.lst (sts.map V.str)))
    (ok : (∀ x, st = some x → x ∈ sts) → D.nx σ H) (no : ¬ (∀ x, st = some x → x ∈ sts) → te D σ H) :
    tIfS (tAnd (tTest (tOp (fun x y H Q => y = .non ∧ Q (.bl (!decide (x = .non))) H) (tVar 4) (tC .non))) (tTest (tOp (rIn K true) (tVar 4) (tVar 1)))) te tNext D σ H := by
  cases st with
  | none => exact ⟨_, h4, rfl, _, rfl, itF (by simp [stV]) (itF rfl (ok fun x z => nomatch z))⟩
  | some x =>
    refine ⟨_, h4, rfl, _, rfl, itT (by simp [stV]) ⟨_, h4, _, h1, sl, _, rfl, .inl (SqL.of hs), rfl, flatStrs sts, _, rfl, ?_⟩⟩
    show if (if true = true then !inV (.str x) _ else _) = true then _ else _
    rw [inStr]
    by_cases c : x ∈ sts
    · exact itF (by simp [c]) (ok fun y e => by cases e; exact c)
    · exact itT (by simp [c]) (no fun z => c (z x rfl))
/-- if request == "new" and station is not None: .. -/
theorem new_chk {D : Ends} {σ : L2.St} {H : Hp} {st : Option Str} {x : Str} {te : TS} (h4 : σ[4]? = some (some (stV st))) (h5 : σ[5]? = some (some (.str x))) (ok : (x = "new" → st = none) → D.nx σ H) (no : ¬ (x = "new" → st = none) → te D σ H) :
    tIfS (tAnd (tTest (tOp rEq (tVar 5) (tC (.str "new")))) (tTest (tOp (fun x y H Q => y = .non ∧ Q (.bl (!decide (x = .non))) H) (tVar 4) (tC .non)))) te tNext D σ H := by
  refine ⟨_, h5, rfl, _, rfl, ?_⟩
  by_cases c : x = "new"
  · refine itT (by simp [c]) ⟨_, h4, rfl, _, rfl, ?_⟩
    cases st with
    | none => exact itF (by simp [stV]) (ok fun _ => rfl)
    | some y => exact itT (by simp [stV]) (no fun z => nomatch z c)
  · exact itF (by simp [c]) (itF rfl (ok fun z => (c z).elim))
section
variable {P : Program} {w : World} {K : PySem.W.Frag} {mg : Str → Option Value} {base : Heap}
theorem sc_check_rule : FnScope ["rule", "stations", "registers", "requests", "station", "request", "condition", "answer", "turn", "following", "names", "line"] ["rule", "stations", "registers", "requests"] (defScope (top 46)) := ⟨rfl, rfl, rfl, by decide +kernel, rfl, by decide +kernel, by decide +kernel⟩
theorem ok_check_rule (T : Tx w K mg) : Ok1 P w K mg base (L2.CX P w) 14 "check_rule" ["rule", "stations", "registers", "requests"] (spCR K) := by
  have sc := sc_check_rule
  have F_value_names := ok_value_names (P := P) (base := base) T
  have F_check_condition := ok_check_condition (P := P) (base := base) T
  have F_check_answer := ok_check_answer (P := P) (base := base) T
  have F_check_line := ok_check_line (P := P) (base := base) T
  refine ok1_of T.glo (T.def_ 28) sc (fun vs H Q E h => ?_) (fun _ _ _ _ _ _ us hl => match us, hl with | [_, _, _, _], _ => rfl) (fun cdv A outer s H vs Q E hr h => ?_)
  · obtain ⟨R, v, sl, rl, kl, us, sts, rs, ks, rfl, _⟩ := h
    rfl
  have tk : Takes (cxOf (L2.CX P w) P w K mg base ["rule", "stations", "registers", "requests", "station", "request", "condition", "answer", "turn", "following", "names", "line"] "check_rule" (defScope (top 46)) (He.ga K "check_rule") cdv A outer s H E) (fun cls d _ H => E cls d H) := takes_of rfl rfl rfl rfl
  have hrE := hr.mono (show 3 ≤ 13 by decide)
  have hr_value_names := hr.mono (show 4 ≤ 13 by decide)
  have hr_check_condition := hr
  have hr_check_answer := hr.mono (show 6 ≤ 13 by decide)
  have hr_check_line := hr.mono (show 6 ≤ 13 by decide)
  refine ⟨_, (pss_cons (ps_if (PW.pt (pw_or (pt_not (pt_val (pe_callB RZ.call_isTy (by rfl) T.free (by decide +kernel) (pa_cons (pv 0) (pa_cons (pe_bltn (v := .ty "tuple") (by rfl) T.free (by decide +kernel) rfl) pa_nil))))) (pw_or1 (pt_cmpR op_ne (pe_callB call_len_seq (by rfl) T.free PySem.boot_len (pa_cons (pv 0) pa_nil)) pe_int (nomark _))))) (pss_one (ps_err (ok_BadRule T) hrE rfl tk (pa_cons pe_non pa_nil))) pss_nil)
    (pss_cons (ps_asg (pv 0) (pg_tup rfl (pgs_cons (pg_name (i := 4) sc.nd rfl (by first | exact Or.inl rfl | exact Or.inr rfl)) (pgs_cons (pg_name (i := 5) sc.nd rfl (by first | exact Or.inl rfl | exact Or.inr rfl)) (pgs_cons (pg_name (i := 6) sc.nd rfl (by first | exact Or.inl rfl | exact Or.inr rfl)) (pgs_cons (pg_name (i := 7) sc.nd rfl (by first | exact Or.inl rfl | exact Or.inr rfl)) (pgs_cons (pg_name (i := 8) sc.nd rfl (by first | exact Or.inl rfl | exact Or.inr rfl)) (pgs_cons (pg_name (i := 9) sc.nd rfl (by first | exact Or.inl rfl | exact Or.inr rfl)) pgs_nil))))))))
    (pss_cons (ps_if (PW.pt (pw_and (pt_cmpR op_notN (pv 4) pe_non (nomark _)) (pw_and1 (pt_cmpR op_notIn_seq (pv 4) (pv 1) (by rfl))))) (pss_one (ps_err (ok_UnknownStation T) hrE rfl tk (pa_cons (pv 4) pa_nil))) pss_nil)
    (pss_cons (ps_set (i := 10) sc.nd rfl (by first | exact Or.inl rfl | exact Or.inr rfl) (pe_op op_cat (pe_op op_cat (pv 2) (pe_f F_value_names hr_value_names (passes_call tk fun _ _ _ _ h => h) (pa_cons (pv 3) (pa_cons (pv 5) pa_nil)))) (pe_lst (pa_cons pe_str pa_nil))))
    (pss_cons (ps_if (PW.pt (pw_and (pt_cmpR op_eq (pv 5) pe_str (nomark _)) (pw_and1 (pt_cmpR op_notN (pv 4) pe_non (nomark _))))) (pss_one (ps_err (ok_BadRule T) hrE rfl tk (pa_cons pe_int pa_nil))) pss_nil)
    (pss_cons (ps_expr (pe_f F_check_condition hr_check_condition (passes_call tk fun _ _ _ _ h => h) (pa_cons (pv 6) (pa_cons (pv 10) (pa_cons (pv 2) pa_nil)))))
    (pss_cons (ps_expr (pe_f F_check_answer hr_check_answer (passes_call tk fun _ _ _ _ h => h) (pa_cons (pv 7) (pa_cons (pv 10) pa_nil))))
    (pss_cons (ps_if (PW.pt (pw_or (pt_not (pt_val (pe_callB RZ.call_isTy (by rfl) T.free (by decide +kernel) (pa_cons (pv 8) (pa_cons (pe_bltn (v := .ty "tuple") (by rfl) T.free (by decide +kernel) rfl) pa_nil))))) (pw_or1 (pt_cmpR op_ne (pe_callB call_len_seq (by rfl) T.free PySem.boot_len (pa_cons (pv 8) pa_nil)) (pe_callB call_len_seq (by rfl) T.free PySem.boot_len (pa_cons (pv 2) pa_nil)) (nomark _))))) (pss_one (ps_err (ok_BadRule T) hrE rfl tk (pa_cons pe_int pa_nil))) pss_nil)
    (pss_cons (ps_for (passes_of rfl) rfl (pi_tup (pv 8)) (pg_name (i := 11) sc.nd rfl (by first | exact Or.inl rfl | exact Or.inr rfl)) (pss_one (ps_expr (pe_f F_check_line hr_check_line (passes_call tk fun _ _ _ _ h => h) (pa_cons (pv 11) (pa_cons (pv 10) pa_nil))))))
    (pss_one (ps_if (pt_cmpR op_notIn_seq (pv 9) (pv 1) (by rfl)) (pss_one (ps_err (ok_UnknownStation T) hrE rfl tk (pa_cons (pv 9) pa_nil))) pss_nil))))))))))), ?_⟩
  obtain ⟨R, v, sl, rl, kl, us, sts, rs, ks, rfl, ⟨p, aw, tn, c, as, ts, rfl, hp, hc, ha, has, ht, hts⟩, hf, sm, hs, hrl, hkl, hpk, hne, lrs, lks, hC⟩ := h
  have hC0 := (hC.iff ruleOk_iff).and
  clear hC
  refine ⟨_, rfl, _, _, rfl, .tup hp, _, rfl, itF rfl ?_⟩
  refine ⟨_, rfl, p, _, rfl, .inr (SqT.of hp), rfl, _, rfl, itF (by simp) ?_⟩
  refine ⟨_, rfl, p, _, rfl, SqT.of hp, rfl, _, _, rfl, _, _, rfl, _, _, rfl, _, _, rfl, _, _, rfl, _, _, rfl, rfl, ?_⟩
  dsimp only [tSeq]
  refine st_chk rfl rfl hs (fun ok => ?_) (fun no => ⟨_, rfl, err_endI (hC0.2 no) (KeepI.refl _) rfl (by show 1 ≤ 1000; decide)⟩)
  have hC1 := (hC0.yes ok).and
  clear hC0
  refine ⟨_, rfl, _, rfl, _, rfl, kl, us, ks, R.kind, rfl, hkl, hpk, hne, ?_⟩
  cases ev : valsOf ks R.kind with
  | none => exact hC1.2 fun ⟨vn, z⟩ => by rw [ev] at z; cases z
  | some vn =>
    have hC2 := hC1.yes ⟨vn, ev⟩
    clear hC1
    obtain ⟨k0, mk0, ek0⟩ := valsOf_mem ev
    have lvn : vn.length ≤ 1000000 := by
      have z := lks k0 mk0
      rw [ek0, List.length_tail]
      omega
    refine fun p1 H1 k1 hp1 => ?_
    refine ⟨rl, p1, _, _, rfl, rfl, k1 rl _ hrl rfl, hp1, by rw [List.length_map, List.length_map, sizeLine_eq]; omega, fun p2 np2 => ⟨by show 1 ≤ sizeLine; decide, fun p3 np3 => ?_⟩⟩
    have kA := (k1.trans (KeepI.new (o := .lst (rs.map V.str ++ vn.map V.str)) np2)).trans (KeepI.new (o := .lst [.str "self"]) np3)
    have h2 : upd (upd H1 p2 (.lst (rs.map V.str ++ vn.map V.str))) p3 (.lst [.str "self"]) p2 = some (.lst (rs.map V.str ++ vn.map V.str)) := by
      rw [upd_ne (ne_of_none upd_same np3)]
      exact upd_same
    refine ⟨p2, p3, _, _, rfl, rfl, h2, upd_same, by simp [sizeLine_eq]; omega, fun nl nnl => ?_⟩
    have kB := kA.trans (KeepI.new (o := .lst (rs.map V.str ++ vn.map V.str ++ [.str "self"])) nnl)
    have hn : upd (upd (upd H1 p2 (.lst (rs.map V.str ++ vn.map V.str))) p3 (.lst [.str "self"])) nl (.lst (rs.map V.str ++ vn.map V.str ++ [.str "self"])) nl = some (.lst ((namesOf rs ks R.kind).map V.str)) := by
      rw [upd_same]
      unfold namesOf
      rw [ev]
      simp
    generalize upd (upd (upd H1 p2 (.lst (rs.map V.str ++ vn.map V.str))) p3 (.lst [.str "self"])) nl (.lst (rs.map V.str ++ vn.map V.str ++ [.str "self"])) = H2 at kB hn
    generalize namesOf rs ks R.kind = nm at hn hC2
    have hC3 := (hC2.keep kB).and
    dsimp only [tSeq, tAsg, gName]
    refine new_chk rfl rfl (fun ok => ?_) (fun no => err_endI (pl := .int 0) (hC3.2 no) (KeepI.refl _) rfl (by show 1 ≤ 1000; decide))
    have hC4 := (hC3.yes ok).and
    refine ⟨_, rfl, _, rfl, _, rfl, R.cond, c, nl, rl, nm, rs, rfl, hc.keep kB.tup, sm.cond, hf, hn, kB rl _ hrl rfl, hC4.imp fun H3 _ k3 hC5 => ?_⟩
    have kC := kB.trans k3
    refine ⟨_, rfl, _, rfl, aw, R.word, as, R.srcs, nl, nm, rfl, kC aw _ ha rfl, Paired.keepR (fun _ _ => LnAt.keep kC.tup) has, sm.word.1, fun s hs => sm.srcs hs, k3 nl _ hn rfl, hC5.and.imp fun H4 _ k4 hC6 => ?_⟩
    have kD := kC.trans k4
    have ht4 := kD tn _ ht rfl
    have lts := Paired.length hts
    have hC7 := hC6.and
    refine ⟨_, rfl, _, _, rfl, .tup ht4, _, rfl, itF rfl ?_⟩
    refine ⟨_, rfl, tn, _, rfl, .inr (SqT.of ht4), _, rfl, rl, _, rfl, .inl (SqL.of (kD rl _ hrl rfl)), rfl, _, rfl, ?_⟩
    by_cases ct : R.turn.length = rs.length
    rotate_left
    · refine itT (by simp [← lts]; omega) ?_
      exact err_endI (pl := .int 4) (hC7.2 ct) (KeepI.refl _) rfl (by show 1 ≤ 1000; decide)
    refine itF (by simp [← lts, ct]) ?_
    have hC8 := (hC7.yes ct).and
    refine ⟨_, rfl, tn, rfl, ⟨_, SqT.of ht4⟩, ?_⟩
    refine for_tup (a := tn) (xs := ts) (fun i σ H' => KeepI H4 H' ∧ (∃ pv, σ = [some (.ref p), some (.ref sl), some (.ref rl), some (.ref kl), some (stV R.st), some (.str R.kind), some c, some (.ref aw), some (.ref tn), some (.str R.next), some (.ref nl), pv]) ∧ ∀ j x, j < i → R.turn[j]? = some x → LineOk nm x)
      ⟨KeepI.refl _, ⟨_, rfl⟩, fun j x h => absurd h (Nat.not_lt_zero j)⟩ (fun i σ H' _ ⟨k, _⟩ => SqT.of (k tn _ ht4 rfl)) (fun i x σ H' hx ⟨k, ⟨pv, es⟩, hd⟩ => ?_) (fun σ H' ⟨k, ⟨pv, es⟩, hd⟩ => ?_)
    · subst es
      obtain ⟨y, e1, e2⟩ := Paired.at_ hts i x hx
      have my := List.mem_of_getElem? e1
      refine ⟨_, rfl, _, rfl, y, x, nl, nm, rfl, e2.keep (kD.trans k).tup, sm.turn my, k nl _ (k4 nl _ (k3 nl _ hn rfl) rfl) rfl, ?_, fun no => RE.monoI (hC8.2 fun z => no (z y my)) k⟩
      refine fun ok H3 k3 => ⟨k.trans k3, ⟨_, rfl⟩, fun j z hj hz => ?_⟩
      rcases Nat.lt_succ_iff_lt_or_eq.mp hj with h1 | h1
      · exact hd j z h1 hz
      · rw [h1, e1] at hz
        cases hz
        exact ok
    · subst es
      have hC9 := hC8.1 (fun x hx => by
        obtain ⟨j, hj⟩ := List.getElem?_of_mem hx
        have lt : j < R.turn.length := by
          rcases Nat.lt_or_ge j R.turn.length with z | z
          · exact z
          · rw [List.getElem?_eq_none z] at hj
            cases hj
        exact hd j x (by omega) hj) H' k
      refine ⟨_, rfl, _, rfl, sl, _, rfl, .inl (SqL.of ((kD.trans k) sl _ hs rfl)), rfl, flatStrs sts, _, rfl, ?_⟩
      rw [inStr]
      by_cases cn : R.next ∈ sts
      · exact itF (by simp [cn]) (hC9.yes cn)
      · exact itT (by simp [cn]) ⟨_, rfl, err_endI (hC9.2 cn) (KeepI.refl _) rfl (by show 1 ≤ 1000; decide)⟩
end
end L2.Ta

set_option maxHeartbeats 4000000
/-! the service: made, read -/
namespace L2.Ta
open PySem PySem.Spec PyProof.Rows L2 TL
def sFs (l1 l2 l3 l4 : Addr) : List (Str × V) := [("_stations", .ref l1), ("_registers", .ref l2), ("_requests", .ref l3), ("_rules", .ref l4)]
structure Parts (H : Hp) (S : Svc) (l1 l2 l3 l4 : Addr) (us vs : List V) : Prop where
  h1 : H l1 = some (.lst (S.stations.map V.str))
  h2 : H l2 = some (.lst (S.registers.map V.str))
  h3 : H l3 = some (.lst us)
  k3 : Paired (KindAt H) S.kinds us
  h4 : H l4 = some (.lst vs)
  k4 : Paired (RuleAt H) S.rules vs
theorem Parts.keep {H H' : Hp} {S : Svc} {l1 l2 l3 l4 : Addr} {us vs : List V} (h : Parts H S l1 l2 l3 l4 us vs) (k : KeepI H H') : Parts H' S l1 l2 l3 l4 us vs :=
  ⟨k _ _ h.h1 rfl, k _ _ h.h2 rfl, k _ _ h.h3 rfl, Paired.keepR (fun _ _ => KindAt.keep k.tup) h.k3, k _ _ h.h4 rfl, Paired.keepR (fun _ _ => RuleAt.keep k.tup) h.k4⟩
def SvcAt (K : PySem.W.Frag) (H : Hp) (S : Svc) (v : V) : Prop := ∃ (a dx l1 l2 l3 l4 : Addr) (us vs : List V), v = .ref a ∧ H a = some (.ins (He.ga K "Service") dx (sFs l1 l2 l3 l4)) ∧ Parts H S l1 l2 l3 l4 us vs
/-- what the sizes of a read service are -/
structure Svc.small (S : Svc) : Prop where
  st : Sm S.stations
  rg : Sm S.registers
  rl : S.registers.length ≤ 1000000
  ks : ∀ k ∈ S.kinds, Sm k ∧ k.length ≤ 1000000
  ru : ∀ R ∈ S.rules, Sm R.words
def spSI (K : PySem.W.Frag) : Sp := fun vs H Q E => ∃ (a dx sl rl kl ul : Addr) (us ws : List V) (S : Svc), vs = [.ref a, .ref sl, .ref rl, .ref kl, .ref ul] ∧ H a = some (.ins (He.ga K "Service") dx []) ∧ Parts H S sl rl kl ul us ws ∧ S.small ∧ S.fits ∧
  (SvcOk S → ∀ H', KeepW H H' → SvcAt K H' S (.ref a) → Q .non H') ∧ (¬ SvcOk S → RE K H E)
theorem svcOk_iff {S : Svc} : SvcOk S ↔ (1 ≤ S.stations.length ∧ S.stations.length ≤ 6) ∧ namesOk S.stations ∧ S.registers.length ≤ 3 ∧ namesOk S.registers ∧ ("self" : Str) ∉ S.registers ∧ KindsOk S.registers S.kinds ∧ S.rules.length ≤ 40 ∧
    ∀ R ∈ S.rules, RuleOk S.stations S.registers S.kinds R :=
  ⟨fun ⟨a, b, c, d, e, f, g, h⟩ => ⟨a, b, c, d, e, f, g, h⟩, fun ⟨a, b, c, d, e, f, g, h⟩ => ⟨a, b, c, d, e, f, g, h⟩⟩
theorem put_ok {H1 : Hp} {a l C dx : Addr} {fs fs' : List (Str × V)} {xs : List V} (h1 : H1 a = some (.ins C dx fs)) (n : H1 l = none) :
    upd H1 l (.lst xs) a = some (.ins C dx fs) ∧ KeepW H1 (upd (upd H1 l (.lst xs)) a (.ins C dx fs')) ∧ upd (upd H1 l (.lst xs)) a (.ins C dx fs') l = some (.lst xs) ∧ upd (upd H1 l (.lst xs)) a (.ins C dx fs') a = some (.ins C dx fs') := by
  have e : upd H1 l (.lst xs) a = some (.ins C dx fs) := by rw [upd_ne (ne_of_none h1 n)]; exact h1
  exact ⟨e, (KeepW.new n).trans (KeepW.ins e), (KeepW.ins e) l _ upd_same rfl, upd_same⟩
theorem Parts.keepW {H H' : Hp} {S : Svc} {l1 l2 l3 l4 : Addr} {us vs : List V} (h : Parts H S l1 l2 l3 l4 us vs) (k : KeepW H H') : Parts H' S l1 l2 l3 l4 us vs :=
  ⟨k _ _ h.h1 rfl, k _ _ h.h2 rfl, k _ _ h.h3 rfl, Paired.keepR (fun _ _ => KindAt.keep k.tup) h.k3, k _ _ h.h4 rfl, Paired.keepR (fun _ _ => RuleAt.keep k.tup) h.k4⟩
section
variable {P : Program} {w : World} {K : PySem.W.Frag} {mg : Str → Option Value} {base : Heap}
theorem Tx.sCls (T : Tx w K mg) : Cls K (He.ga K "Service") := He.cls_ok (T.fast 0)
theorem Tx.n1 (T : Tx w K mg) : NoAttr K (He.ga K "Service") "_stations" := He.noat_ok (T.fast 9)
theorem Tx.n2 (T : Tx w K mg) : NoAttr K (He.ga K "Service") "_registers" := He.noat_ok (T.fast 10)
theorem Tx.n3 (T : Tx w K mg) : NoAttr K (He.ga K "Service") "_requests" := He.noat_ok (T.fast 11)
theorem Tx.n4 (T : Tx w K mg) : NoAttr K (He.ga K "Service") "_rules" := He.noat_ok (T.fast 12)
theorem sc_Service___init__ : FnScope ["self", "stations", "registers", "requests", "rules", "rule"] ["self", "stations", "registers", "requests", "rules"] (defScope (inClass (top 52) 0)) := ⟨rfl, rfl, rfl, by decide +kernel, rfl, by decide +kernel, by decide +kernel⟩
theorem ok_Service_init (T : Tx w K mg) : OkI P w K mg base (L2.CX P w) 15 "Service" ["self", "stations", "registers", "requests", "rules"] (spSI K) := by
  have sc := sc_Service___init__
  have F_check_names := ok_check_names (P := P) (base := base) T
  have F_check_kinds := ok_check_kinds (P := P) (base := base) T
  have F_check_rule := ok_check_rule (P := P) (base := base) T
  obtain ⟨_, m_STATIONS_MOST⟩ := T.int (x := "STATIONS_MOST") (i := 6)
  obtain ⟨_, m_REGISTERS_MOST⟩ := T.int (x := "REGISTERS_MOST") (i := 3)
  obtain ⟨_, m_RULES_MOST⟩ := T.int (x := "RULES_MOST") (i := 40)
  refine oki_of (He.mkr_ok (T.fast 2)) T.glo (T.def_ 30) sc (fun vs H Q E h => ?_) (fun _ _ _ _ _ _ us hl => match us, hl with | [_, _, _, _, _], _ => rfl) (fun cdv A outer s H vs Q E hr h => ?_)
  · obtain ⟨a, dx, sl, rl, kl, ul, us, ws, S, rfl, _⟩ := h
    rfl
  have tk : Takes (cxOf (L2.CX P w) P w K mg base ["self", "stations", "registers", "requests", "rules", "rule"] "Service.__init__" (defScope (inClass (top 52) 0)) (He.ma K (He.ga K "Service") "__init__") cdv A outer s H E) (fun cls d _ H => E cls d H) := takes_of rfl rfl rfl rfl
  have hrE := hr.mono (show 3 ≤ 14 by decide)
  have hr_check_names := hr.mono (show 4 ≤ 14 by decide)
  have hr_check_kinds := hr.mono (show 4 ≤ 14 by decide)
  have hr_check_rule := hr
  refine ⟨_, (pss_cons (ps_if (pt_not (pt_chain op_le op_le pe_int (pe_callB call_len_seq (by rfl) T.free PySem.boot_len (pa_cons (pv 1) pa_nil)) (pe_glob (v := .int 6) (by rfl) m_STATIONS_MOST ⟨_, rfl⟩))) (pss_one (ps_err (ok_BadCount T) hrE rfl tk (pa_cons pe_str pa_nil))) pss_nil)
    (pss_cons (ps_expr (pe_f F_check_names hr_check_names (passes_call tk fun _ _ _ _ h => h) (pa_cons (pe_callTy call_list_of (by rfl) T.free (by decide +kernel) (pa_cons (pv 1) pa_nil)) pa_nil)))
    (pss_cons (ps_if (pt_cmpR op_gt (pe_callB call_len_seq (by rfl) T.free PySem.boot_len (pa_cons (pv 2) pa_nil)) (pe_glob (v := .int 3) (by rfl) m_REGISTERS_MOST ⟨_, rfl⟩) (nomark _)) (pss_one (ps_err (ok_BadCount T) hrE rfl tk (pa_cons pe_str pa_nil))) pss_nil)
    (pss_cons (ps_expr (pe_f F_check_names hr_check_names (passes_call tk fun _ _ _ _ h => h) (pa_cons (pe_callTy call_list_of (by rfl) T.free (by decide +kernel) (pa_cons (pv 2) pa_nil)) pa_nil)))
    (pss_cons (ps_if (pt_cmpR op_in_seq pe_str (pv 2) (by rfl)) (pss_one (ps_err (ok_BadName T) hrE rfl tk (pa_cons pe_str pa_nil))) pss_nil)
    (pss_cons (ps_expr (pe_f F_check_kinds hr_check_kinds (passes_call tk fun _ _ _ _ h => h) (pa_cons (pe_callTy call_list_of (by rfl) T.free (by decide +kernel) (pa_cons (pv 3) pa_nil)) (pa_cons (pe_callTy call_list_of (by rfl) T.free (by decide +kernel) (pa_cons (pv 2) pa_nil)) pa_nil))))
    (pss_cons (ps_if (pt_cmpR op_gt (pe_callB call_len_seq (by rfl) T.free PySem.boot_len (pa_cons (pv 4) pa_nil)) (pe_glob (v := .int 40) (by rfl) m_RULES_MOST ⟨_, rfl⟩) (nomark _)) (pss_one (ps_err (ok_BadCount T) hrE rfl tk (pa_cons pe_str pa_nil))) pss_nil)
    (pss_cons (ps_for (passes_of rfl) rfl (pi_list (pv 4)) (pg_name (i := 5) sc.nd rfl (by first | exact Or.inl rfl | exact Or.inr rfl)) (pss_one (ps_expr (pe_f F_check_rule hr_check_rule (passes_call tk fun _ _ _ _ h => h) (pa_cons (pv 5) (pa_cons (pe_callTy call_list_of (by rfl) T.free (by decide +kernel) (pa_cons (pv 1) pa_nil)) (pa_cons (pe_callTy call_list_of (by rfl) T.free (by decide +kernel) (pa_cons (pv 2) pa_nil)) (pa_cons (pe_callTy call_list_of (by rfl) T.free (by decide +kernel) (pa_cons (pv 3) pa_nil)) pa_nil))))))))
    (pss_cons (ps_fld (pv 0) (pe_callTy call_list_of (by rfl) T.free (by decide +kernel) (pa_cons (pv 1) pa_nil)) rfl)
    (pss_cons (ps_fld (pv 0) (pe_callTy call_list_of (by rfl) T.free (by decide +kernel) (pa_cons (pv 2) pa_nil)) rfl)
    (pss_cons (ps_fld (pv 0) (pe_callTy call_list_of (by rfl) T.free (by decide +kernel) (pa_cons (pv 3) pa_nil)) rfl)
    (pss_one (ps_fld (pv 0) (pe_callTy call_list_of (by rfl) T.free (by decide +kernel) (pa_cons (pv 4) pa_nil)) rfl))))))))))))), ?_⟩
  obtain ⟨a, dx, sl, rl, kl, ul, us, ws, S, rfl, ha, hP, sm, hfit, hC1, hC2⟩ := h
  have hC : Chk (SvcOk S) K H E fun H' => ∀ H'', KeepW H' H'' → SvcAt K H'' S (.ref a) → Q .non H'' := ⟨fun ok H' k H'' k2 => hC1 ok H'' (k.toW.trans k2), hC2⟩
  clear hC1 hC2
  have hC0 := (hC.iff svcOk_iff).and
  clear hC
  refine ⟨_, rfl, sl, _, rfl, .inl (SqL.of hP.h1), _, _, rfl, rfl, _, rfl, ?_⟩
  rw [List.length_map]
  have err : ∀ (b : Prop) (H1 : Hp) (G : Hp → Prop) (x : Str) (y : Str) (σ : L2.St), x ∈ excs → Chk b K H1 E G → ¬ b → tErr K x E [] (tCons (tC (.str y)) tNil) D0 σ H1 := fun b H1 G x y σ hx c no => err_endI (pl := .str y) (c.2 no) (KeepI.refl _) rfl (by show 1 ≤ 1000; decide) hx
  by_cases c1 : 1 ≤ S.stations.length
  rotate_left
  · refine itF (decide_eq_false (by omega)) ⟨_, rfl, itT rfl ?_⟩
    exact err _ _ _ "BadCount" "stations" _ (by decide +kernel) hC0 fun z => c1 z.1
  refine itT (decide_eq_true (by omega)) ⟨_, _, rfl, rfl, _, rfl, ?_⟩
  by_cases c2 : S.stations.length ≤ 6
  rotate_left
  · refine itT (by rw [decide_eq_false (show ¬ (S.stations.length : Int) ≤ 6 by omega)]; rfl) ?_
    exact err _ _ _ "BadCount" "stations" _ (by decide +kernel) hC0 fun z => c2 z.2
  refine itF (by rw [decide_eq_true (show (S.stations.length : Int) ≤ 6 by omega)]; rfl) ?_
  have hC1 := (hC0.yes ⟨c1, c2⟩).and
  clear hC0
  -- check_names(list(stations))
  refine ⟨_, rfl, sl, _, rfl, .inl (SqL.of hP.h1), fun p1 np1 => ?_⟩
  have k1 := KeepI.new (o := .lst (S.stations.map V.str)) np1
  refine ⟨p1, _, rfl, upd_same, sm.st, (hC1.keep k1).imp fun H2 _ k2 hC2 => ?_⟩
  have kA := k1.trans k2
  have hPA := hP.keep kA
  have hC3 := hC2.and
  refine ⟨_, rfl, rl, _, rfl, .inl (SqL.of hPA.h2), _, _, rfl, rfl, _, rfl, ?_⟩
  rw [List.length_map]
  by_cases c3 : S.registers.length ≤ 3
  rotate_left
  · refine itT (decide_eq_true (by omega)) ?_
    exact err _ _ _ "BadCount" "registers" _ (by decide +kernel) hC3 c3
  refine itF (decide_eq_false (by omega)) ?_
  have hC4 := (hC3.yes c3).and
  refine ⟨_, rfl, rl, _, rfl, .inl (SqL.of hPA.h2), fun p3 np3 => ?_⟩
  have k3 := KeepI.new (o := .lst (S.registers.map V.str)) np3
  refine ⟨p3, _, rfl, upd_same, sm.rg, (hC4.keep k3).imp fun H4 _ k4 hC5 => ?_⟩
  have kB := kA.trans (k3.trans k4)
  have hPB := hP.keep kB
  have hC6 := hC5.and
  refine ⟨_, rfl, rl, _, rfl, .inl (SqL.of hPB.h2), rfl, flatStrs _, _, rfl, ?_⟩
  rw [inStr]
  by_cases c4 : ("self" : Str) ∈ S.registers
  · refine itT (decide_eq_true c4) ?_
    exact err _ _ _ "BadName" "self" _ (by decide +kernel) hC6 fun z => z c4
  refine itF (decide_eq_false c4) ?_
  have hC7 := (hC6.yes c4).and
  refine ⟨_, rfl, kl, _, rfl, .inl (SqL.of hPB.h3), fun p5 np5 => ⟨_, rfl, rl, _, rfl, .inl (SqL.of (hPB.keep (KeepI.new np5)).h2), fun p6 np6 => ?_⟩⟩
  have k5 := KeepI.new (o := .lst us) np5
  have k6 := KeepI.new (o := .lst (S.registers.map V.str)) np6
  have hPC := hPB.keep (k5.trans k6)
  have h56 : upd (upd H4 p5 (.lst us)) p6 (.lst (S.registers.map V.str)) p5 = some (.lst us) := by rw [upd_ne (ne_of_none upd_same np6)]; exact upd_same
  refine ⟨p5, p6, us, S.kinds, S.registers, rfl, h56, hPC.k3, fun k hk => (sm.ks k hk).1, fun k hk => (sm.ks k hk).2, upd_same, (hC7.keep (k5.trans k6)).imp fun H7 ok7 k7 hC8 => ?_⟩
  have kD := kB.trans ((k5.trans k6).trans k7)
  have hPD := hP.keep kD
  have hC9 := hC8.and
  have lws := Paired.length hPD.k4
  refine ⟨_, rfl, ul, _, rfl, .inl (SqL.of hPD.h4), _, _, rfl, rfl, _, rfl, ?_⟩
  rw [← lws]
  by_cases c5 : S.rules.length ≤ 40
  rotate_left
  · refine itT (decide_eq_true (by omega)) ?_
    exact err _ _ _ "BadCount" "rules" _ (by decide +kernel) hC9 c5
  refine itF (decide_eq_false (by omega)) ?_
  have hCA := hC9.yes c5
  refine ⟨_, rfl, ul, rfl, ⟨_, SqL.of hPD.h4⟩, ?_⟩
  refine for_list (a := ul) (xs := ws) (fun i σ H' => KeepI H7 H' ∧ (∃ kv, σ = [some (.ref a), some (.ref sl), some (.ref rl), some (.ref kl), some (.ref ul), kv]) ∧ ∀ j x, j < i → S.rules[j]? = some x → RuleOk S.stations S.registers S.kinds x)
    ⟨KeepI.refl _, ⟨_, rfl⟩, fun j x h => absurd h (Nat.not_lt_zero j)⟩ (fun i σ H' _ ⟨k, _⟩ => SqL.of (k ul _ hPD.h4 rfl)) (fun i x σ H' hx ⟨k, ⟨kv, es⟩, hd⟩ => ?_) (fun σ H' ⟨k, ⟨kv, es⟩, hd⟩ => ?_)
  · subst es
    obtain ⟨y, e1, e2⟩ := Paired.at_ hPD.k4 i x hx
    have my := List.mem_of_getElem? e1
    have hPE := hPD.keep k
    refine ⟨_, rfl, _, rfl, sl, _, rfl, .inl (SqL.of hPE.h1), fun q1 nq1 => ⟨_, rfl, rl, _, rfl, .inl (SqL.of (hPE.keep (KeepI.new nq1)).h2), fun q2 nq2 => ⟨_, rfl, kl, _, rfl, .inl (SqL.of (hPE.keep ((KeepI.new nq1).trans (KeepI.new nq2))).h3), fun q3 nq3 => ?_⟩⟩⟩
    have j1 := KeepI.new (o := .lst (S.stations.map V.str)) nq1
    have j2 := KeepI.new (o := .lst (S.registers.map V.str)) nq2
    have j3 := KeepI.new (o := .lst us) nq3
    have jj := (j1.trans j2).trans j3
    have g1 := (j2.trans j3) q1 _ upd_same rfl
    have g2 := j3 q2 _ upd_same rfl
    have hPF := hPE.keep jj
    refine ⟨y, x, q1, q2, q3, us, S.stations, S.registers, S.kinds, rfl, e2.keep (k.trans jj).tup, (hfit.rules y my).cond, sm.ru y my, g1, g2, upd_same, hPF.k3, hfit.kinds, sm.rl, fun k hk => (sm.ks k hk).2, ?_, fun no => RE.monoI (hCA.2 fun z => no (z y my)) (k.trans jj)⟩
    refine fun ok H3 k3 => ⟨(k.trans jj).trans k3, ⟨_, rfl⟩, fun j z hj hz => ?_⟩
    rcases Nat.lt_succ_iff_lt_or_eq.mp hj with h1 | h1
    · exact hd j z h1 hz
    · rw [h1, e1] at hz
      cases hz
      exact ok
  subst es
  have hCB := hCA.1 (fun x hx => by
    obtain ⟨j, hj⟩ := List.getElem?_of_mem hx
    have lt : j < S.rules.length := by
      rcases Nat.lt_or_ge j S.rules.length with z | z
      · exact z
      · rw [List.getElem?_eq_none z] at hj
        cases hj
    exact hd j x (by omega) hj)
  have hPE := hPD.keep k
  have hCC := hCB H' k
  clear hCA hCB hC1 hC2 hC3 hC4 hC5 hC6 hC7 hC8 hC9
  have ha' := (kD.trans k) a _ ha rfl
  refine ⟨_, rfl, sl, _, rfl, .inl (SqL.of hPE.h1), fun l1 n1 => ?_⟩
  obtain ⟨e1, w1, b1, a1⟩ := put_ok (fs' := [("_stations", .ref l1)]) (xs := S.stations.map V.str) ha' n1
  refine ⟨_, rfl, a, _, dx, _, rfl, e1, T.sCls, T.n1, by show 0 < 1000; decide, ?_⟩
  have P1 := hPE.keepW w1
  refine ⟨_, rfl, rl, _, rfl, .inl (SqL.of P1.h2), fun l2 n2 => ?_⟩
  obtain ⟨e2, w2, b2, a2⟩ := put_ok (fs' := [("_stations", .ref l1), ("_registers", .ref l2)]) (xs := S.registers.map V.str) a1 n2
  refine ⟨_, rfl, a, _, dx, _, rfl, e2, T.sCls, T.n2, by show 1 < 1000; decide, ?_⟩
  have P2 := P1.keepW w2
  refine ⟨_, rfl, kl, _, rfl, .inl (SqL.of P2.h3), fun l3 n3 => ?_⟩
  obtain ⟨e3, w3, b3, a3⟩ := put_ok (fs' := [("_stations", .ref l1), ("_registers", .ref l2), ("_requests", .ref l3)]) (xs := us) a2 n3
  refine ⟨_, rfl, a, _, dx, _, rfl, e3, T.sCls, T.n3, by show 2 < 1000; decide, ?_⟩
  have P3 := P2.keepW w3
  refine ⟨_, rfl, ul, _, rfl, .inl (SqL.of P3.h4), fun l4 n4 => ?_⟩
  obtain ⟨e4, w4, b4, a4⟩ := put_ok (fs' := sFs l1 l2 l3 l4) (xs := ws) a3 n4
  refine ⟨_, rfl, a, _, dx, _, rfl, e4, T.sCls, T.n4, by show 3 < 1000; decide, ?_⟩
  have P4 := P3.keepW w4
  exact hCC _ (((w1.trans w2).trans w3).trans w4) ⟨a, dx, l1, l2, l3, l4, us, ws, rfl, a4, ((w2.trans w3).trans w4) l1 _ b1 rfl, (w3.trans w4) l2 _ b2 rfl, w4 l3 _ b3 rfl, P4.k3, b4, P4.k4⟩
end
end L2.Ta

set_option maxHeartbeats 4000000
/-! the service parsed -/
namespace L2.Ta
open PySem PySem.Spec PyProof.Rows L2 TL
def spPN (K : PySem.W.Frag) : Sp := fun vs H Q E => ∃ (ll : Addr) (ls : List Str) (i : Nat) (x : Str), vs = [.ref ll, .int i, .str x] ∧ H ll = some (.lst (ls.map V.str)) ∧ (∀ l ∈ ls, l.length + 2 ≤ sizeLine) ∧
  Opt ((ls[i]?).bind fun l => pnames x (Txt.split l spc)) (RE K H E) fun r => ∀ p H', KeepW H H' → H' p = some (.lst (r.map V.str)) → Q (.ref p) H'
theorem pexp_names (x : Str) (ws : List Str) : pexp x ws = (pnames x ws).map fun r => ((), r) := by
  cases ws with
  | nil => rfl
  | cons w r =>
    show (if w = x then pret () else pfail) r = Option.map (fun r => ((), r)) (if w = x then some r else none)
    by_cases c : w = x
    · rw [if_pos c, if_pos c]
      rfl
    · rw [if_neg c, if_neg c]
      rfl
section
variable {P : Program} {w : World} {K : PySem.W.Frag} {mg : Str → Option Value} {base : Heap}
theorem sc_parse_names : FnScope ["lines", "place", "word", "words"] ["lines", "place", "word"] (defScope (top 59)) := ⟨rfl, rfl, rfl, by decide +kernel, rfl, by decide +kernel, by decide +kernel⟩
theorem ok_parse_names (T : Tx w K mg) : Ok1 P w K mg base (L2.CX P w) 6 "parse_names" ["lines", "place", "word"] (spPN K) := by
  have sc := sc_parse_names
  have F_Words___init__ := ok_Words_init (P := P) (base := base) T
  have F_Words_expect := ok_Words_expect (P := P) (base := base) T
  have F_Words_rest := ok_Words_rest (P := P) (base := base) T
  refine ok1_of T.glo (T.def_ 45) sc (fun vs H Q E h => ?_) (fun _ _ _ _ _ _ us hl => match us, hl with | [_, _, _], _ => rfl) (fun cdv A outer s H vs Q E hr h => ?_)
  · obtain ⟨ll, ls, i, x, rfl, _⟩ := h
    rfl
  have tk : Takes (cxOf (L2.CX P w) P w K mg base ["lines", "place", "word", "words"] "parse_names" (defScope (top 59)) (He.ga K "parse_names") cdv A outer s H E) (fun cls d _ H => E cls d H) := takes_of rfl rfl rfl rfl
  have hrE := hr.mono (show 3 ≤ 5 by decide)
  have hr_Words___init__ := hr.mono (show 2 ≤ 5 by decide)
  have hr_Words_expect := hr
  have hr_Words_rest := hr.mono (show 1 ≤ 5 by decide)
  refine ⟨_, (pss_cons (ps_if (pt_cmpR op_ge (pv 1) (pe_callB call_len_seq (by rfl) T.free PySem.boot_len (pa_cons (pv 0) pa_nil)) (nomark _)) (pss_one (ps_err (ok_BadLine T) hrE rfl tk (pa_cons (pv 1) pa_nil))) pss_nil)
    (pss_cons (ps_set (i := 3) sc.nd rfl (by first | exact Or.inl rfl | exact Or.inr rfl) (pe_mk F_Words___init__ hr_Words___init__ pass0 (pa_cons (pe_ix ix_list (pv 0) (pv 1) (fun _ _ => rfl)) (pa_cons (pv 1) pa_nil))))
    (pss_cons (ps_expr (pe_m F_Words_expect (pv 3) hr_Words_expect (passes_call tk fun _ _ _ _ h => h) (pa_cons (pv 2) pa_nil)))
    (pss_one (ps_ret (pe_m0 F_Words_rest (pv 3) hr_Words_rest pass0)))))), ?_⟩
  obtain ⟨ll, ls, i, x, rfl, hl, hz, hQ⟩ := h
  refine ⟨_, rfl, _, rfl, ll, _, rfl, .inl (SqL.of hl), _, _, rfl, rfl, _, rfl, ?_⟩
  rw [List.length_map]
  by_cases c : i < ls.length
  rotate_left
  · rw [List.getElem?_eq_none (by omega)] at hQ
    refine itT (decide_eq_true (by omega)) ⟨_, rfl, ?_⟩
    exact err_end hQ (KeepW.refl H) rfl (by show 1 ≤ 1000; decide)
  refine itF (decide_eq_false (by omega)) ?_
  have e1 : ls[i]? = some ls[i] := by simp [c]
  have m1 : ls[i] ∈ ls := List.getElem_mem c
  generalize ls[i] = l at e1 m1
  rw [e1] at hQ
  have e2 : (ls.map V.str)[i]? = some (.str l) := by rw [List.getElem?_map, e1]; rfl
  refine ⟨_, rfl, _, rfl, ll, _, _, _, rfl, rfl, SqL.of hl, at_of (j := i) rfl e2, _, rfl, fun a dx hx hd ne => ⟨a, dx, l, .int i, rfl, upd_same, hz l m1, fun H1 r er kk hW => ⟨rfl, ?_⟩⟩⟩
  subst er
  have kH : KeepW H H1 := ((KeepW.new hd).trans (KeepW.new (by rw [upd_ne (Ne.symm ne)]; exact hx))).trans kk
  refine rd_exp (x := x) rfl (fun _ z => ⟨_, rfl, z⟩) hW ?_
  rw [pexp_names]
  have hQ2 : Opt (pnames x (Txt.split l spc)) (RE K H E) (fun r => ∀ p H', KeepW H H' → H' p = some (.lst (r.map V.str)) → Q (.ref p) H') := hQ
  clear hQ
  cases e : pnames x (Txt.split l spc) with
  | none =>
    rw [e] at hQ2
    exact RE.mono hQ2 kH
  | some rem =>
    rw [e] at hQ2
    refine fun H2 k2 w2 => ?_
    refine rd_rest rfl w2 fun p H3 k3 np hp3 w3 => ?_
    exact hQ2 p H3 ((kH.trans k2).trans k3) hp3
def SvcFin (K : PySem.W.Frag) (H : Hp) (E : XK) (Q : VK) (S : Svc) : Prop := (SvcOk S → ∀ v H', KeepW H H' → SvcAt K H' S v → Q v H') ∧ (¬ SvcOk S → RE K H E)
/-- the lines of a text, each in words -/
def wordsOf (text : Str) : List (List Str) := (Txt.split text nln).map fun l => Txt.split l spc
def okText (text : Str) : Prop := text.length ≤ 900000 ∧ PyData.strOk text = true
def spPS (K : PySem.W.Frag) : Sp := fun vs H Q E => ∃ text, vs = [.str text] ∧ okText text ∧
  Opt (psvc (wordsOf text)) (RE K H E) (SvcFin K H E Q)
theorem joinL_all {q : Nat → Bool} (S : List Nat) : ∀ (ps : List (List Nat)), (joinL S ps).all q = true → ∀ p ∈ ps, p.all q = true
  | [], h, p, hp => nomatch hp
  | [a], h, p, hp => by
    rw [List.mem_singleton] at hp
    subst hp
    exact h
  | a :: b :: r, h, p, hp => by
    have h2 : (a ++ (S ++ joinL S (b :: r))).all q = true := h
    rw [List.all_append, List.all_append, Bool.and_eq_true, Bool.and_eq_true] at h2
    rcases List.mem_cons.mp hp with e | hp
    · rw [e]
      exact h2.1
    · exact joinL_all S (b :: r) h2.2.2 p hp
theorem split_ok {x y : Str} {s : Nat} (ey : tl y = [s]) (hk : y.cps.all (· < 256) = true) {w : Str} (h : w ∈ Txt.split x y) (ok : PyData.strOk x = true) : PyData.strOk w = true := by
  rw [strOk_tl] at ok ⊢
  have z := joinL_all (q := fun x => decide (x < 0x110000)) (tl y) ((Txt.split x y).map tl)
  rw [← tl_join, ← join_eq, join_split ey hk] at z
  exact z ok _ (List.mem_map_of_mem h)
theorem lines_ok {text : Str} (h : okText text) {l : Str} (hl : l ∈ Txt.split text nln) : okText l := ⟨Nat.le_trans (split_len tl_nln nln_ok hl) h.1, split_ok tl_nln nln_ok hl h.2⟩
theorem words_ok {text : Str} (h : okText text) {ws : List Str} (hw : ws ∈ wordsOf text) : Sm ws ∧ ws.length ≤ 1000000 := by
  unfold wordsOf at hw
  obtain ⟨l, hl, rfl⟩ := List.mem_map.mp hw
  have h2 := lines_ok h hl
  refine ⟨fun x hx => ⟨?_, split_ok tl_spc spc_ok hx h2.2⟩, ?_⟩
  · have z := split_len tl_spc spc_ok hx
    have z2 := h2.1
    omega
  · have z := split_cnt (x := l) tl_spc spc_ok
    have z2 := h2.1
    omega
theorem svc_small {text : Str} {S : Svc} (h : okText text) (e : wordsOf text = S.lines) : S.small := by
  have m : ∀ ws ∈ S.lines, Sm ws ∧ ws.length ≤ 1000000 := fun ws hw => words_ok h (by rw [e]; exact hw)
  refine ⟨fun x hx => (m (("stations" : Str) :: S.stations) List.mem_cons_self).1 x (List.mem_cons_of_mem _ hx), fun x hx => (m (("registers" : Str) :: S.registers) (List.mem_cons_of_mem _ List.mem_cons_self)).1 x (List.mem_cons_of_mem _ hx), ?_, fun k hk => ?_,
    fun R hR => (m R.words (List.mem_cons_of_mem _ (List.mem_cons_of_mem _ (List.mem_append_right _ (List.mem_map_of_mem hR))))).1⟩
  · have z := (m (("registers" : Str) :: S.registers) (List.mem_cons_of_mem _ List.mem_cons_self)).2
    rw [List.length_cons] at z
    omega
  · have z := m (("request" : Str) :: k) (List.mem_cons_of_mem _ (List.mem_cons_of_mem _ (List.mem_append_left _ (List.mem_map_of_mem hk))))
    refine ⟨fun x hx => z.1 x (List.mem_cons_of_mem _ hx), ?_⟩
    have z2 := z.2
    rw [List.length_cons] at z2
    omega
theorem psvc_eq (L : List (List Str)) : psvc L = (L[0]?.bind (pnames "stations")).bind fun ss => (L[1]?.bind (pnames "registers")).bind fun rs => (pkinds (L.drop 2)).bind fun p => (prules rs.length p.2).map fun ru => ⟨ss, rs, p.1, ru⟩ := by
  match L with
  | [] => rfl
  | [l0] =>
    show none = _
    cases pnames "stations" l0 <;> simp
  | l0 :: l1 :: r =>
    show psvc (l0 :: l1 :: r) = (pnames "stations" l0).bind fun ss => (pnames "registers" l1).bind fun rs => (pkinds r).bind fun p => (prules rs.length p.2).map fun ru => ⟨ss, rs, p.1, ru⟩
    unfold psvc
    dsimp only
    cases pnames "stations" l0 with
    | none => rfl
    | some ss =>
      cases pnames "registers" l1 with
      | none => rfl
      | some rs =>
        cases pkinds r with
        | none => rfl
        | some p =>
          obtain ⟨ks, r2⟩ := p
          dsimp only
          show _ = (prules rs.length r2).map fun ru => (⟨ss, rs, ks, ru⟩ : Svc)
          cases prules rs.length r2 <;> rfl
theorem pkinds_stop {L : List (List Str)} (h : ∀ l r, L = l :: r → l.head? ≠ some ("request" : Str)) : pkinds L = some ([], L) := by
  cases L with
  | nil => rfl
  | cons l r =>
    unfold pkinds
    rw [if_neg (h l r rfl)]
theorem pkinds_step {l : List Str} {r : List (List Str)} (h : l.head? = some ("request" : Str)) : pkinds (l :: r) = if l.tail = [] then none else (pkinds r).map fun p => (l.tail :: p.1, p.2) := by
  rw [pkinds, if_pos h]
  by_cases c : l.tail = []
  · rw [if_pos c, if_pos c]
  · rw [if_neg c, if_neg c]
    cases pkinds r <;> rfl
theorem prules_step {n : Nat} {l : List Str} {r : List (List Str)} : prules n (l :: r) = (prule n l).bind fun p => (prules n r).map fun rs => p.1 :: rs := by
  rw [prules]
  cases prule n l with
  | none => rfl
  | some p =>
    obtain ⟨R, r2⟩ := p
    dsimp only
    show _ = (prules n r).map fun rs => R :: rs
    cases prules n r <;> rfl
theorem while_ex {c : TT} {tb : TS} {D : Ends} {σ : L2.St} {H : Hp} (Ex : L2.St → Hp → Prop) (hd : ∀ σ H, Ex σ H → D.nx σ H) (h : (∀ σ H, Ex σ H → D.nx σ H) → tWhile c tb D σ H) : tWhile c tb D σ H := h hd
theorem sc_parse_service : FnScope ["text", "lines", "stations", "registers", "place", "requests", "names", "rules"] ["text"] (defScope (top 60)) := ⟨rfl, rfl, rfl, by decide +kernel, rfl, by decide +kernel, by decide +kernel⟩
theorem ok_parse_service (T : Tx w K mg) : Ok1 P w K mg base (L2.CX P w) 17 "parse_service" ["text"] (spPS K) := by
  have sc := sc_parse_service
  have F_parse_names := ok_parse_names (P := P) (base := base) T
  have F_parse_rule := ok_parse_rule (P := P) (base := base) T
  have F_Service___init__ := ok_Service_init (P := P) (base := base) T
  refine ok1_of T.glo (T.def_ 46) sc (fun vs H Q E h => ?_) (fun _ _ _ _ _ _ us hl => match us, hl with | [_], _ => rfl) (fun cdv A outer s H vs Q E hr h => ?_)
  · obtain ⟨text, rfl, _⟩ := h
    rfl
  have tk : Takes (cxOf (L2.CX P w) P w K mg base ["text", "lines", "stations", "registers", "place", "requests", "names", "rules"] "parse_service" (defScope (top 60)) (He.ga K "parse_service") cdv A outer s H E) (fun cls d _ H => E cls d H) := takes_of rfl rfl rfl rfl
  have hrE := hr.mono (show 3 ≤ 16 by decide)
  have hr_parse_names := hr.mono (show 6 ≤ 16 by decide)
  have hr_parse_rule := hr.mono (show 13 ≤ 16 by decide)
  have hr_Service___init__ := hr
  refine ⟨_, (pss_cons (ps_set (i := 1) sc.nd rfl (by first | exact Or.inl rfl | exact Or.inr rfl) (pe_split (pv 0) pe_str))
    (pss_cons (ps_set (i := 2) sc.nd rfl (by first | exact Or.inl rfl | exact Or.inr rfl) (pe_f F_parse_names hr_parse_names (passes_call tk fun _ _ _ _ h => h) (pa_cons (pv 1) (pa_cons pe_int (pa_cons pe_str pa_nil)))))
    (pss_cons (ps_set (i := 3) sc.nd rfl (by first | exact Or.inl rfl | exact Or.inr rfl) (pe_f F_parse_names hr_parse_names (passes_call tk fun _ _ _ _ h => h) (pa_cons (pv 1) (pa_cons pe_int (pa_cons pe_str pa_nil)))))
    (pss_cons (ps_set (i := 4) sc.nd rfl (by first | exact Or.inl rfl | exact Or.inr rfl) pe_int)
    (pss_cons (ps_set (i := 5) sc.nd rfl (by first | exact Or.inl rfl | exact Or.inr rfl) (pe_lst pa_nil))
    (pss_cons (ps_while (passes_of rfl) (PW.pt (pw_and (pt_cmpR op_lt (pv 4) (pe_callB call_len_seq (by rfl) T.free PySem.boot_len (pa_cons (pv 1) pa_nil)) (nomark _)) (pw_and1 (pt_cmpR op_eq (pe_ix ix_list (pe_split (pe_ix ix_list (pv 1) (pv 4) (fun _ _ => rfl)) pe_str) pe_int (fun _ _ => rfl)) pe_str (nomark _))))) (pss_cons (ps_set (i := 6) sc.nd rfl (by first | exact Or.inl rfl | exact Or.inr rfl) (pe_f F_parse_names hr_parse_names (passes_call tk fun _ _ _ _ h => h) (pa_cons (pv 1) (pa_cons (pv 4) (pa_cons pe_str pa_nil)))))
    (pss_cons (ps_if (pt_cmpR op_eq (pe_callB call_len_seq (by rfl) T.free PySem.boot_len (pa_cons (pv 6) pa_nil)) pe_int (nomark _)) (pss_one (ps_err (ok_BadLine T) hrE rfl tk (pa_cons (pv 4) pa_nil))) pss_nil)
    (pss_cons (ps_expr (pe_bm PySem.F.plainAttrs_list PySem.F.slot_list_append PySem.F.type_list_append mt_append (pv 5) (pa_cons (pe_callTy call_tuple_of (by rfl) T.free (by decide +kernel) (pa_cons (pv 6) pa_nil)) pa_nil)))
    (pss_one (ps_aug (i := 4) sc.nd rfl (by first | exact Or.inl rfl | exact Or.inr rfl) pe_int ip_add))))))
    (pss_cons (ps_set (i := 7) sc.nd rfl (by first | exact Or.inl rfl | exact Or.inr rfl) (pe_lst pa_nil))
    (pss_cons (ps_while (passes_of rfl) (pt_cmpR op_lt (pv 4) (pe_callB call_len_seq (by rfl) T.free PySem.boot_len (pa_cons (pv 1) pa_nil)) (nomark _)) (pss_cons (ps_expr (pe_bm PySem.F.plainAttrs_list PySem.F.slot_list_append PySem.F.type_list_append mt_append (pv 7) (pa_cons (pe_f F_parse_rule hr_parse_rule (passes_call tk fun _ _ _ _ h => h) (pa_cons (pe_ix ix_list (pv 1) (pv 4) (fun _ _ => rfl)) (pa_cons (pv 4) (pa_cons (pe_callB call_len_seq (by rfl) T.free PySem.boot_len (pa_cons (pv 3) pa_nil)) pa_nil)))) pa_nil)))
    (pss_one (ps_aug (i := 4) sc.nd rfl (by first | exact Or.inl rfl | exact Or.inr rfl) pe_int ip_add))))
    (pss_one (ps_ret (pe_mk F_Service___init__ hr_Service___init__ (passes_call tk fun _ _ _ _ h => h) (pa_cons (pv 2) (pa_cons (pv 3) (pa_cons (pv 5) (pa_cons (pv 7) pa_nil))))))))))))))), ?_⟩
  obtain ⟨text, rfl, hok, hQ⟩ := h
  generalize eL : wordsOf text = L at hQ
  have hQ1 : Opt (psvc L) (RE K H E) (SvcFin K H E Q) := hQ
  have hsm : ∀ S, psvc L = some S → S.small ∧ S.fits := fun S e => ⟨svc_small hok (eL.trans (svc_some e).1), (svc_some e).2⟩
  have hQ2 : Opt (psvc L) (RE K H E) (fun S => S.small ∧ S.fits ∧ SvcFin K H E Q S) := hQ1.mono id fun S e z => ⟨(hsm S e).1, (hsm S e).2, z⟩
  clear hQ hQ1 hsm
  rw [psvc_eq] at hQ2
  have lz : ∀ l ∈ Txt.split text nln, l.length + 2 ≤ sizeLine := fun l hl => by
    have z := (lines_ok hok hl).1
    rw [sizeLine_eq]
    omega
  have lc : (Txt.split text nln).length ≤ 1000000 := by
    have z := split_cnt (x := text) tl_nln nln_ok
    have z2 := hok.1
    omega
  have lw : ∀ ws ∈ L, ws.length ≤ 1000000 := fun ws hw => (words_ok hok (by rw [eL]; exact hw)).2
  have hLi : ∀ i : Nat, L[i]? = ((Txt.split text nln)[i]?).map fun l => Txt.split l spc := fun i => by rw [← eL]; unfold wordsOf; rw [List.getElem?_map]
  have hLn : L.length = (Txt.split text nln).length := by rw [← eL]; unfold wordsOf; rw [List.length_map]
  refine ⟨_, rfl, ⟨_, rfl⟩, text, nln, rfl, rfl, rfl, ?_, fun ll nll => ?_⟩
  · have z := hok.1
    rw [sizeLine_eq]
    omega
  clear eL hok
  generalize Txt.split text nln = ls at lz lc hLi hLn
  have k1 := KeepW.new (o := .lst (ls.map V.str)) nll
  have hl1 : upd H ll (.lst (ls.map V.str)) ll = some (.lst (ls.map V.str)) := upd_same
  generalize upd H ll (.lst (ls.map V.str)) = H1 at k1 hl1
  have pn : ∀ (i : Nat) (x : Str) (no : Prop) (yes : List Str → Prop), Opt (L[i]?.bind (pnames x)) no yes → Opt ((ls[i]?).bind fun l => pnames x (Txt.split l spc)) no yes := fun i x no yes h => by
    rw [hLi, Option.bind_map] at h
    exact h
  -- the stations, the registers
  have hQ3 := pn 0 _ _ _ hQ2.bind
  refine ⟨_, rfl, ll, ls, 0, _, rfl, hl1, lz, hQ3.mono (RE.mono · k1) fun ss _ hQ4 p2 H2 k2 hp2 => ?_⟩
  have kB := k1.trans k2
  have hQ5 := pn 1 _ _ _ hQ4.bind
  clear hQ2 hQ3 hQ4
  refine ⟨_, rfl, ll, ls, 1, _, rfl, k2 ll _ hl1 rfl, lz, hQ5.mono (RE.mono · kB) fun rs e3 hQ6 p3 H3 k3 hp3 => ?_⟩
  clear hQ5
  have kC := kB.trans k3
  have hl3 := k3 ll _ (k2 ll _ hl1 rfl) rfl
  have hp23 := k3 p2 _ hp2 rfl
  have lrs : rs.length ≤ 1000000 := by
    cases e4 : ls[1]? with
    | none => rw [e4] at e3; cases e3
    | some l =>
      rw [e4] at e3
      have e5 : pnames "registers" (Txt.split l spc) = some rs := e3
      have m : Txt.split l spc ∈ L := List.mem_of_getElem? (i := 1) (by rw [hLi, e4]; rfl)
      have z := lw _ m
      cases e6 : Txt.split l spc with
      | nil => rw [e6] at e5; cases e5
      | cons a r =>
        rw [e6] at e5 z
        have e7 : (if a = "registers" then some r else none) = some rs := e5
        by_cases c : a = "registers"
        · rw [if_pos c] at e7
          cases e7
          rw [List.length_cons] at z
          omega
        · rw [if_neg c] at e7
          cases e7
  clear k1 k2 k3 kB hl1 hp2 e3 nll
  refine ⟨by show 0 ≤ sizeLine; decide, fun q nq => ?_⟩
  have hQ7 : Opt ((pkinds (L.drop 2)).bind fun p => (prules rs.length p.2).map fun ru => (⟨ss, rs, [] ++ p.1, ru⟩ : Svc)) (RE K H E) (fun S => S.small ∧ S.fits ∧ SvcFin K H E Q S) := hQ6
  refine while_ex (fun σ H' => ∃ (i : Nat) (nv : Option V) (kd : List (List Str)) (us : List V), σ = [some (.str text), some (.ref ll), some (.ref p2), some (.ref p3), some (.int (i : Nat)), some (.ref q), nv, none] ∧
    KeepW H3 H' ∧ H' q = some (.lst us) ∧ Paired (KindAt H') kd us ∧ Opt ((prules rs.length (L.drop i)).map fun ru => (⟨ss, rs, kd, ru⟩ : Svc)) (RE K H E) (fun S => S.small ∧ S.fits ∧ SvcFin K H E Q S)) (fun σ H' ⟨i, nv, kd, us, es, k, hq, hp, hQ8⟩ => ?_) (fun ext => ?_)
  · subst es
    refine ⟨by show 0 ≤ sizeLine; decide, fun q2 nq2 => ?_⟩
    have hl4 := k ll _ hl3 rfl
    have hq4 := KeepW.new (o := .lst []) nq2 q _ hq rfl
    refine ⟨fun m σ H6 => ∃ (i : Nat) (rd : List Rule) (ws : List V), m = ls.length - i ∧ σ = [some (.str text), some (.ref ll), some (.ref p2), some (.ref p3), some (.int (i : Nat)), some (.ref q), nv, some (.ref q2)] ∧
      KeepW H' H6 ∧ H6 q2 = some (.lst ws) ∧ ws.length ≤ i ∧ Paired (RuleAt H6) rd ws ∧ Opt ((prules rs.length (L.drop i)).map fun ru => (⟨ss, rs, kd, rd ++ ru⟩ : Svc)) (RE K H E) (fun S => S.small ∧ S.fits ∧ SvcFin K H E Q S),
      ⟨_, i, [], [], rfl, rfl, KeepW.new nq2, upd_same, Nat.zero_le _, .nil, hQ8⟩, fun m σ H6 ⟨i, rd, ws, em, es, k6, hq6, lu, hp6, hQ9⟩ => ?_⟩
    subst es
    have hl6 := k6 ll _ hl4 rfl
    have kZ := (kC.trans k).trans k6
    refine ⟨_, rfl, _, rfl, ll, _, rfl, .inl (SqL.of hl6), _, _, rfl, rfl, _, rfl, ?_⟩
    rw [List.length_map]
    by_cases c : i < ls.length
    rotate_left
    · refine itF (decide_eq_false (by omega)) ?_
      rw [List.drop_of_length_le (by omega)] at hQ9
      have z : Opt (some (⟨ss, rs, kd, rd ++ []⟩ : Svc)) (RE K H E) (fun S => S.small ∧ S.fits ∧ SvcFin K H E Q S) := hQ9
      rw [List.append_nil] at z
      obtain ⟨z1, z2, z3, z4⟩ := z
      refine ⟨_, rfl, _, rfl, _, rfl, _, rfl, fun a dx na nd ne => ?_⟩
      have kN : KeepW H6 (upd (upd H6 dx (.own a)) a (.ins (He.ga K "Service") dx [])) := (KeepW.new nd).trans (KeepW.new (by rw [upd_ne (Ne.symm ne)]; exact na))
      have kM := (k.trans k6).trans kN
      exact ⟨a, dx, p2, p3, q, q2, us, ws, ⟨ss, rs, kd, rd⟩, rfl, upd_same, ⟨kM p2 _ hp23 rfl, kM p3 _ hp3 rfl, (k6.trans kN) q _ hq rfl, Paired.keepR (fun _ _ => KindAt.keep (k6.trans kN).tup) hp, kN q2 _ hq6 rfl, Paired.keepR (fun _ _ => RuleAt.keep kN.tup) hp6⟩, z1, z2,
        fun ok H7 k7 hs => ⟨rfl, z3 ok _ H7 ((kZ.trans kN).trans k7) hs⟩, fun no => RE.mono (z4 no) (kZ.trans kN)⟩
    refine itT (decide_eq_true (by omega)) ⟨fun σ' H'' => ∃ m', m' < m ∧ ∃ (i : Nat) (rd : List Rule) (ws : List V), m' = ls.length - i ∧ σ' = [some (.str text), some (.ref ll), some (.ref p2), some (.ref p3), some (.int (i : Nat)), some (.ref q), nv, some (.ref q2)] ∧
      KeepW H' H'' ∧ H'' q2 = some (.lst ws) ∧ ws.length ≤ i ∧ Paired (RuleAt H'') rd ws ∧ Opt ((prules rs.length (L.drop i)).map fun ru => (⟨ss, rs, kd, rd ++ ru⟩ : Svc)) (RE K H E) (fun S => S.small ∧ S.fits ∧ SvcFin K H E Q S), fun σ' H'' z => z, ?_⟩
    have e1 : ls[i]? = some ls[i] := by simp [c]
    have m1 : ls[i] ∈ ls := List.getElem_mem c
    generalize ls[i] = l at e1 m1
    have e2 : (ls.map V.str)[i]? = some (.str l) := by rw [List.getElem?_map, e1]; rfl
    have e3 : L[i]? = some (Txt.split l spc) := by rw [hLi, e1]; rfl
    have e4 : L.drop i = Txt.split l spc :: L.drop (i + 1) := by
      have z := List.drop_eq_getElem_cons (l := L) (i := i) (by omega)
      rw [z]
      have z2 : L[i]? = some L[i] := by simp
      rw [← Option.some.inj (e3.symm.trans z2)]
    rw [e4, prules_step] at hQ9
    have hQA : Opt ((prule rs.length (Txt.split l spc)).bind fun p => (prules rs.length (L.drop (i + 1))).map fun ru => (⟨ss, rs, kd, (rd ++ [p.1]) ++ ru⟩ : Svc)) (RE K H E) (fun S => S.small ∧ S.fits ∧ SvcFin K H E Q S) := by
      have e : ((prule rs.length (Txt.split l spc)).bind fun p => (prules rs.length (L.drop (i + 1))).map fun ru => (⟨ss, rs, kd, (rd ++ [p.1]) ++ ru⟩ : Svc)) =
          (((prule rs.length (Txt.split l spc)).bind fun p => (prules rs.length (L.drop (i + 1))).map fun rs => p.1 :: rs).map fun ru => (⟨ss, rs, kd, rd ++ ru⟩ : Svc)) := by
        rw [Option.map_bind]
        simp [Function.comp_def]
      rw [e]
      exact hQ9
    refine ⟨_, rfl, .inl ⟨rfl, _, SqL.of hq6⟩, _, rfl, _, rfl, ll, _, _, _, rfl, rfl, SqL.of hl6, at_of (j := i) rfl e2, _, rfl, _, rfl, p3, _, rfl, .inl (SqL.of (k6 p3 _ (k p3 _ hp3 rfl) rfl)), ?_⟩
    rw [List.length_map]
    refine ⟨l, .int i, rs.length, rfl, lz l m1, lrs, hQA.bind.mono (RE.mono · kZ) fun p ep hQB v H7 k7 hv => ?_⟩
    have hq7 := k7 q2 _ hq6 rfl
    have t8 : TupK H7 (upd H7 q2 (.lst (ws ++ [v]))) := TupK.lst hq7
    refine ⟨q2, ws, _, rfl, rfl, hq7, by rw [sizeLine_eq]; omega, ?_⟩
    exact ⟨_, rfl, _, _, rfl, rfl, ls.length - (i + 1), by omega, i + 1, rd ++ [p.1], ws ++ [v], rfl, rfl, (k6.trans k7).mut nq2, upd_same, by simp; omega, Paired.snoc (RuleAt.keep t8 hv) (Paired.keepR (fun _ _ => RuleAt.keep (k7.tup.trans t8)) hp6), hQB⟩
  · refine ⟨fun m σ H' => ∃ (i : Nat) (nv : Option V) (kd : List (List Str)) (us : List V), m = ls.length - i ∧ σ = [some (.str text), some (.ref ll), some (.ref p2), some (.ref p3), some (.int (i : Nat)), some (.ref q), nv, none] ∧
      KeepW H3 H' ∧ H' q = some (.lst us) ∧ us.length ≤ i ∧ Paired (KindAt H') kd us ∧ Opt ((pkinds (L.drop i)).bind fun p => (prules rs.length p.2).map fun ru => (⟨ss, rs, kd ++ p.1, ru⟩ : Svc)) (RE K H E) (fun S => S.small ∧ S.fits ∧ SvcFin K H E Q S),
      ⟨_, 2, none, [], [], rfl, rfl, KeepW.new nq, upd_same, Nat.zero_le _, .nil, hQ7⟩, fun m σ H' ⟨i, nv, kd, us, em, es, k, hq, lu, hp, hQ8⟩ => ?_⟩
    subst es
    have hl4 := k ll _ hl3 rfl
    have stp : (∀ l r, L.drop i = l :: r → l.head? ≠ some ("request" : Str)) → _ := fun no => ext [some (.str text), some (.ref ll), some (.ref p2), some (.ref p3), some (.int (i : Nat)), some (.ref q), nv, none] H' ⟨i, nv, kd, us, rfl, k, hq, hp, by
      rw [pkinds_stop no] at hQ8
      have z : Opt ((prules rs.length (L.drop i)).map fun ru => (⟨ss, rs, kd ++ [], ru⟩ : Svc)) (RE K H E) (fun S => S.small ∧ S.fits ∧ SvcFin K H E Q S) := hQ8
      rw [List.append_nil] at z
      exact z⟩
    refine ⟨_, rfl, _, rfl, ll, _, rfl, .inl (SqL.of hl4), _, _, rfl, rfl, _, rfl, ?_⟩
    rw [List.length_map]
    by_cases c : i < ls.length
    rotate_left
    · refine itF (decide_eq_false (by omega)) (itF rfl (stp fun l r e => ?_))
      rw [List.drop_of_length_le (by omega)] at e
      cases e
    refine itT (decide_eq_true (by omega)) ?_
    have e1 : ls[i]? = some ls[i] := by simp [c]
    have m1 : ls[i] ∈ ls := List.getElem_mem c
    generalize ls[i] = l at e1 m1
    have e2 : (ls.map V.str)[i]? = some (.str l) := by rw [List.getElem?_map, e1]; rfl
    have e3 : L[i]? = some (Txt.split l spc) := by rw [hLi, e1]; rfl
    have e4 : L.drop i = Txt.split l spc :: L.drop (i + 1) := by
      have z := List.drop_eq_getElem_cons (l := L) (i := i) (by omega)
      rw [z]
      have z2 : L[i]? = some L[i] := by simp
      rw [← Option.some.inj (e3.symm.trans z2)]
    obtain ⟨w0, wr, e5⟩ : ∃ a r, Txt.split l spc = a :: r := by
      cases e : Txt.split l spc with
      | nil => exact (split_ne tl_spc spc_ok e).elim
      | cons a r => exact ⟨a, r, rfl⟩
    refine ⟨_, rfl, _, rfl, ll, _, _, _, rfl, rfl, SqL.of hl4, at_of (j := i) rfl e2, ⟨_, rfl⟩, l, spc, rfl, rfl, rfl, lz l m1, fun p5 np5 => ?_⟩
    rw [e5] at e3 e4 ⊢
    refine ⟨p5, _, 0, _, rfl, rfl, SqL.of upd_same, at_of (j := 0) rfl rfl, rfl, _, rfl, ?_⟩
    have k5 := KeepW.new (o := .lst ((w0 :: wr).map V.str)) np5
    have kX := k.trans k5
    by_cases cr : w0 = "request"
    rotate_left
    · refine itF (by simp [cr]) ?_
      refine ext _ _ ⟨i, nv, kd, us, rfl, kX, k5 q _ hq rfl, Paired.keepR (fun _ _ => KindAt.keep k5.tup) hp, ?_⟩
      rw [pkinds_stop (fun l r e => by rw [e4] at e; cases e; simp [cr])] at hQ8
      have z : Opt ((prules rs.length (L.drop i)).map fun ru => (⟨ss, rs, kd ++ [], ru⟩ : Svc)) (RE K H E) (fun S => S.small ∧ S.fits ∧ SvcFin K H E Q S) := hQ8
      rw [List.append_nil] at z
      exact z
    refine itT (by simp [cr]) ⟨fun σ' H'' => ∃ m', m' < m ∧ ∃ (i : Nat) (nv : Option V) (kd : List (List Str)) (us : List V), m' = ls.length - i ∧ σ' = [some (.str text), some (.ref ll), some (.ref p2), some (.ref p3), some (.int (i : Nat)), some (.ref q), nv, none] ∧
      KeepW H3 H'' ∧ H'' q = some (.lst us) ∧ us.length ≤ i ∧ Paired (KindAt H'') kd us ∧ Opt ((pkinds (L.drop i)).bind fun p => (prules rs.length p.2).map fun ru => (⟨ss, rs, kd ++ p.1, ru⟩ : Svc)) (RE K H E) (fun S => S.small ∧ S.fits ∧ SvcFin K H E Q S), fun σ' H'' z => z, ?_⟩
    have hkX := kC.trans kX
    have pe : ((ls[i]?).bind fun l => pnames "request" (Txt.split l spc)) = some wr := by
      rw [e1]
      show pnames "request" (Txt.split l spc) = some wr
      rw [e5]
      show (if w0 = "request" then some wr else none) = some wr
      rw [if_pos cr]
    refine ⟨_, rfl, _, rfl, ll, ls, i, _, rfl, k5 ll _ hl4 rfl, lz, ?_⟩
    rw [pe]
    show ∀ p H', _ → _ → _
    intro p6 H6 k6 hp6
    have kY := kX.trans k6
    have hq6 := k6 q _ (k5 q _ hq rfl) rfl
    refine ⟨_, rfl, p6, _, rfl, .inl (SqL.of hp6), rfl, _, rfl, ?_⟩
    rw [List.length_map]
    rw [e4, pkinds_step (by simp [cr])] at hQ8
    cases wr with
    | nil =>
      refine itT (by decide) ⟨_, rfl, ?_⟩
      exact err_end (show RE K H E from hQ8) (kC.trans kY) rfl (by show 1 ≤ 1000; decide)
    | cons w1 wr =>
      refine itF (by simp; omega) ?_
      refine ⟨_, rfl, .inl ⟨rfl, _, SqL.of hq6⟩, _, rfl, p6, _, rfl, .inl ⟨SqL.of hp6, fun p7 np7 => ?_⟩⟩
      have k7 := KeepW.new (o := .tup ((w1 :: wr).map V.str)) np7
      have hq7 := k7 q _ hq6 rfl
      refine ⟨q, us, _, rfl, rfl, hq7, by rw [sizeLine_eq]; omega, ?_⟩
      refine ⟨_, rfl, _, _, rfl, rfl, ls.length - (i + 1), by omega, i + 1, _, kd ++ [w1 :: wr], us ++ [.ref p7], rfl, rfl, (kY.trans k7).mut nq, upd_same, by simp; omega, ?_, ?_⟩
      · have t8 : TupK (upd H6 p7 (.tup ((w1 :: wr).map V.str))) (upd (upd H6 p7 (.tup ((w1 :: wr).map V.str))) q (.lst (us ++ [.ref p7]))) := TupK.lst hq7
        refine Paired.snoc ⟨p7, rfl, t8 _ _ upd_same⟩ (Paired.keepR (fun _ _ => KindAt.keep (((k5.trans k6).trans k7).tup.trans t8)) hp)
      · have e : ((pkinds (L.drop (i + 1))).bind fun p => (prules rs.length p.2).map fun ru => (⟨ss, rs, (kd ++ [w1 :: wr]) ++ p.1, ru⟩ : Svc)) =
            ((if (w0 :: w1 :: wr).tail = [] then none else (pkinds (L.drop (i + 1))).map fun p => ((w0 :: w1 :: wr).tail :: p.1, p.2)).bind fun p => (prules rs.length p.2).map fun ru => (⟨ss, rs, kd ++ p.1, ru⟩ : Svc)) := by
          rw [if_neg (by simp), Option.bind_map]
          simp [Function.comp_def]
        rw [e]
        exact hQ8
end
end L2.Ta

set_option maxHeartbeats 4000000
/-! the law's draws -/
namespace L2.Ta
open PySem PySem.Spec PyProof.Rows L2 TL
/-- the deck; r: how many nodes it has left -/
def Dk (dk l : Addr) (r : Nat) (H : Hp) : Prop := ∃ (a c : Int) (b : Nat) (cells : List Int), H dk = some (.lst [.int a, .int b, .int c, .ref l, .int r]) ∧ H l = some (.lst (cells.map V.int)) ∧ 0 ≤ a ∧ l ≠ dk
/-- all but the deck stands -/
abbrev KeepD (dk : Addr) := KeepG (fun b => b = dk)
theorem KeepD.set {dk : Addr} {H : Hp} {xs ys : List V} (h : H dk = some (.lst xs)) : KeepD dk H (upd H dk (.lst ys)) := ⟨TupK.lst h, fun b u e n => by rw [upd_ne n]; exact e⟩
/-- what is drawn from the deck -/
def Drw (dk l : Addr) (H : Hp) (r' : Nat) (H' : Hp) : Prop := KeepD dk H H' ∧ Dk dk l r' H'
theorem Dk.new {dk l p : Addr} {r : Nat} {H : Hp} {o : HO} (h : Dk dk l r H) (np : H p = none) : Dk dk l r (upd H p o) := by
  obtain ⟨a, c, b, cells, h1, h2, h3, h4⟩ := h
  exact ⟨a, c, b, cells, KeepI.new np dk _ h1 rfl, KeepI.new np l _ h2 rfl, h3, h4⟩
theorem Dk.keep {dk l : Addr} {r : Nat} {H H' : Hp} (h : Dk dk l r H) (k : KeepI H H') : Dk dk l r H' := by
  obtain ⟨a, c, b, cells, h1, h2, h3, h4⟩ := h
  exact ⟨a, c, b, cells, k dk _ h1 rfl, k l _ h2 rfl, h3, h4⟩
theorem Dk.ne {dk l p : Addr} {r : Nat} {H : Hp} (h : Dk dk l r H) (np : H p = none) : p ≠ dk ∧ p ≠ l := by
  obtain ⟨a, c, b, cells, h1, h2, h3, h4⟩ := h
  exact ⟨(ne_of_none h1 np).symm, (ne_of_none h2 np).symm⟩
theorem Dk.set {dk l p : Addr} {r : Nat} {H : Hp} {o : HO} (h : Dk dk l r H) (n1 : p ≠ dk) (n2 : p ≠ l) : Dk dk l r (upd H p o) := by
  obtain ⟨a, c, b, cells, h1, h2, h3, h4⟩ := h
  exact ⟨a, c, b, cells, by rw [upd_ne (Ne.symm n1)]; exact h1, by rw [upd_ne (Ne.symm n2)]; exact h2, h3, h4⟩
def spDraw : Sp := fun vs H Q _ => ∃ (dk l : Addr) (r : Nat) (n : Int), vs = [.ref dk, .int n] ∧ 0 < n ∧ n < 1000000 ∧ Dk dk l r H ∧ ∀ v H', 0 ≤ v → v < n → KeepD dk H H' → Dk dk l r H' → Q (.int v) H'
def spLet : Sp := fun vs H Q _ => ∃ (dk l : Addr) (r : Nat), vs = [.ref dk] ∧ Dk dk l r H ∧ ∀ c H', isLet c = true → KeepD dk H H' → Dk dk l r H' → Q (.str ⟨#[c]⟩) H'
def spTxt : Sp := fun vs H Q _ => ∃ (dk l : Addr) (r : Nat) (m : Nat), vs = [.ref dk, .int m] ∧ m ≤ 100 ∧ Dk dk l r H ∧ ∀ x H', letters x = true → x.length ≤ m → KeepD dk H H' → Dk dk l r H' → Q (.str x) H'
theorem seq_ex {t u : TS} {D : Ends} {σ : L2.St} {H : Hp} (Ex : L2.St → Hp → Prop) (hd : ∀ σ H, Ex σ H → u D σ H) (h : (∀ σ H, Ex σ H → u D σ H) → tSeq t u D σ H) : tSeq t u D σ H := h hd
theorem at5 {x0 x1 x2 x3 x4 : V} : atI [x0, x1, x2, x3, x4] 0 = some x0 ∧ atI [x0, x1, x2, x3, x4] 1 = some x1 ∧ atI [x0, x1, x2, x3, x4] 2 = some x2 ∧ atI [x0, x1, x2, x3, x4] 3 = some x3 ∧ atI [x0, x1, x2, x3, x4] 4 = some x4 := ⟨rfl, rfl, rfl, rfl, rfl⟩
section
variable {P : Program} {w : World} {K : PySem.W.Frag} {mg : Str → Option Value} {base : Heap}
theorem sc__law_draw : FnScope ["_law_deck_here", "_law_bound", "_law_value"] ["_law_deck_here", "_law_bound"] (defScope (top 63)) := ⟨rfl, rfl, rfl, by decide +kernel, rfl, by decide +kernel, by decide +kernel⟩
theorem ok_draw (T : Tx w K mg) : Ok1 P w K mg base CX0 1 "_law_draw" ["_law_deck_here", "_law_bound"] spDraw := by
  have sc := sc__law_draw
  refine ok1_of T.glo (T.def_ 48) sc (fun vs H Q E h => ?_) (fun _ _ _ _ _ _ us hl => match us, hl with | [_, _], _ => rfl) (fun cdv A outer s H vs Q E hr h => ?_)
  · obtain ⟨dk, l, r, n, rfl, _⟩ := h
    rfl
  refine ⟨_, PSs.nox (pss_cons (ps_if (PW.pt (pw_and (pt_cmpR op_eq (pe_ix ix_list (pv 0) pe_int (fun _ _ => rfl)) pe_int (nomark _)) (pw_and1 (pt_cmpR op_lt (pe_ix ix_list (pv 0) pe_int (fun _ _ => rfl)) (pe_callB call_len_seq (by rfl) T.free PySem.boot_len (pa_cons (pe_ix ix_list (pv 0) pe_int (fun _ _ => rfl)) pa_nil)) (nomark _))))) (pss_cons (ps_asg (pe_callB call_abs (by rfl) T.free (by decide +kernel) (pa_cons (pe_ix ix_list (pe_ix ix_list (pv 0) pe_int (fun _ _ => rfl)) (pe_ix ix_list (pv 0) pe_int (fun _ _ => rfl)) (fun _ _ => rfl)) pa_nil)) (pg_sub (pv 0) pe_int set_list))
    (pss_one (ps_asg (pe_op op_add (pe_ix ix_list (pv 0) pe_int (fun _ _ => rfl)) pe_int) (pg_sub (pv 0) pe_int set_list)))) (pss_one (ps_if (pt_cmpR op_eq (pe_ix ix_list (pv 0) pe_int (fun _ _ => rfl)) pe_int (nomark _)) (pss_cons (ps_asg (pe_op op_mod (pe_callTy call_int1 (by rfl) T.free (by decide +kernel) (pa_cons (pe_op op_add (pe_op op_mul (pe_ix ix_list (pv 0) pe_int (fun _ _ => rfl)) pe_int) pe_int) pa_nil)) pe_int) (pg_sub (pv 0) pe_int set_list))
    (pss_one (ps_asg (pe_op op_fdiv (pe_ix ix_list (pv 0) pe_int (fun _ _ => rfl)) pe_int) (pg_sub (pv 0) pe_int set_list)))) pss_nil)))
    (pss_cons (ps_set (i := 2) sc.nd rfl (by first | exact Or.inl rfl | exact Or.inr rfl) (pe_op op_mod (pe_callTy call_int1 (by rfl) T.free (by decide +kernel) (pa_cons (pe_ix ix_list (pv 0) pe_int (fun _ _ => rfl)) pa_nil)) (pv 1)))
    (pss_cons (ps_asg (pe_op op_fdiv (pe_ix ix_list (pv 0) pe_int (fun _ _ => rfl)) (pv 1)) (pg_sub (pv 0) pe_int set_list))
    (pss_one (ps_ret (pv 2)))))), ?_⟩
  obtain ⟨dk, l, r, n, rfl, n0, n1, ⟨a, c, b, cells, h1, h2, h3, h4⟩, hQ⟩ := h
  refine seq_ex (fun σ H1 => σ = [some (.ref dk), some (.int n), none] ∧ KeepD dk H H1 ∧ Dk dk l r H1) (fun σ H1 ⟨es, k1, ⟨a, c, b, cells, h1, h2, h3, h4⟩⟩ => ?_) (fun ext => ?_)
  · subst es
    have hm : (0 : Int) ≤ a % n ∧ a % n < n := ⟨Int.emod_nonneg a (by omega), Int.emod_lt_of_pos a n0⟩
    refine ⟨_, rfl, dk, _, 0, _, rfl, rfl, SqL.of h1, at5.1, .inl ⟨_, rfl, _, rfl, _, _, rfl, rfl, n0, ?_⟩⟩
    refine ⟨_, rfl, dk, _, 0, _, rfl, rfl, SqL.of h1, at5.1, _, rfl, _, _, rfl, rfl, ⟨n0, by omega⟩, _, rfl, dk, _, 0, 0, rfl, rfl, h1, rfl, ?_⟩
    refine ⟨_, rfl, hQ _ _ hm.1 hm.2 (k1.trans (KeepD.set h1)) ⟨a / n, c, b, cells, upd_same, by rw [upd_ne h4]; exact h2, Int.ediv_nonneg h3 (by omega), h4⟩⟩
  · refine ⟨_, rfl, dk, _, 0, _, rfl, rfl, SqL.of h1, at5.1, rfl, _, rfl, ?_⟩
    by_cases c0 : a = 0
    rotate_left
    · refine itF (by simp [c0]) ?_
      refine itF rfl ?_
      refine ⟨_, rfl, dk, _, 0, _, rfl, rfl, SqL.of h1, at5.1, rfl, _, rfl, itF (by simp [c0]) ?_⟩
      exact ext _ _ ⟨rfl, KeepG.refl H, ⟨a, c, b, cells, h1, h2, h3, h4⟩⟩
    refine itT (by simp [c0]) ?_
    refine ⟨_, rfl, dk, _, 1, _, rfl, rfl, SqL.of h1, at5.2.1, _, rfl, dk, _, 3, _, rfl, rfl, SqL.of h1, at5.2.2.2.1, l, _, rfl, .inl (SqL.of h2), _, _, rfl, rfl, _, rfl, ?_⟩
    rw [List.length_map]
    by_cases cb : b < cells.length
    · refine itT (decide_eq_true (by omega)) ?_
      have e1 : (cells.map V.int)[b]? = some (.int cells[b]) := by simp [cb]
      generalize cells[b] = z at e1
      refine ⟨_, rfl, dk, _, 3, _, rfl, rfl, SqL.of h1, at5.2.2.2.1, _, rfl, dk, _, 1, _, rfl, rfl, SqL.of h1, at5.2.1, l, _, _, _, rfl, rfl, SqL.of h2, at_of (j := b) rfl e1, z, rfl, _, rfl, dk, _, 0, 0, rfl, rfl, h1, rfl, ?_⟩
      refine ⟨_, rfl, dk, _, 1, _, rfl, rfl, SqL.of upd_same, rfl, _, _, rfl, rfl, _, rfl, dk, _, 1, 1, rfl, rfl, upd_same, rfl, ?_⟩
      refine ext _ _ ⟨rfl, (KeepD.set h1).trans (KeepD.set upd_same), ⟨(if z < 0 then -z else z), c, b + 1, cells, ?_, ?_, ?_, h4⟩⟩
      · rw [upd_same]
        rfl
      · rw [upd_ne h4, upd_ne h4]
        exact h2
      · split <;> omega
    · refine itF (decide_eq_false (by omega)) ?_
      refine ⟨_, rfl, dk, _, 0, _, rfl, rfl, SqL.of h1, at5.1, rfl, _, rfl, itT (by simp [c0]) ?_⟩
      refine ⟨_, rfl, dk, _, 2, _, rfl, rfl, SqL.of h1, at5.2.2.1, _, _, rfl, rfl, .inr ⟨by decide, by decide⟩, _, _, rfl, rfl, .inl ⟨_, rfl, _, _, rfl, rfl, by show (0 : Int) < 2147483647; decide, _, rfl, dk, _, 2, 2, rfl, rfl, h1, rfl, ?_⟩⟩
      refine ⟨_, rfl, dk, _, 2, _, rfl, rfl, SqL.of upd_same, rfl, _, _, rfl, rfl, ⟨by decide, by decide⟩, _, rfl, dk, _, 0, 0, rfl, rfl, upd_same, rfl, ?_⟩
      refine ext _ _ ⟨rfl, (KeepD.set h1).trans (KeepD.set upd_same), ⟨(c * 48271 + 11) % 2147483647 / 5, (c * 48271 + 11) % 2147483647, b, cells, ?_, ?_, ?_, h4⟩⟩
      · rw [upd_same]
        rfl
      · rw [upd_ne h4, upd_ne h4]
        exact h2
      · exact Int.ediv_nonneg (Int.emod_nonneg _ (by decide)) (by decide)
theorem let1 {c : Nat} {x : Str} (h : c ∈ x.cps.toList) (hx : ∀ d ∈ x.cps.toList, isLet d = true) : isLet c = true := hx c h
theorem sc__law_letter : FnScope ["_law_deck_here"] ["_law_deck_here"] (defScope (top 64)) := ⟨rfl, rfl, rfl, by decide +kernel, rfl, by decide +kernel, by decide +kernel⟩
theorem ok_letter (T : Tx w K mg) : Ok1 P w K mg base CX0 2 "_law_letter" ["_law_deck_here"] spLet := by
  have sc := sc__law_letter
  have F__law_draw := ok_draw (P := P) (base := base) T
  refine ok1_of T.glo (T.def_ 49) sc (fun vs H Q E h => ?_) (fun _ _ _ _ _ _ us hl => match us, hl with | [_], _ => rfl) (fun cdv A outer s H vs Q E hr h => ?_)
  · obtain ⟨dk, l, r, rfl, _⟩ := h
    rfl
  have hr__law_draw := hr
  refine ⟨_, PSs.nox (pss_cons (ps_if (pt_cmpR op_eq (pe_f F__law_draw hr__law_draw pass0 (pa_cons (pv 0) (pa_cons pe_int pa_nil))) pe_int (nomark _)) (pss_one (ps_ret (pe_ix ix_str pe_str (pe_f F__law_draw hr__law_draw pass0 (pa_cons (pv 0) (pa_cons pe_int pa_nil))) (fun _ _ => rfl)))) pss_nil)
    (pss_one (ps_ret (pe_ix ix_str pe_str (pe_f F__law_draw hr__law_draw pass0 (pa_cons (pv 0) (pa_cons pe_int pa_nil))) (fun _ _ => rfl))))), ?_⟩
  obtain ⟨dk, l, r, rfl, hd, hQ⟩ := h
  have pick : ∀ (x : Str) (n : Nat) (v : Int) (H1 : Hp) (Q1 : VK), x.length = n → n ≤ 100 → 0 ≤ v → v < n → (∀ d ∈ x.cps.toList, isLet d = true) → (∀ c, isLet c = true → Q1 (.str ⟨#[c]⟩) H1) → rIxS (.str x) (.int v) H1 Q1 := fun x n v H1 Q1 e ln v0 v1 hx q => by
    have lx : v.toNat < x.cps.toList.length := by
      rw [Array.length_toList]
      have z : x.cps.size = n := e
      omega
    refine ⟨x, v, x.cps.toList[v.toNat], rfl, rfl, by rw [sizeLine_eq]; omega, ?_, q _ (hx _ (List.getElem_mem lx))⟩
    unfold atI ixN
    rw [if_pos v0, if_pos (by omega)]
    simp [lx]
  refine ⟨_, rfl, dk, l, r, 2, rfl, by decide, by decide, hd, fun v H1 v0 v1 k1 d1 => ⟨rfl, _, rfl, ?_⟩⟩
  by_cases c : v = 0
  · refine itT (by simp [c]) ?_
    refine ⟨_, rfl, dk, l, r, 2, rfl, by decide, by decide, d1, fun v H2 v0 v1 k2 d2 => ?_⟩
    exact pick "ab" 2 v H2 _ (by decide +kernel) (by decide) v0 v1 (by decide +kernel) fun c hc => hQ c H2 hc (k1.trans k2) d2
  · refine itF (by simp [c]) ?_
    refine ⟨_, rfl, dk, l, r, 26, rfl, by decide, by decide, d1, fun v H2 v0 v1 k2 d2 => ?_⟩
    exact pick "abcdefghijklmnopqrstuvwxyz" 26 v H2 _ (by decide +kernel) (by decide) v0 v1 (by decide +kernel) fun c hc => hQ c H2 hc (k1.trans k2) d2
end
end L2.Ta

set_option maxHeartbeats 4000000
/-! the law's deck, texts, names, patterns -/
namespace L2.Ta
open PySem PySem.Spec PyProof.Rows L2 TL
/-- [te for x in walk], what is made told by a ghost; Jv: what is carried along -/
theorem gl_lc {α : Type} {S : Addr → Prop} {H : Hp} {J : It} {n : Nat} {G : Hp → Prop} {Y : Nat → Hp → V → Hp → Prop} (w : Walk J n G Y) {X : Nat → V → Prop} {R : α → V → Hp → Prop} {σ : L2.St} {vs : List Nat} {j : Nat} {te : TE} {D : Addr} {Qd : Hp → Prop} (Jv : List α → Hp → Prop)
    (hY : ∀ i H x H', Y i H x H' → H' = H ∧ X i x) (hR : ∀ a v H H', TupK H H' → R a v H → R a v H') (hn : n ≤ 1000000) (hD : H D = none) (hS : ¬ S D) (hG : ∀ H', KeepG S H H' → G H')
    (hw : ∀ x, wipe ((wipe σ vs).set j (some x)) vs = wipe σ vs) (h0 : Jv [] (upd H D (.lst []))) (hJ : ∀ xs H' ys, Jv xs H' → Jv xs (upd H' D (.lst ys)))
    (hte : ∀ (done : List α) x H1 (Q1 : VK), done.length < n → X done.length x → KeepG S H H1 → Jv done H1 → (∀ a y H2, KeepG S H1 H2 → R a y H2 → Jv (done ++ [a]) H2 → Q1 y H2) → te ((wipe σ vs).set j (some x)) H1 Q1)
    (hQ : ∀ xs us H', KeepG S H H' → Jv xs H' → H' D = some (.lst us) → xs.length = n → Paired (fun a u => R a u H') xs us → Qd H') :
    ∃ W : Nat → Nat → Hp → Prop, (∃ m, W 0 m (upd H D (.lst []))) ∧ ∀ i m H, W i m H →
      (J.stop i H ∧ Qd H) ∨ (J.go i H ∧ ∃ Nx : Hp → Prop, (∀ H', Nx H' → ∃ m', m' < m ∧ W (i + 1) m' H') ∧ ∀ x H', J.yld i H x H' → gName j x (wipe σ vs) H' fun σ2 H2 => wipe σ2 vs = wipe σ vs ∧ tYes σ2 H2 fun b H3 =>
        if b = true then te σ2 H3 fun y H4 => ∃ acc, H4 D = some (.lst acc) ∧ acc.length < sizeLine ∧ Nx (upd H4 D (.lst (acc ++ [y]))) else Nx H3) := by
  refine lc_it w (g := gName j) (tt := tYes) (fun i H' => ∃ (xs : List α) (us : List V), KeepG S H H' ∧ H' D = some (.lst us) ∧ xs.length = i ∧ Paired (fun a u => R a u H') xs us ∧ Jv xs H') ⟨[], [], KeepG.new hD, upd_same, rfl, .nil, h0⟩ (fun i H' _ ⟨xs, us, k, _⟩ => hG H' k)
    (fun i x H1 H1' hi ⟨xs, us, k, hu, lu, ru, jv⟩ hy => ?_) (fun H' ⟨xs, us, k, hu, lu, ru, jv⟩ => hQ xs us H' k jv hu lu ru)
  obtain ⟨rfl, hx⟩ := hY _ _ _ _ hy
  refine ⟨hw _, ?_⟩
  refine hte xs x H1' _ (by omega) (by rw [lu]; exact hx) k jv fun a y H2 k2 ry jv2 => ?_
  have hu2 := k2.lst hu hS
  have t3 : TupK H2 (upd H2 D (.lst (us ++ [y]))) := TupK.lst hu2
  have l2 := Paired.length ru
  refine ⟨us, hu2, by rw [sizeLine_eq]; omega, xs ++ [a], us ++ [y], (k.trans k2).mut hD, upd_same, by simp [lu], ?_, hJ _ _ _ jv2⟩
  exact Paired.snoc (hR _ _ _ _ t3 ry) (Paired.keepR (fun _ _ => hR _ _ _ _ (k2.tup.trans t3)) ru)
theorem letters_append {x y : Str} : letters (x ++ y) = (letters x && letters y) := by
  have e : tl (x ++ y) = tl x ++ tl y := tl_append _ _
  show (tl (x ++ y)).all isLet = ((tl x).all isLet && (tl y).all isLet)
  rw [e, List.all_append]
theorem len_append {x y : Str} : (x ++ y).length = x.length + y.length := by
  rw [len_tl, len_tl, len_tl, tl_append, List.length_append]
theorem letters_one {c : Nat} : letters ⟨#[c]⟩ = isLet c := by
  show [c].all isLet = _
  simp
theorem letters_join : ∀ {xs : List Str}, (∀ x ∈ xs, letters x = true ∧ x.length = 1) → letters (Txt.join "" xs) = true ∧ (Txt.join "" xs).length = xs.length := by
  intro xs h
  rw [join_eq]
  have e : tl (Str.join "" xs) = joinL [] (xs.map tl) := tl_join "" xs
  have z : ∀ ys : List Str, (∀ x ∈ ys, letters x = true ∧ x.length = 1) → (joinL [] (ys.map tl)).all isLet = true ∧ (joinL [] (ys.map tl)).length = ys.length := by
    intro ys
    induction ys with
    | nil => exact fun _ => ⟨rfl, rfl⟩
    | cons a r ih =>
      intro hy
      have ha := hy a List.mem_cons_self
      have hr := ih fun x hx => hy x (List.mem_cons_of_mem _ hx)
      have la : (tl a).length = 1 := by rw [← len_tl]; exact ha.2
      have ea : (tl a).all isLet = true := ha.1
      cases r with
      | nil => exact ⟨ea, la⟩
      | cons b t =>
        show (tl a ++ ([] ++ joinL [] ((b :: t).map tl))).all isLet = true ∧ (tl a ++ ([] ++ joinL [] ((b :: t).map tl))).length = _
        rw [List.nil_append, List.all_append, List.length_append, ea, hr.1, hr.2, la]
        exact ⟨rfl, by simp; omega⟩
  obtain ⟨z1, z2⟩ := z xs h
  refine ⟨?_, ?_⟩
  · show (tl (Str.join "" xs)).all isLet = true
    rw [e]
    exact z1
  · rw [len_tl, e]
    exact z2
section
variable {P : Program} {w : World} {K : PySem.W.Frag} {mg : Str → Option Value} {base : Heap}
theorem sc__law_text : FnScope ["_law_deck_here", "_law_most", "_law_size", "_law_k"] ["_law_deck_here", "_law_most"] (defScope (top 65)) := ⟨rfl, rfl, rfl, by decide +kernel, rfl, by decide +kernel, by decide +kernel⟩
theorem ok_text (T : Tx w K mg) : Ok1 P w K mg base CX0 3 "_law_text" ["_law_deck_here", "_law_most"] spTxt := by
  have sc := sc__law_text
  have F__law_draw := ok_draw (P := P) (base := base) T
  have F__law_letter := ok_letter (P := P) (base := base) T
  refine ok1_of T.glo (T.def_ 50) sc (fun vs H Q E h => ?_) (fun _ _ _ _ _ _ us hl => match us, hl with | [_, _], _ => rfl) (fun cdv A outer s H vs Q E hr h => ?_)
  · obtain ⟨dk, l, r, m, rfl, _⟩ := h
    rfl
  have hr__law_draw := hr.mono (show 1 ≤ 2 by decide)
  have hr__law_letter := hr
  refine ⟨_, PSs.nox (pss_cons (ps_set (i := 2) sc.nd rfl (by first | exact Or.inl rfl | exact Or.inr rfl) (pe_f F__law_draw hr__law_draw pass0 (pa_cons (pv 0) (pa_cons (pe_op op_add (pv 1) pe_int) pa_nil))))
    (pss_one (ps_ret (pe_join pe_str (pe_lc (own := [("_law_k", 3)]) (g := gName 3) rfl sc.nd (pi_range1 (by rfl) T.free (pa_cons (pv 2) pa_nil)) (blkOk_by (own := [("_law_k", 3)]) (N := ["_law_deck_here", "_law_most", "_law_size", "_law_k"]) (sc := defScope (top 65)) (by decide +kernel)) (fun _ _ _ _ _ => pg_name (i := 3) sc.nd rfl (Or.inl rfl)) (fun _ _ _ _ _ => pts_nil) (fun _ _ _ _ _ => (pe_f F__law_letter hr__law_letter pass0 (pa_cons (pv 0) pa_nil)))))))), ?_⟩
  obtain ⟨dk, l, r, m, rfl, lm, hd, hQ⟩ := h
  refine ⟨_, rfl, _, rfl, _, _, rfl, rfl, dk, l, r, _, rfl, by show (0 : Int) < (m : Int) + 1; omega, by show (m : Int) + 1 < 1000000; omega, hd, fun v H1 v0 v1 k1 d1 => ⟨⟨_, rfl⟩, _, rfl, v, rfl, by omega, by omega, fun D hD => ?_⟩⟩
  have v1' : v < (m : Int) + 1 := v1
  refine gl_lc (α := Str) (S := fun b => b = dk) (walk_range (lo := 0) (n := v.toNat)) (X := fun _ _ => True) (R := fun a u _ => u = .str a ∧ letters a = true ∧ a.length = 1) (fun _ H' => Dk dk l r H') (fun _ _ _ _ y => ⟨y.1, trivial⟩) (fun _ _ _ _ _ z => z) (by omega) hD (d1.ne hD).1 (fun _ _ => trivial) (fun _ => rfl)
    (d1.new hD) (fun _ _ _ z => z.set (d1.ne hD).1 (d1.ne hD).2) (fun done x H2 Q1 _ _ k d2 q => ?_) (fun xs us H2 k d2 hD2 lx hp => ?_)
  · exact ⟨_, rfl, dk, l, r, rfl, d2, fun c H3 hc k3 d3 => q ⟨#[c]⟩ _ H3 k3 ⟨rfl, letters_one.trans hc, rfl⟩ d3⟩
  · have eus : us = xs.map V.str ∧ ∀ x ∈ xs, letters x = true ∧ x.length = 1 := by
      clear hD2 lx
      induction hp with
      | nil => exact ⟨rfl, fun _ z => nomatch z⟩
      | cons h t ih =>
        refine ⟨by rw [List.map_cons, ← ih.1, h.1], fun x hx => ?_⟩
        rcases List.mem_cons.mp hx with e | e
        · rw [e]
          exact h.2
        · exact ih.2 x e
    obtain ⟨e1, e2⟩ := eus
    subst e1
    obtain ⟨j1, j2⟩ := letters_join e2
    refine ⟨"", D, xs, rfl, rfl, .inl (SqL.of hD2), ?_, ?_⟩
    · have es : (xs.map (·.length)).sum = xs.length := by
        clear j1 j2 lx hD2 hp
        induction xs with
        | nil => rfl
        | cons a t ih =>
          rw [List.map_cons, List.sum_cons, ih fun x hx => e2 x (List.mem_cons_of_mem _ hx), (e2 a List.mem_cons_self).2, List.length_cons]
          omega
      rw [es, show ("" : Str).length = 0 from by decide +kernel]
      omega
    · exact hQ _ H2 j1 (by omega) (k1.trans k) d2
def spNms : Sp := fun vs H Q _ => ∃ (dk l : Addr) (r n : Nat) (bl : Addr) (bs : List Str), vs = [.ref dk, .int n, .ref bl] ∧ n ≤ 3 ∧ Dk dk l r H ∧ H bl = some (.lst (bs.map V.str)) ∧ bs.length ≤ 4 ∧ bl ≠ dk ∧
  ∀ p ns H', ns.length = n → namesOk ns → (∀ x ∈ ns, x ∉ bs) → KeepD dk H H' → Dk dk l r H' → p ≠ dk → H' p = some (.lst (ns.map V.str)) → Q (.ref p) H'
theorem nodup_sub_len : ∀ {xs ys : List Str}, xs.Nodup → (∀ x ∈ xs, x ∈ ys) → xs.length ≤ ys.length
  | [], ys, _, _ => Nat.zero_le _
  | a :: r, ys, hn, hs => by
    have ha := hs a List.mem_cons_self
    have hn2 := List.nodup_cons.mp hn
    have z := nodup_sub_len (xs := r) (ys := ys.erase a) hn2.2 fun x hx => (List.mem_erase_of_ne (fun e => hn2.1 (by rw [← e]; exact hx))).mpr (hs x (List.mem_cons_of_mem _ hx))
    rw [List.length_erase_of_mem ha] at z
    have lp := List.length_pos_of_mem ha
    rw [List.length_cons]
    omega
theorem sc__law_names : FnScope ["_law_deck_here", "_law_count", "_law_barred", "_law_names_here", "_law_k", "_law_name", "_law_tail"] ["_law_deck_here", "_law_count", "_law_barred"] (defScope (top 66)) := ⟨rfl, rfl, rfl, by decide +kernel, rfl, by decide +kernel, by decide +kernel⟩
theorem ok_names (T : Tx w K mg) : Ok1 P w K mg base CX0 4 "_law_names" ["_law_deck_here", "_law_count", "_law_barred"] spNms := by
  have sc := sc__law_names
  have F__law_text := ok_text (P := P) (base := base) T
  have F__law_letter := ok_letter (P := P) (base := base) T
  refine ok1_of T.glo (T.def_ 51) sc (fun vs H Q E h => ?_) (fun _ _ _ _ _ _ us hl => match us, hl with | [_, _, _], _ => rfl) (fun cdv A outer s H vs Q E hr h => ?_)
  · obtain ⟨dk, l, r, n, bl, bs, rfl, _⟩ := h
    rfl
  have hr__law_text := hr
  have hr__law_letter := hr.mono (show 2 ≤ 3 by decide)
  refine ⟨_, PSs.nox (pss_cons (ps_set (i := 3) sc.nd rfl (by first | exact Or.inl rfl | exact Or.inr rfl) (pe_lst pa_nil))
    (pss_cons (ps_for PassesOwn.never rfl (pi_range1 (by rfl) T.free (pa_cons (pv 1) pa_nil)) (pg_name (i := 4) sc.nd rfl (by first | exact Or.inl rfl | exact Or.inr rfl)) (pss_cons (ps_set (i := 5) sc.nd rfl (by first | exact Or.inl rfl | exact Or.inr rfl) (pe_op op_add_str (pe_f F__law_letter hr__law_letter pass0 (pa_cons (pv 0) pa_nil)) (pe_f F__law_text hr__law_text pass0 (pa_cons (pv 0) (pa_cons pe_int pa_nil)))))
    (pss_cons (ps_for PassesOwn.never rfl (pi_range1 (by rfl) T.free (pa_cons pe_int pa_nil)) (pg_name (i := 6) sc.nd rfl (by first | exact Or.inl rfl | exact Or.inr rfl)) (pss_cons (ps_if (PW.pt (pw_and (pt_cmpR op_notIn_seq (pv 5) (pv 3) (by rfl)) (pw_and1 (pt_cmpR op_notIn_seq (pv 5) (pv 2) (by rfl))))) (pss_one ps_break) pss_nil)
    (pss_one (ps_set (i := 5) sc.nd rfl (by first | exact Or.inl rfl | exact Or.inr rfl) (pe_op op_add_str (pv 5) (pe_ix ix_str pe_str (pe_op op_mod (pe_callTy call_int1 (by rfl) T.free (by decide +kernel) (pa_cons (pe_op op_add (pe_op op_mul (pv 4) pe_int) (pv 6)) pa_nil)) pe_int) (fun _ _ => rfl)))))))
    (pss_one (ps_expr (pe_bm PySem.F.plainAttrs_list PySem.F.slot_list_append PySem.F.type_list_append mt_append (pv 3) (pa_cons (pv 5) pa_nil)))))))
    (pss_one (ps_ret (pv 3))))), ?_⟩
  obtain ⟨dk, l, r, n, bl, bs, rfl, ln, hd, hbl, lbs, nbl, hQ⟩ := h
  refine ⟨by show 0 ≤ sizeLine; decide, fun p np => ?_⟩
  refine ⟨_, rfl, (n : Int), rfl, by omega, by omega, ?_⟩
  have npd := hd.ne np
  refine for_range (lo := 0) (n := (n : Int).toNat) (fun i σ H' => ∃ (a b c : Option V) (ns : List Str), σ = [some (.ref dk), some (.int n), some (.ref bl), some (.ref p), a, b, c] ∧ KeepD dk H H' ∧ Dk dk l r H' ∧ H' p = some (.lst (ns.map V.str)) ∧ ns.length = i ∧ namesOk ns ∧ ∀ x ∈ ns, x ∉ bs)
    ⟨none, none, none, [], rfl, KeepG.new np, hd.new np, upd_same, rfl, ⟨fun _ z => (nomatch z), List.nodup_nil⟩, fun _ z => (nomatch z)⟩ (fun i σ H' hi ⟨a, b, c, ns, es, k, d1, hp, lns, ok, nb⟩ => ?_) (fun σ H' ⟨a, b, c, ns, es, k, d1, hp, lns, ok, nb⟩ => ?_)
  rotate_left
  · subst es
    exact ⟨_, rfl, hQ p ns H' (by omega) ok nb k d1 npd.1 hp⟩
  subst es
  have hi2 : i < n := by omega
  refine ⟨_, rfl, dk, l, r, rfl, d1, fun c0 H2 hc0 k2 d2 => ⟨_, rfl, dk, l, r, 2, rfl, by decide, d2, fun x H3 hx lx k3 d3 => ?_⟩⟩
  refine ⟨_, _, rfl, rfl, by rw [sizeLine_eq]; show 1 + x.length ≤ _; omega, ?_⟩
  have k13 := (k.trans k2).trans k3
  have hp3 := (k2.trans k3).lst hp npd.1
  have hbl3 := k13.lst hbl nbl
  have y0 : letters ((⟨#[c0]⟩ : Str) ++ x) = true ∧ 1 ≤ ((⟨#[c0]⟩ : Str) ++ x).length ∧ ((⟨#[c0]⟩ : Str) ++ x).length ≤ 3 := by
    refine ⟨?_, ?_, ?_⟩
    · rw [letters_append, letters_one, hc0, hx]
      rfl
    · rw [len_append]
      show 1 ≤ 1 + x.length
      omega
    · rw [len_append]
      show 1 + x.length ≤ 3
      omega
  generalize (⟨#[c0]⟩ : Str) ++ x = y at y0
  have e0 : (0 : Int) + (i : Int) = ((i : Nat) : Int) := by omega
  refine ⟨9, rfl, by decide, by decide, ?_⟩
  refine for_range (lo := 0) (n := 9) (fun j σ H4 => ∃ (c : Option V) (x : Str) (prev : List Str), σ = [some (.ref dk), some (.int n), some (.ref bl), some (.ref p), some (.int (0 + (i : Int))), some (.str x), c] ∧ H4 = H3 ∧ letters x = true ∧ y.length + j = x.length ∧
    prev.length = j ∧ prev.Nodup ∧ ∀ z ∈ prev, z ∈ ns ++ bs ∧ z.length < x.length)
    ⟨c, y, [], rfl, rfl, y0.1, rfl, rfl, List.nodup_nil, fun _ z => (nomatch z)⟩ (fun j σ H4 hj ⟨c, x, prev, es, eH, hx, lx, lp, np2, hprev⟩ => ?_) (fun σ H4 ⟨c, x, prev, es, eH, hx, lx, lp, np2, hprev⟩ => ?_)
  rotate_left
  · have z := nodup_sub_len np2 (ys := ns ++ bs) fun z hz => (hprev z hz).1
    rw [lp, List.length_append] at z
    omega
  subst es eH
  refine seq_ex (fun σ H5 => σ = [some (.ref dk), some (.int n), some (.ref bl), some (.ref p), some (.int (0 + (i : Int))), some (.str x), some (.int (0 + (j : Int)))] ∧ H5 = H4 ∧ x ∈ ns ++ bs) (fun σ H5 ⟨es, eH, mx⟩ => ?_) (fun ext => ?_)
  · subst es eH
    have pk : ∀ (v : Int) (Q1 : VK), 0 ≤ v → v < 26 → (∀ c, isLet c = true → Q1 (.str ⟨#[c]⟩) H5) → rIxS (.str "abcdefghijklmnopqrstuvwxyz") (.int v) H5 Q1 := fun v Q1 v0 v1 q => by
      have lx : v.toNat < ("abcdefghijklmnopqrstuvwxyz" : Str).cps.toList.length := by
        have e : ("abcdefghijklmnopqrstuvwxyz" : Str).cps.toList.length = 26 := by decide +kernel
        omega
      have hx : ∀ d ∈ ("abcdefghijklmnopqrstuvwxyz" : Str).cps.toList, isLet d = true := by decide +kernel
      refine ⟨"abcdefghijklmnopqrstuvwxyz", v, ("abcdefghijklmnopqrstuvwxyz" : Str).cps.toList[v.toNat], rfl, rfl, by decide +kernel, ?_, q _ (hx _ (List.getElem_mem lx))⟩
      unfold atI ixN
      have e : ("abcdefghijklmnopqrstuvwxyz" : Str).cps.toList.length = 26 := by decide +kernel
      rw [if_pos v0, if_pos (by omega)]
      simp [lx]
    refine ⟨_, rfl, _, rfl, _, _, rfl, rfl, .inr ⟨by decide, by decide⟩, _, rfl, _, _, rfl, rfl, .inl ⟨_, rfl, _, _, rfl, rfl, by show (0 : Int) < 26; decide, ?_⟩⟩
    refine pk _ _ (Int.emod_nonneg _ (by decide)) (Int.emod_lt_of_pos _ (by decide)) fun c1 hc1 => ⟨_, _, rfl, rfl, by rw [sizeLine_eq]; show x.length + 1 ≤ _; omega, ?_⟩
    refine ⟨_, x ++ ⟨#[c1]⟩, x :: prev, rfl, rfl, ?_, ?_, by simp [lp], List.nodup_cons.mpr ⟨fun z => ?_, np2⟩, fun z hz => ?_⟩
    · rw [letters_append, hx, letters_one, hc1]
      rfl
    · rw [len_append]
      show y.length + (j + 1) = x.length + 1
      omega
    · exact absurd (hprev x z).2 (Nat.lt_irrefl _)
    · have e : (x ++ (⟨#[c1]⟩ : Str)).length = x.length + 1 := len_append
      rcases List.mem_cons.mp hz with e2 | e2
      · rw [e2]
        exact ⟨mx, by omega⟩
      · have z2 := hprev z e2
        exact ⟨z2.1, by omega⟩
  · refine ⟨_, rfl, _, rfl, p, _, rfl, .inl (SqL.of hp3), rfl, flatStrs ns, _, rfl, ?_⟩
    show if (if true = true then !inV (.str x) _ else _) = true then _ else _
    rw [inStr]
    by_cases c1 : x ∈ ns
    · refine itF (by simp [c1]) ?_
      exact ext _ _ ⟨rfl, rfl, List.mem_append_left _ c1⟩
    refine itT (by simp [c1]) ?_
    refine ⟨_, rfl, _, rfl, bl, _, rfl, .inl (SqL.of hbl3), rfl, flatStrs bs, _, rfl, ?_⟩
    show if (if true = true then !inV (.str x) _ else _) = true then _ else _
    rw [inStr]
    by_cases c2 : x ∈ bs
    · refine itF (by simp [c2]) ?_
      exact ext _ _ ⟨rfl, rfl, List.mem_append_right _ c2⟩
    refine itT (by simp [c2]) ?_
    -- the name is new
    have nx : isName x = true := by
      unfold isName
      rw [hx, decide_eq_true (show 1 ≤ x.length by omega), decide_eq_true (show x.length ≤ 12 by omega)]
      rfl
    refine ⟨_, rfl, .inl ⟨rfl, _, SqL.of hp3⟩, _, rfl, p, ns.map V.str, _, rfl, rfl, hp3, by rw [List.length_map, sizeLine_eq]; omega, ?_⟩
    refine ⟨_, _, _, ns ++ [x], rfl, k13.mut np, d3.set npd.1 npd.2, by rw [upd_same, List.map_append]; rfl, by simp [lns], ⟨fun z hz => ?_, ?_⟩, fun z hz => ?_⟩
    · rcases List.mem_append.mp hz with e | e
      · exact ok.1 z e
      · rw [List.mem_singleton] at e
        rw [e]
        exact nx
    · rw [List.nodup_append]
      refine ⟨ok.2, by simp, fun a ha b hb => ?_⟩
      rw [List.mem_singleton] at hb
      rw [hb]
      intro e
      rw [e] at ha
      exact c1 ha
    · rcases List.mem_append.mp hz with e | e
      · exact nb z e
      · rw [List.mem_singleton] at e
        rw [e]
        exact c2
end
end L2.Ta

set_option maxHeartbeats 4000000
/-! the law's deck, patterns, sources -/
namespace L2.Ta
open PySem PySem.Spec PyProof.Rows L2 TL
theorem cnt_snoc (c d : Nat) : ∀ l : List Nat, cnt c (l ++ [d]) = cnt c l + (if d = c then 1 else 0)
  | [] => by
    rw [List.nil_append, cnt_cons, cnt_nil]
    omega
  | a :: r => by
    rw [List.cons_append, cnt_cons, cnt_cons, cnt_snoc c d r]
    omega
theorem star_eq : ("*" : Str) = ⟨#[42]⟩ := by decide +kernel
theorem quest_eq : ("?" : Str) = ⟨#[63]⟩ := by decide +kernel
theorem count_snoc (x : Str) (d : Nat) : (Txt.count (x ++ ⟨#[d]⟩) "*" : Int) = Txt.count x "*" + (if d = 42 then 1 else 0) := by
  rw [star_eq]
  have e1 := count_cnt (x ++ ⟨#[d]⟩) 42
  have e2 := count_cnt x 42
  have e3 : (x ++ (⟨#[d]⟩ : Str)).cps.toList = x.cps.toList ++ [d] := tl_append x ⟨#[d]⟩
  rw [e3, cnt_snoc] at e1
  rw [e1, e2]
def pch (c : Nat) : Bool := isLet c || decide (c ∈ ("?*" : Str).cps.toList)
def patOk (x : Str) (n : Nat) : Prop := x.length = n ∧ (Txt.count x "*" : Int) ≤ 2 ∧ x.cps.toList.all pch = true
theorem patOk.snoc {x : Str} {n : Nat} {d : Nat} (h : patOk x n) (hd : pch d = true) (hc : d = 42 → (Txt.count x "*" : Int) < 2) : patOk (x ++ ⟨#[d]⟩) (n + 1) := by
  refine ⟨?_, ?_, ?_⟩
  · rw [len_append, h.1]
    rfl
  · rw [count_snoc]
    by_cases c : d = 42
    · rw [if_pos c]
      have z := hc c
      omega
    · rw [if_neg c]
      have z := h.2.1
      omega
  · have e3 : (x ++ (⟨#[d]⟩ : Str)).cps.toList = x.cps.toList ++ [d] := tl_append x ⟨#[d]⟩
    rw [e3, List.all_append, h.2.2]
    simp [hd]
theorem patOk.pat {x : Str} {n : Nat} (h : patOk x n) (hn : n ≤ 8) : isPat x = true := by
  unfold isPat
  have z := h.2.1
  rw [decide_eq_true (show x.length ≤ 8 by rw [h.1]; exact hn), decide_eq_true (show Txt.count x "*" ≤ 2 by omega)]
  exact h.2.2
theorem pch_let {c : Nat} (h : isLet c = true) : pch c = true ∧ c ≠ 42 := by
  refine ⟨by unfold pch; rw [h]; rfl, fun e => ?_⟩
  rw [e] at h
  revert h
  decide +kernel
def spPat : Sp := fun vs H Q _ => ∃ (dk l : Addr) (r : Nat), vs = [.ref dk] ∧ Dk dk l r H ∧ ∀ x H', isPat x = true → KeepD dk H H' → Dk dk l r H' → Q (.str x) H'
def spSrc : Sp := fun vs H Q _ => ∃ (dk l : Addr) (r : Nat) (nl : Addr) (ns : List Str), vs = [.ref dk, .ref nl] ∧ Dk dk l r H ∧ H nl = some (.lst (ns.map V.str)) ∧ ns ≠ [] ∧ ns.length ≤ 100 ∧ nl ≠ dk ∧
  ∀ v s H', LnAt H' s v → SrcOk ns s → KeepD dk H H' → Dk dk l r H' → Q v H'
def spLin : Sp := fun vs H Q _ => ∃ (dk l : Addr) (r : Nat) (nl : Addr) (ns : List Str), vs = [.ref dk, .ref nl] ∧ Dk dk l r H ∧ H nl = some (.lst (ns.map V.str)) ∧ ns ≠ [] ∧ ns.length ≤ 100 ∧ nl ≠ dk ∧
  ∀ v s H', LnAt H' s v → LineOk ns s → KeepD dk H H' → Dk dk l r H' → Q v H'
/-- l[draw(len(l))] -/
theorem rd_pick {K : PySem.W.Frag} {σ : L2.St} {H : Hp} {Q : VK} {dk l nl : Addr} {r i0 il : Nat} {us : List V} (h0 : σ[i0]? = some (some (.ref dk))) (h1 : σ[il]? = some (some (.ref nl))) (hn : H nl = some (.lst us)) (ne : us ≠ []) (lt : us.length < 1000000) (nd : nl ≠ dk) (hd : Dk dk l r H)
    (q : ∀ u H', u ∈ us → KeepD dk H H' → Dk dk l r H' → Q u H') :
    tOp (rIxL K) (tVar il) (tCall spDraw [] E0 (tCons (tVar i0) (tCons (tCB (fun xs H Q => ∃ p ys, xs = [.ref p] ∧ (SqL K H p ys ∨ SqT K H p ys) ∧ Q (.int ys.length) H) (tCons (tVar il) tNil)) tNil))) σ H Q := by
  have lp : 0 < us.length := List.length_pos_iff.mpr ne
  refine ⟨_, h1, _, h0, _, h1, nl, us, rfl, .inl (SqL.of hn), dk, l, r, _, rfl, by omega, by omega, hd, fun v H' v0 v1 k d => ?_⟩
  have lv : v.toNat < us.length := by omega
  exact ⟨nl, us, v, us[v.toNat], rfl, rfl, SqL.of (k.lst hn nd), at_of (j := v.toNat) (by omega) (by simp [lv]), q _ _ (List.getElem_mem lv) k d⟩
section
variable {P : Program} {w : World} {K : PySem.W.Frag} {mg : Str → Option Value} {base : Heap}
theorem sc__law_pattern : FnScope ["_law_deck_here", "_law_pattern_here", "_law_k", "_law_sign"] ["_law_deck_here"] (defScope (top 67)) := ⟨rfl, rfl, rfl, by decide +kernel, rfl, by decide +kernel, by decide +kernel⟩
theorem ok_pattern (T : Tx w K mg) : Ok1 P w K mg base CX0 3 "_law_pattern" ["_law_deck_here"] spPat := by
  have sc := sc__law_pattern
  have F__law_draw := ok_draw (P := P) (base := base) T
  have F__law_letter := ok_letter (P := P) (base := base) T
  refine ok1_of T.glo (T.def_ 52) sc (fun vs H Q E h => ?_) (fun _ _ _ _ _ _ us hl => match us, hl with | [_], _ => rfl) (fun cdv A outer s H vs Q E hr h => ?_)
  · obtain ⟨dk, l, r, rfl, _⟩ := h
    rfl
  have hr__law_draw := hr.mono (show 1 ≤ 2 by decide)
  have hr__law_letter := hr
  refine ⟨_, PSs.nox (pss_cons (ps_set (i := 1) sc.nd rfl (by first | exact Or.inl rfl | exact Or.inr rfl) pe_str)
    (pss_cons (ps_for PassesOwn.never rfl (pi_range1 (by rfl) T.free (pa_cons (pe_f F__law_draw hr__law_draw pass0 (pa_cons (pv 0) (pa_cons pe_int pa_nil))) pa_nil)) (pg_name (i := 2) sc.nd rfl (by first | exact Or.inl rfl | exact Or.inr rfl)) (pss_cons (ps_set (i := 3) sc.nd rfl (by first | exact Or.inl rfl | exact Or.inr rfl) (pe_f F__law_draw hr__law_draw pass0 (pa_cons (pv 0) (pa_cons pe_int pa_nil))))
    (pss_one (ps_if (pt_cmpR op_eq (pv 3) pe_int (nomark _)) (pss_one (ps_set (i := 1) sc.nd rfl (by first | exact Or.inl rfl | exact Or.inr rfl) (pe_op op_add_str (pv 1) pe_str))) (pss_one (ps_if (PW.pt (pw_and (pt_cmpR op_eq (pv 3) pe_int (nomark _)) (pw_and1 (pt_cmpR op_lt (pe_m1 PySem.F.slot_str_count PySem.F.type_str_count mt_count (pv 1) pe_str) pe_int (nomark _))))) (pss_one (ps_set (i := 1) sc.nd rfl (by first | exact Or.inl rfl | exact Or.inr rfl) (pe_op op_add_str (pv 1) pe_str))) (pss_one (ps_set (i := 1) sc.nd rfl (by first | exact Or.inl rfl | exact Or.inr rfl) (pe_op op_add_str (pv 1) (pe_f F__law_letter hr__law_letter pass0 (pa_cons (pv 0) pa_nil)))))))))))
    (pss_one (ps_ret (pv 1))))), ?_⟩
  obtain ⟨dk, l, r, rfl, hd, hQ⟩ := h
  refine ⟨_, rfl, dk, l, r, 6, rfl, by decide, by decide, hd, fun v H1 v0 v1 k1 d1 => ⟨v, rfl, by omega, by omega, ?_⟩⟩
  refine for_range (lo := 0) (n := v.toNat) (fun i σ H' => ∃ (x : Str) (a b : Option V), σ = [some (.ref dk), some (.str x), a, b] ∧ KeepD dk H H' ∧ Dk dk l r H' ∧ patOk x i) ⟨"", none, none, rfl, k1, d1, by decide +kernel, by decide +kernel, by decide +kernel⟩ (fun i σ H' hi ⟨x, a, b, es, k, d, hx⟩ => ?_) (fun σ H' ⟨x, a, b, es, k, d, hx⟩ => ?_)
  rotate_left
  · subst es
    exact ⟨_, rfl, hQ x H' (hx.pat (by omega)) k d⟩
  subst es
  refine ⟨_, rfl, dk, l, r, 5, rfl, by decide, by decide, d, fun s H2 s0 s1 k2 d2 => ?_⟩
  refine ⟨_, rfl, rfl, _, rfl, ?_⟩
  have lx : x.length ≤ 10 := by rw [hx.1]; omega
  by_cases c0 : s = 0
  · refine itT (by simp [c0]) ⟨_, rfl, _, _, rfl, rfl, by rw [sizeLine_eq, show ("?" : Str).length = 1 by decide +kernel]; omega, ?_⟩
    exact ⟨_, _, _, rfl, k.trans k2, d2, by rw [quest_eq]; exact hx.snoc (by decide +kernel) (fun z => by cases z)⟩
  refine itF (by simp [c0]) ?_
  refine ⟨_, rfl, rfl, _, rfl, ?_⟩
  by_cases c1 : s = 1
  · refine itT (by simp [c1]) ⟨_, rfl, ⟨_, rfl⟩, x, "*", rfl, rfl, _, _, rfl, rfl, _, rfl, ?_⟩
    by_cases c2 : (Txt.count x "*" : Int) < 2
    · refine itT (decide_eq_true c2) ⟨_, rfl, _, _, rfl, rfl, by rw [sizeLine_eq, show ("*" : Str).length = 1 by decide +kernel]; omega, ?_⟩
      refine ⟨_, _, _, rfl, k.trans k2, d2, ?_⟩
      have z := hx.snoc (d := 42) (by decide +kernel) (fun _ => c2)
      rw [← star_eq] at z
      exact z
    · refine itF (decide_eq_false c2) ?_
      refine ⟨_, rfl, _, rfl, dk, l, r, rfl, d2, fun c H3 hc k3 d3 => ⟨_, _, rfl, rfl, by rw [sizeLine_eq]; show x.length + 1 ≤ _; omega, ?_⟩⟩
      exact ⟨_, _, _, rfl, (k.trans k2).trans k3, d3, hx.snoc (pch_let hc).1 (fun z => absurd z (pch_let hc).2)⟩
  · refine itF (by simp [c1]) ?_
    refine itF rfl ?_
    refine ⟨_, rfl, _, rfl, dk, l, r, rfl, d2, fun c H3 hc k3 d3 => ⟨_, _, rfl, rfl, by rw [sizeLine_eq]; show x.length + 1 ≤ _; omega, ?_⟩⟩
    exact ⟨_, _, _, rfl, (k.trans k2).trans k3, d3, hx.snoc (pch_let hc).1 (fun z => absurd z (pch_let hc).2)⟩
theorem sc__law_source : FnScope ["_law_deck_here", "_law_names_here", "_law_kind"] ["_law_deck_here", "_law_names_here"] (defScope (top 70)) := ⟨rfl, rfl, rfl, by decide +kernel, rfl, by decide +kernel, by decide +kernel⟩
theorem ok_source (T : Tx w K mg) : Ok1 P w K mg base CX0 4 "_law_source" ["_law_deck_here", "_law_names_here"] spSrc := by
  have sc := sc__law_source
  have F__law_draw := ok_draw (P := P) (base := base) T
  have F__law_text := ok_text (P := P) (base := base) T
  refine ok1_of T.glo (T.def_ 55) sc (fun vs H Q E h => ?_) (fun _ _ _ _ _ _ us hl => match us, hl with | [_, _], _ => rfl) (fun cdv A outer s H vs Q E hr h => ?_)
  · obtain ⟨dk, l, r, nl, ns, rfl, _⟩ := h
    rfl
  have hr__law_draw := hr.mono (show 1 ≤ 3 by decide)
  have hr__law_text := hr
  refine ⟨_, PSs.nox (pss_cons (ps_set (i := 2) sc.nd rfl (by first | exact Or.inl rfl | exact Or.inr rfl) (pe_f F__law_draw hr__law_draw pass0 (pa_cons (pv 0) (pa_cons pe_int pa_nil))))
    (pss_cons (ps_if (pt_cmpR op_lt (pv 2) pe_int (nomark _)) (pss_one (ps_ret (pe_tup (pa_cons pe_str (pa_cons (pe_ix ix_list (pv 1) (pe_f F__law_draw hr__law_draw pass0 (pa_cons (pv 0) (pa_cons (pe_callB call_len_seq (by rfl) T.free PySem.boot_len (pa_cons (pv 1) pa_nil)) pa_nil))) (fun _ _ => rfl)) pa_nil))))) pss_nil)
    (pss_cons (ps_if (pt_cmpR op_eq (pv 2) pe_int (nomark _)) (pss_one (ps_ret (pe_tup (pa_cons pe_str (pa_cons (pe_f F__law_text hr__law_text pass0 (pa_cons (pv 0) (pa_cons (pe_ix ix_list (pe_lst (pa_cons pe_int (pa_cons pe_int pa_nil))) (pe_f F__law_draw hr__law_draw pass0 (pa_cons (pv 0) (pa_cons pe_int pa_nil))) (fun _ _ => rfl)) pa_nil))) pa_nil))))) pss_nil)
    (pss_one (ps_ret (pe_tup (pa_cons pe_str (pa_cons (pe_f F__law_draw hr__law_draw pass0 (pa_cons (pv 0) (pa_cons pe_int pa_nil))) pa_nil)))))))), ?_⟩
  obtain ⟨dk, l, r, nl, ns, rfl, hd, hn, nne, lns, nnl, hQ⟩ := h
  refine ⟨_, rfl, dk, l, r, 4, rfl, by decide, by decide, hd, fun v H1 v0 v1 k1 d1 => ?_⟩
  have hn1 := k1.lst hn nnl
  refine ⟨_, rfl, _, _, rfl, rfl, _, rfl, ?_⟩
  by_cases c1 : v < 2
  · refine itT (decide_eq_true c1) ?_
    refine rd_pick rfl rfl hn1 (by simpa using nne) (by rw [List.length_map]; omega) nnl d1 fun u H2 hu k2 d2 => ?_
    obtain ⟨x, hx, rfl⟩ := List.mem_map.mp hu
    exact ⟨by show 2 ≤ sizeLine; decide, fun p np => hQ _ (.value x) _ ⟨p, rfl, upd_same⟩ hx ((k1.trans k2).trans (KeepG.new np)) (d2.new np)⟩
  refine itF (decide_eq_false c1) ⟨_, rfl, rfl, _, rfl, ?_⟩
  by_cases c2 : v = 2
  · refine itT (by simp [c2]) ?_
    refine ⟨_, rfl, by show 2 ≤ sizeLine; decide, fun p0 np0 => ?_⟩
    have ne0 := d1.ne np0
    refine ⟨_, rfl, dk, l, r, 2, rfl, by decide, by decide, d1.new np0, fun t H2 t0 t1 k2 d2 => ?_⟩
    have hp0 := k2.lst upd_same ne0.1
    have e : ∃ m : Nat, m ≤ 8 ∧ atI [V.int 2, V.int 8] t = some (.int (m : Nat)) := by
      rcases (show t < 1 ∨ 1 ≤ t by omega) with z | z
      · exact ⟨2, by decide, by rw [show t = 0 by omega]; rfl⟩
      · exact ⟨8, by decide, by rw [show t = 1 by omega]; rfl⟩
    obtain ⟨m, lm, em⟩ := e
    refine ⟨p0, _, t, _, rfl, rfl, SqL.of hp0, em, dk, l, r, m, rfl, by omega, d2, fun x H3 hx lx k3 d3 => ?_⟩
    have kk := ((k1.trans (KeepG.new (o := .lst [.int 2, .int 8]) np0)).trans k2).trans k3
    exact ⟨by show 2 ≤ sizeLine; decide, fun p np => hQ _ (.text x) _ ⟨p, rfl, upd_same⟩ ⟨hx, by omega⟩ (kk.trans (KeepG.new np)) (d3.new np)⟩
  refine itF (by simp [c2]) ?_
  refine ⟨_, rfl, dk, l, r, 3, rfl, by decide, by decide, d1, fun t H2 t0 t1 k2 d2 => ?_⟩
  refine ⟨by show 2 ≤ sizeLine; decide, fun p np => hQ _ (.fresh t.toNat) _ ⟨p, rfl, ?_⟩ (show t.toNat ≤ 2 by omega) ((k1.trans k2).trans (KeepG.new np)) (d2.new np)⟩
  have e : ((t.toNat : Nat) : Int) = t := Int.toNat_of_nonneg t0
  rw [upd_same]
  show some (HO.tup [.str "fresh", .int t]) = some (HO.tup [.str "fresh", .int ((t.toNat : Nat) : Int)])
  rw [e]
theorem sc__law_line : FnScope ["_law_deck_here", "_law_names_here", "_law_kind"] ["_law_deck_here", "_law_names_here"] (defScope (top 71)) := ⟨rfl, rfl, rfl, by decide +kernel, rfl, by decide +kernel, by decide +kernel⟩
theorem ok_line (T : Tx w K mg) : Ok1 P w K mg base CX0 5 "_law_line" ["_law_deck_here", "_law_names_here"] spLin := by
  have sc := sc__law_line
  have F__law_draw := ok_draw (P := P) (base := base) T
  have F__law_source := ok_source (P := P) (base := base) T
  refine ok1_of T.glo (T.def_ 56) sc (fun vs H Q E h => ?_) (fun _ _ _ _ _ _ us hl => match us, hl with | [_, _], _ => rfl) (fun cdv A outer s H vs Q E hr h => ?_)
  · obtain ⟨dk, l, r, nl, ns, rfl, _⟩ := h
    rfl
  have hr__law_draw := hr.mono (show 1 ≤ 4 by decide)
  have hr__law_source := hr
  refine ⟨_, PSs.nox (pss_cons (ps_set (i := 2) sc.nd rfl (by first | exact Or.inl rfl | exact Or.inr rfl) (pe_f F__law_draw hr__law_draw pass0 (pa_cons (pv 0) (pa_cons pe_int pa_nil))))
    (pss_cons (ps_if (pt_cmpR op_lt (pv 2) pe_int (nomark _)) (pss_one (ps_ret (pe_tup (pa_cons (pe_ix ix_list (pe_lst (pa_cons pe_str (pa_cons pe_str pa_nil))) (pv 2) (fun _ _ => rfl)) pa_nil)))) pss_nil)
    (pss_one (ps_ret (pe_f F__law_source hr__law_source pass0 (pa_cons (pv 0) (pa_cons (pv 1) pa_nil))))))), ?_⟩
  obtain ⟨dk, l, r, nl, ns, rfl, hd, hn, nne, lns, nnl, hQ⟩ := h
  refine ⟨_, rfl, dk, l, r, 4, rfl, by decide, by decide, hd, fun v H1 v0 v1 k1 d1 => ?_⟩
  refine ⟨_, rfl, _, _, rfl, rfl, _, rfl, ?_⟩
  by_cases c1 : v < 2
  · refine itT (decide_eq_true c1) ?_
    refine ⟨by show 2 ≤ sizeLine; decide, fun p0 np0 => ?_⟩
    have k2 := k1.trans (KeepG.new (o := .lst [.str "keep", .str "clear"]) np0)
    have d2 := d1.new (o := .lst [.str "keep", .str "clear"]) np0
    rcases (show v < 1 ∨ 1 ≤ v by omega) with z | z
    · refine ⟨_, rfl, p0, _, v, .str "keep", rfl, rfl, SqL.of upd_same, by rw [show v = 0 by omega]; rfl, by show 1 ≤ sizeLine; decide, fun p np => ?_⟩
      exact hQ _ .keep _ ⟨p, rfl, upd_same⟩ trivial (k2.trans (KeepG.new np)) (d2.new np)
    · refine ⟨_, rfl, p0, _, v, .str "clear", rfl, rfl, SqL.of upd_same, by rw [show v = 1 by omega]; rfl, by show 1 ≤ sizeLine; decide, fun p np => ?_⟩
      exact hQ _ .clear _ ⟨p, rfl, upd_same⟩ trivial (k2.trans (KeepG.new np)) (d2.new np)
  · refine itF (decide_eq_false c1) ?_
    refine ⟨_, rfl, _, rfl, dk, l, r, nl, ns, rfl, d1, k1.lst hn nnl, nne, lns, nnl, fun v s H2 hs ok k2 d2 => hQ v s H2 hs ?_ (k1.trans k2) d2⟩
    cases s with
    | keep => trivial
    | clear => trivial
    | value n => exact ok
    | text t => exact ok
    | fresh k => exact ok
end
end L2.Ta

set_option maxHeartbeats 4000000
/-! the law's conditions -/
namespace L2.Ta
open PySem PySem.Spec PyProof.Rows L2 TL
def spPart : Nat → Sp
  | 0 => fun _ _ _ _ => False
  | d + 1 => fun vs H Q _ => ∃ (dk l : Addr) (r : Nat) (nl rl : Addr) (ns rs : List Str), vs = [.ref dk, .ref nl, .ref rl, .int ((d + 1 : Nat) : Int)] ∧ Dk dk l r H ∧ r ≤ 19 ∧ H nl = some (.lst (ns.map V.str)) ∧ ns ≠ [] ∧ ns.length ≤ 100 ∧ nl ≠ dk ∧
  H rl = some (.lst (rs.map V.str)) ∧ rs.length ≤ 100 ∧ rl ≠ dk ∧ ∀ v c r' H', CondAt H' c v → CondOk ns rs (d + 1) c → c.size + r' ≤ r + 1 → KeepD dk H H' → Dk dk l r' H' → Q v H'
theorem Dk.get {dk l : Addr} {r : Nat} {H : Hp} (h : Dk dk l r H) : ∃ x0 x1 x2 x3, H dk = some (.lst [x0, x1, x2, x3, .int (r : Nat)]) := by
  obtain ⟨a, c, b, cells, h1, _⟩ := h
  exact ⟨_, _, _, _, h1⟩
theorem Dk.put {dk l : Addr} {r : Nat} {H : Hp} {x0 x1 x2 x3 : V} (h : Dk dk l r H) (e : H dk = some (.lst [x0, x1, x2, x3, .int (r : Nat)])) (r' : Nat) (z : Int) (ez : z = (r' : Nat)) : Dk dk l r' (upd H dk (.lst ([x0, x1, x2, x3, .int (r : Nat)].set 4 (.int z)))) ∧ KeepD dk H (upd H dk (.lst ([x0, x1, x2, x3, .int (r : Nat)].set 4 (.int z)))) := by
  obtain ⟨a, c, b, cells, h1, h2, h3, h4⟩ := h
  rw [h1] at e
  cases e
  subst ez
  exact ⟨⟨a, c, b, cells, upd_same, by rw [upd_ne h4]; exact h2, h3, h4⟩, KeepD.set h1⟩
theorem leaf_size {c : Cond} (h : c.word = "matches" ∨ c.word = "empty" ∨ c.word = "never") : c.size = 1 := by
  cases c with
  | not c => exfalso; revert h; simp only [Cond.word]; decide +kernel
  | many b ps => exfalso; revert h; cases b <;> (simp only [Cond.word, bw]; decide +kernel)
  | _ => rfl
theorem sizeL_append : ∀ (a b : List Cond), sizeL (a ++ b) = sizeL a + sizeL b
  | [], b => by simp [sizeL]
  | c :: r, b => by
    rw [List.cons_append, sizeL, sizeL, sizeL_append r b]
    omega
theorem size_pos (c : Cond) : 1 ≤ c.size := by
  cases c <;> simp [Cond.size]
theorem len_sizeL : ∀ xs : List Cond, xs.length ≤ sizeL xs
  | [] => Nat.le_refl _
  | c :: r => by
    have z := size_pos c
    have z2 := len_sizeL r
    rw [sizeL, List.length_cons]
    omega
section
variable {P : Program} {w : World} {K : PySem.W.Frag} {mg : Str → Option Value} {base : Heap}
theorem sc__law_part : FnScope ["_law_deck_here", "_law_names_here", "_law_registers", "_law_depth", "_law_kind", "_law_count", "_law_parts_here", "_law_k"] ["_law_deck_here", "_law_names_here", "_law_registers", "_law_depth"] (defScope (top 68)) := ⟨rfl, rfl, rfl, by decide +kernel, rfl, by decide +kernel, by decide +kernel⟩
theorem partS (T : Tx w K mg) (d : Nat) (ih : Ok1 P w K mg base CX0 (5 + d) "_law_part" ["_law_deck_here", "_law_names_here", "_law_registers", "_law_depth"] (spPart d)) : Ok1 P w K mg base CX0 (5 + d + 1) "_law_part" ["_law_deck_here", "_law_names_here", "_law_registers", "_law_depth"] (spPart (d + 1)) := by
  have sc := sc__law_part
  have F__law_draw := ok_draw (P := P) (base := base) T
  have F__law_pattern := ok_pattern (P := P) (base := base) T
  have F__law_part := ih
  refine ok1_of T.glo (T.def_ 53) sc (fun vs H Q E h => ?_) (fun _ _ _ _ _ _ us hl => match us, hl with | [_, _, _, _], _ => rfl) (fun cdv A outer s H vs Q E hr h => ?_)
  · obtain ⟨dk, l, r, nl, rl, ns, rs, rfl, _⟩ := h
    rfl
  have hr__law_draw := hr.mono (show 1 ≤ 5 + d by omega)
  have hr__law_pattern := hr.mono (show 3 ≤ 5 + d by omega)
  have hr__law_part := hr
  refine ⟨_, PSs.nox (pss_cons (ps_set (i := 4) sc.nd rfl (by first | exact Or.inl rfl | exact Or.inr rfl) (pe_f F__law_draw hr__law_draw pass0 (pa_cons (pv 0) (pa_cons pe_int pa_nil))))
    (pss_cons (ps_if (PW.pt (pw_and (pt_cmpR op_lt (pv 4) pe_int (nomark _)) (pw_and1 (pt_cmpR op_gt (pv 3) pe_int (nomark _))))) (pss_cons (ps_set (i := 5) sc.nd rfl (by first | exact Or.inl rfl | exact Or.inr rfl) (pe_f F__law_draw hr__law_draw pass0 (pa_cons (pv 0) (pa_cons pe_int pa_nil))))
    (pss_cons (ps_if (pt_cmpR op_eq (pe_f F__law_draw hr__law_draw pass0 (pa_cons (pv 0) (pa_cons pe_int pa_nil))) pe_int (nomark _)) (pss_one (ps_set (i := 5) sc.nd rfl (by first | exact Or.inl rfl | exact Or.inr rfl) (pe_op op_add pe_int (pe_f F__law_draw hr__law_draw pass0 (pa_cons (pv 0) (pa_cons pe_int pa_nil)))))) pss_nil)
    (pss_cons (ps_set (i := 5) sc.nd rfl (by first | exact Or.inl rfl | exact Or.inr rfl) (pe_callB (call_min2 rfl) (by rfl) T.free (by decide +kernel) (pa_cons (pv 5) (pa_cons (pe_ix ix_list (pv 0) pe_int (fun _ _ => rfl)) pa_nil))))
    (pss_cons (ps_asg (pe_op op_sub (pe_ix ix_list (pv 0) pe_int (fun _ _ => rfl)) (pv 5)) (pg_sub (pv 0) pe_int set_list))
    (pss_cons (ps_setLc (i := 6) (own := [("_law_k", 7)]) (g := gName 7) rfl sc.nd rfl rfl (sw_true rfl rfl rfl (by decide +kernel)) (pi_range1 (by rfl) T.free (pa_cons (pv 5) pa_nil)) (blkOk_by (own := [("_law_k", 7)]) (N := ["_law_deck_here", "_law_names_here", "_law_registers", "_law_depth", "_law_kind", "_law_count", "_law_parts_here", "_law_k"]) (sc := defScope (top 68)) (by decide +kernel)) (fun _ _ _ _ _ => pg_name (i := 7) sc.nd rfl (Or.inl rfl)) (fun _ _ _ _ _ => pts_nil) (fun _ _ _ _ _ => (pe_f F__law_part hr__law_part pass0 (pa_cons (pv 0) (pa_cons (pv 1) (pa_cons (pv 2) (pa_cons (pe_op op_sub (pv 3) pe_int) pa_nil)))))))
    (pss_cons (ps_if (PW.pt (pw_and (pt_cmpR op_gt (pv 5) pe_int (nomark _)) (pw_and (pt_cmpR op_gt (pe_ix ix_list (pv 0) pe_int (fun _ _ => rfl)) pe_int (nomark _)) (pw_and (pt_cmpR op_lt (pe_callB call_len_seq (by rfl) T.free PySem.boot_len (pa_cons (pe_ix ix_list (pv 6) pe_int (fun _ _ => rfl)) pa_nil)) pe_int (nomark _)) (pw_and1 (pt_cmpR op_in_seq (pe_ix ix_tup (pe_ix ix_list (pv 6) pe_int (fun _ _ => rfl)) pe_int (fun _ _ => rfl)) (pe_lst (pa_cons pe_str (pa_cons pe_str (pa_cons pe_str pa_nil)))) (by rfl))))))) (pss_cons (ps_asg (pe_op op_sub (pe_ix ix_list (pv 0) pe_int (fun _ _ => rfl)) pe_int) (pg_sub (pv 0) pe_int set_list))
    (pss_one (ps_expr (pe_bm PySem.F.plainAttrs_list PySem.F.slot_list_append PySem.F.type_list_append mt_append (pv 6) (pa_cons (pe_ix ix_list (pv 6) pe_int (fun _ _ => rfl)) pa_nil))))) pss_nil)
    (pss_one (ps_ret (pe_op op_catT (pe_tup (pa_cons (pe_ix ix_list (pe_lst (pa_cons pe_str (pa_cons pe_str pa_nil))) (pe_f F__law_draw hr__law_draw pass0 (pa_cons (pv 0) (pa_cons pe_int pa_nil))) (fun _ _ => rfl)) pa_nil)) (pe_callTy call_tuple_of (by rfl) T.free (by decide +kernel) (pa_cons (pv 6) pa_nil))))))))))) pss_nil)
    (pss_cons (ps_if (PW.pt (pw_and (pt_cmpR op_eq (pv 4) pe_int (nomark _)) (pw_and (pt_cmpR op_gt (pv 3) pe_int (nomark _)) (pw_and1 (pt_cmpR op_gt (pe_ix ix_list (pv 0) pe_int (fun _ _ => rfl)) pe_int (nomark _)))))) (pss_cons (ps_asg (pe_op op_sub (pe_ix ix_list (pv 0) pe_int (fun _ _ => rfl)) pe_int) (pg_sub (pv 0) pe_int set_list))
    (pss_one (ps_ret (pe_tup (pa_cons pe_str (pa_cons (pe_f F__law_part hr__law_part pass0 (pa_cons (pv 0) (pa_cons (pv 1) (pa_cons (pv 2) (pa_cons (pe_op op_sub (pv 3) pe_int) pa_nil))))) pa_nil)))))) pss_nil)
    (pss_cons (ps_if (pt_cmpR op_lt (pv 4) pe_int (nomark _)) (pss_one (ps_ret (pe_tup (pa_cons pe_str (pa_cons (pe_ix ix_list (pv 1) (pe_f F__law_draw hr__law_draw pass0 (pa_cons (pv 0) (pa_cons (pe_callB call_len_seq (by rfl) T.free PySem.boot_len (pa_cons (pv 1) pa_nil)) pa_nil))) (fun _ _ => rfl)) (pa_cons (pe_f F__law_pattern hr__law_pattern pass0 (pa_cons (pv 0) pa_nil)) pa_nil)))))) pss_nil)
    (pss_cons (ps_if (pt_cmpR op_eq (pv 4) pe_int (nomark _)) (pss_one (ps_ret (pe_tup (pa_cons pe_str (pa_cons (pe_ix ix_list (pv 1) (pe_f F__law_draw hr__law_draw pass0 (pa_cons (pv 0) (pa_cons (pe_callB call_len_seq (by rfl) T.free PySem.boot_len (pa_cons (pv 1) pa_nil)) pa_nil))) (fun _ _ => rfl)) (pa_cons (pe_ix ix_list (pv 1) (pe_f F__law_draw hr__law_draw pass0 (pa_cons (pv 0) (pa_cons (pe_callB call_len_seq (by rfl) T.free PySem.boot_len (pa_cons (pv 1) pa_nil)) pa_nil))) (fun _ _ => rfl)) pa_nil)))))) pss_nil)
    (pss_cons (ps_if (PW.pt (pw_and (pt_cmpR op_eq (pv 4) pe_int (nomark _)) (pw_and1 (pt_cmpR op_gt (pe_callB call_len_seq (by rfl) T.free PySem.boot_len (pa_cons (pv 2) pa_nil)) pe_int (nomark _))))) (pss_one (ps_ret (pe_tup (pa_cons pe_str (pa_cons (pe_ix ix_list (pv 2) (pe_f F__law_draw hr__law_draw pass0 (pa_cons (pv 0) (pa_cons (pe_callB call_len_seq (by rfl) T.free PySem.boot_len (pa_cons (pv 2) pa_nil)) pa_nil))) (fun _ _ => rfl)) pa_nil))))) pss_nil)
    (pss_one (ps_ret (pe_tup (pa_cons (pe_ix ix_list (pe_lst (pa_cons pe_str (pa_cons pe_str pa_nil))) (pe_f F__law_draw hr__law_draw pass0 (pa_cons (pv 0) (pa_cons pe_int pa_nil))) (fun _ _ => rfl)) pa_nil)))))))))), ?_⟩
  obtain ⟨dk, l, r, nl, rl, ns, rs, rfl, hd, lr, hn, nne, lns, nnl, hrl, lrs, nrl, hQ⟩ := h
  refine ⟨_, rfl, dk, l, r, 9, rfl, by decide, by decide, hd, fun v H1 v0 v1 k1 d1 => ?_⟩
  have hn1 := k1.lst hn nnl
  have hrl1 := k1.lst hrl nrl
  have leaf : ∀ (c : Cond), c.size = 1 → CondOk ns rs (d + 1) c → ∀ H2 xs p, KeepD dk H1 H2 → Dk dk l r H2 → H2 p = none → (CondAt (upd H2 p (.tup xs)) c (.ref p)) → Q (.ref p) (upd H2 p (.tup xs)) := fun c hs hc H2 xs p k2 d2 np ha =>
    hQ _ c r _ ha hc (by omega) ((k1.trans k2).trans (KeepG.new np)) (d2.new np)
  dsimp only [gName]
  show tSeq (tIfS _ _ _) _ _ [some (.ref dk), some (.ref nl), some (.ref rl), some (.int ((d + 1 : Nat) : Int)), some (.int v), none, none, none] H1
  refine seq_ex (fun σ H2 => σ = [some (.ref dk), some (.ref nl), some (.ref rl), some (.int ((d + 1 : Nat) : Int)), some (.int v), none, none, none] ∧ H2 = H1) (fun σ H2 ⟨es, eH⟩ => ?_) (fun ext => ?_)
  · subst es eH
    refine seq_ex (fun σ H3 => σ = [some (.ref dk), some (.ref nl), some (.ref rl), some (.int ((d + 1 : Nat) : Int)), some (.int v), none, none, none] ∧ H3 = H2) (fun σ H3 ⟨es, eH⟩ => ?_) (fun ext2 => ?_)
    · subst es eH
      refine ⟨_, rfl, _, _, rfl, rfl, _, rfl, ?_⟩
      by_cases c6 : v < 6
      · refine itT (decide_eq_true c6) ?_
        refine rd_pick rfl rfl hn1 (by simpa using nne) (by rw [List.length_map]; omega) nnl d1 fun u H4 hu k4 d4 => ?_
        obtain ⟨x, hx, rfl⟩ := List.mem_map.mp hu
        refine ⟨_, rfl, dk, l, r, rfl, d4, fun y H5 hy k5 d5 => ⟨by show 3 ≤ sizeLine; decide, fun p np => ?_⟩⟩
        exact leaf (.mat x y) rfl (by rw [CondOk]; exact ⟨hx, hy⟩) H5 _ p (k4.trans k5) d5 np (by rw [CondAt]; exact ⟨p, rfl, upd_same⟩)
      refine itF (decide_eq_false c6) ⟨_, rfl, rfl, _, rfl, ?_⟩
      by_cases c7 : v = 6
      · refine itT (by simp [c7]) ?_
        refine rd_pick rfl rfl hn1 (by simpa using nne) (by rw [List.length_map]; omega) nnl d1 fun u H4 hu k4 d4 => ?_
        obtain ⟨x, hx, rfl⟩ := List.mem_map.mp hu
        refine rd_pick rfl rfl (k4.lst hn1 nnl) (by simpa using nne) (by rw [List.length_map]; omega) nnl d4 fun u H5 hu k5 d5 => ?_
        obtain ⟨y, hy, rfl⟩ := List.mem_map.mp hu
        refine ⟨by show 3 ≤ sizeLine; decide, fun p np => ?_⟩
        exact leaf (.same x y) rfl (by rw [CondOk]; exact ⟨hx, hy⟩) H5 _ p (k4.trans k5) d5 np (by rw [CondAt]; exact ⟨p, rfl, upd_same⟩)
      refine itF (by simp [c7]) ?_
      dsimp only [tNext]
      refine seq_ex (fun σ H4 => σ = [some (.ref dk), some (.ref nl), some (.ref rl), some (.int ((d + 1 : Nat) : Int)), some (.int v), none, none, none] ∧ H4 = H3) (fun σ H4 ⟨es, eH⟩ => ?_) (fun ext3 => ?_)
      · subst es eH
        refine ⟨by show 2 ≤ sizeLine; decide, fun p0 np0 => ?_⟩
        have k4 : KeepD dk H4 (upd H4 p0 (.lst [.str "always", .str "never"])) := KeepG.new np0
        have d4 := d1.new (o := .lst [.str "always", .str "never"]) np0
        refine ⟨_, rfl, dk, l, r, 2, rfl, by decide, by decide, d4, fun t H5 t0 t1 k5 d5 => ?_⟩
        have hp5 := k5.lst upd_same (d1.ne np0).1
        rcases (show t < 1 ∨ 1 ≤ t by omega) with z | z
        · refine ⟨p0, _, t, .str "always", rfl, rfl, SqL.of hp5, by rw [show t = 0 by omega]; rfl, by show 1 ≤ sizeLine; decide, fun p np => ?_⟩
          exact leaf .always rfl (by rw [CondOk]; trivial) H5 _ p (k4.trans k5) d5 np (by rw [CondAt]; exact ⟨p, rfl, upd_same⟩)
        · refine ⟨p0, _, t, .str "never", rfl, rfl, SqL.of hp5, by rw [show t = 1 by omega]; rfl, by show 1 ≤ sizeLine; decide, fun p np => ?_⟩
          exact leaf .never rfl (by rw [CondOk]; trivial) H5 _ p (k4.trans k5) d5 np (by rw [CondAt]; exact ⟨p, rfl, upd_same⟩)
      · refine ⟨_, rfl, rfl, _, rfl, ?_⟩
        by_cases c8 : v = 7
        rotate_left
        · refine itF (by simp [c8]) ?_
          exact ext3 _ _ ⟨rfl, rfl⟩
        refine itT (by simp [c8]) ⟨_, rfl, rl, _, rfl, .inl (SqL.of hrl1), _, _, rfl, rfl, _, rfl, ?_⟩
        rw [List.length_map]
        by_cases c9 : rs = []
        · refine itF (by rw [c9]; decide) ?_
          exact ext3 _ _ ⟨rfl, rfl⟩
        refine itT (decide_eq_true (by have := List.length_pos_iff.mpr c9; omega)) ?_
        refine rd_pick rfl rfl hrl1 (by simpa using c9) (by rw [List.length_map]; omega) nrl d1 fun u H4 hu k4 d4 => ?_
        obtain ⟨x, hx, rfl⟩ := List.mem_map.mp hu
        refine ⟨by show 2 ≤ sizeLine; decide, fun p np => ?_⟩
        exact leaf (.empty x) rfl (by rw [CondOk]; exact hx) H4 _ p k4 d4 np (by rw [CondAt]; exact ⟨p, rfl, upd_same⟩)
    · -- not
      refine ⟨_, rfl, rfl, _, rfl, ?_⟩
      by_cases c3 : v = 3
      rotate_left
      · refine itF (by simp [c3]) ?_
        exact ext2 _ _ ⟨rfl, rfl⟩
      refine itT (by simp [c3]) ⟨_, rfl, _, _, rfl, rfl, _, rfl, ?_⟩
      obtain ⟨x0, x1, x2, x3, hdk⟩ := d1.get
      cases d with
      | zero =>
        refine itF (by decide) ?_
        exact ext2 _ _ ⟨rfl, rfl⟩
      | succ d =>
        refine itT (decide_eq_true (by omega)) ?_
        refine ⟨_, rfl, dk, _, 4, _, rfl, rfl, SqL.of hdk, at5.2.2.2.2, _, _, rfl, rfl, _, rfl, ?_⟩
        by_cases cr : 0 < r
        rotate_left
        · refine itF (decide_eq_false (by omega)) ?_
          exact ext2 _ _ ⟨rfl, rfl⟩
        refine itT (decide_eq_true (by omega)) ?_
        obtain ⟨d2, k2⟩ := d1.put hdk (r - 1) ((r : Int) - 1) (by omega)
        refine ⟨_, rfl, dk, _, 4, _, rfl, rfl, SqL.of hdk, at5.2.2.2.2, _, _, rfl, rfl, _, rfl, dk, _, 4, 4, rfl, rfl, hdk, rfl, ?_⟩
        refine ⟨_, rfl, _, rfl, _, rfl, _, rfl, _, _, rfl, rfl, dk, l, r - 1, nl, rl, ns, rs, ?_, d2, by omega, k2.lst hn1 nnl, nne, lns, nnl, k2.lst hrl1 nrl, lrs, nrl, fun u c r' H4 hc ok hs k4 d4 => ⟨by show 2 ≤ sizeLine; decide, fun p np => ?_⟩⟩
        · have e : ((d + 1 + 1 : Nat) : Int) - 1 = ((d + 1 : Nat) : Int) := by omega
          show [V.ref dk, V.ref nl, V.ref rl, V.int (((d + 1 + 1 : Nat) : Int) - 1)] = _
          rw [e]
        · refine hQ _ (.not c) r' _ ?_ (by rw [CondOk]; exact ok) (by rw [Cond.size]; omega) (((k1.trans k2).trans k4).trans (KeepG.new np)) (d4.new np)
          rw [CondAt]
          exact ⟨u, ⟨p, rfl, upd_same⟩, hc.keep (TupK.new np)⟩
  · refine ⟨_, rfl, _, _, rfl, rfl, _, rfl, ?_⟩
    by_cases c3 : v < 3
    rotate_left
    · refine itF (decide_eq_false c3) ?_
      exact ext _ _ ⟨rfl, rfl⟩
    refine itT (decide_eq_true c3) ⟨_, rfl, _, _, rfl, rfl, _, rfl, ?_⟩
    cases d with
    | zero =>
      refine itF (by decide) ?_
      exact ext _ _ ⟨rfl, rfl⟩
    | succ d =>
      refine itT (decide_eq_true (by omega)) ?_
      refine ⟨_, rfl, dk, l, r, 4, rfl, by decide, by decide, d1, fun n H2 n0 n1 k2 d2 => ?_⟩
      dsimp only [gName]
      refine seq_ex (fun σ H3 => ∃ n : Int, 0 ≤ n ∧ n ≤ 19 ∧ σ = [some (.ref dk), some (.ref nl), some (.ref rl), some (.int ((d + 1 + 1 : Nat) : Int)), some (.int v), some (.int n), none, none] ∧ KeepD dk H1 H3 ∧ Dk dk l r H3) (fun σ H3 ⟨n, n0, n1, es, k3, d3⟩ => ?_) (fun ext1 => ?_)
      rotate_left
      · refine ⟨_, rfl, dk, l, r, 12, rfl, by decide, by decide, d2, fun t H3 t0 t1 k3 d3 => ⟨rfl, _, rfl, ?_⟩⟩
        by_cases ct : t = 0
        · refine itT (by simp [ct]) ?_
          refine ⟨_, rfl, dk, l, r, 15, rfl, by decide, by decide, d3, fun s H4 s0 s1 k4 d4 => ⟨_, _, rfl, rfl, ?_⟩⟩
          exact ext1 _ _ ⟨5 + s, by omega, by omega, rfl, (k2.trans k3).trans k4, d4⟩
        · refine itF (by simp [ct]) ?_
          exact ext1 _ _ ⟨n, n0, by omega, rfl, k2.trans k3, d3⟩
      subst es
      obtain ⟨x0, x1, x2, x3, hdk⟩ := d3.get
      refine ⟨_, rfl, _, rfl, dk, _, 4, _, rfl, rfl, SqL.of hdk, at5.2.2.2.2, n, _, rfl, ?_⟩
      have hm : 0 ≤ (if (r : Int) < n then (r : Int) else n) ∧ (if (r : Int) < n then (r : Int) else n) ≤ r := by split <;> omega
      generalize (if (r : Int) < n then (r : Int) else n) = m at hm
      obtain ⟨d4, k4⟩ := d3.put hdk (r - m.toNat) ((r : Int) - m) (by omega)
      refine ⟨_, rfl, dk, _, 4, _, rfl, rfl, SqL.of hdk, at5.2.2.2.2, _, rfl, _, _, rfl, rfl, _, rfl, dk, _, 4, 4, rfl, rfl, hdk, rfl, ?_⟩
      have kA := k3.trans k4
      have hD4 : upd H3 dk (.lst ([x0, x1, x2, x3, .int (r : Nat)].set 4 (.int ((r : Int) - m)))) = upd H3 dk (.lst ([x0, x1, x2, x3, .int (r : Nat)].set 4 (.int ((r : Int) - m)))) := rfl
      dsimp only [tSeq, tAsg]
      show tLc (iRng1 (tCons (tVar 5) tNil)) (gName 7) tYes _ [7] [some (.ref dk), some (.ref nl), some (.ref rl), some (.int ((d + 1 + 1 : Nat) : Int)), some (.int v), some (.int m), none, none] (upd H3 dk (.lst ([x0, x1, x2, x3, .int (r : Nat)].set 4 (.int ((r : Int) - m))))) _
      generalize upd H3 dk (.lst ([x0, x1, x2, x3, .int (r : Nat)].set 4 (.int ((r : Int) - m)))) = H4 at d4 k4 kA
      refine ⟨_, rfl, m, rfl, by omega, by omega, fun D hD => ?_⟩
      have nD := d4.ne hD
      refine gl_lc (α := Cond) (S := fun b => b = dk) (walk_range (lo := 0) (n := m.toNat)) (X := fun _ _ => True) (R := fun c u H' => CondAt H' c u) (fun done H' => ∃ r2 : Nat, Dk dk l r2 H' ∧ r2 ≤ 19 ∧ sizeL done + r2 ≤ (r - m.toNat) + done.length ∧ ∀ c ∈ done, CondOk ns rs (d + 1) c) (fun _ _ _ _ y => ⟨y.1, trivial⟩) (fun _ _ _ _ t z => z.keep t) (by omega) hD nD.1 (fun _ _ => trivial) (fun _ => rfl)
        ⟨r - m.toNat, d4.new hD, by omega, by simp [sizeL], fun _ z => (nomatch z)⟩ (fun done H' ys ⟨r2, a1, a2, a3, a4⟩ => ⟨r2, a1.set nD.1 nD.2, a2, a3, a4⟩) (fun done x H5 Q1 _ _ k5 ⟨r2, a1, a2, a3, a4⟩ q => ?_) (fun xs us H5 k5 ⟨r2, a1, a2, a3, a4⟩ hD5 lx hp => ?_)
      · have kB := kA.trans k5
        refine ⟨_, rfl, _, rfl, _, rfl, _, rfl, _, _, rfl, rfl, dk, l, r2, nl, rl, ns, rs, ?_, a1, a2, kB.lst hn1 nnl, nne, lns, nnl, kB.lst hrl1 nrl, lrs, nrl, fun u c r' H6 hc ok hs k6 d6 => q c u H6 k6 hc ⟨r', d6, by have := size_pos c; omega, ?_, fun y hy => ?_⟩⟩
        · have e : ((d + 1 + 1 : Nat) : Int) - 1 = ((d + 1 : Nat) : Int) := by omega
          show [V.ref dk, V.ref nl, V.ref rl, V.int (((d + 1 + 1 : Nat) : Int) - 1)] = _
          rw [e]
        · rw [sizeL_append, sizeL, sizeL, List.length_append]
          simp
          omega
        · rcases List.mem_append.mp hy with z | z
          · exact a4 y z
          · rw [List.mem_singleton] at z
            rw [z]
            exact ok
      have kB := kA.trans k5
      have sz : sizeL xs + r2 ≤ r := by omega
      clear a3 k5
      dsimp only [gName]
      refine seq_ex (fun σ H6 => σ = [some (.ref dk), some (.ref nl), some (.ref rl), some (.int ((d + 1 + 1 : Nat) : Int)), some (.int v), some (.int m), some (.ref D), none] ∧ ∃ (xs : List Cond) (us : List V) (r3 : Nat), KeepD dk H1 H6 ∧ Dk dk l r3 H6 ∧ H6 D = some (.lst us) ∧ Paired (fun c u => CondAt H6 c u) xs us ∧ sizeL xs + r3 ≤ r ∧ ∀ c ∈ xs, CondOk ns rs (d + 1) c)
        (fun σ H6 ⟨es, xs, us, r3, k6, d6, hD6, hp6, sz6, ok6⟩ => ?_) (fun ext3 => ?_)
      · subst es
        clear ext hp a4 hD5 sz a1 a2 lx
        have lxs := len_sizeL xs
        have lus := Paired.length hp6
        refine ⟨by show 2 ≤ sizeLine; decide, fun p0 np0 => ?_⟩
        have n0' := d6.ne np0
        refine ⟨_, rfl, dk, l, r3, 2, rfl, by decide, by decide, d6.new np0, fun t H7 t0 t1 k7 d7 => ?_⟩
        have hp7 := k7.lst upd_same n0'.1
        have k67 : KeepD dk H6 H7 := (KeepG.new (o := .lst [.str "and", .str "or"]) np0).trans k7
        have e : ∃ b : Bool, atI [V.str "and", V.str "or"] t = some (.str (bw b)) := by
          rcases (show t < 1 ∨ 1 ≤ t by omega) with z | z
          · exact ⟨true, by rw [show t = 0 by omega]; rfl⟩
          · exact ⟨false, by rw [show t = 1 by omega]; rfl⟩
        obtain ⟨b, eb⟩ := e
        have hD7 := k67.lst hD6 nD.1
        refine ⟨p0, _, t, _, rfl, rfl, SqL.of hp7, eb, by show 1 ≤ sizeLine; decide, fun p2 np2 => ⟨_, rfl, D, us, rfl, .inl ⟨SqL.of (KeepI.new np2 D _ hD7 rfl), fun p3 np3 => ?_⟩⟩⟩
        have h2 : upd (upd H7 p2 (.tup [.str (bw b)])) p3 (.tup us) p2 = some (.tup [.str (bw b)]) := by rw [upd_ne (ne_of_none upd_same np3)]; exact upd_same
        have kI : KeepI H7 (upd (upd H7 p2 (.tup [.str (bw b)])) p3 (.tup us)) := (KeepI.new np2).trans (KeepI.new np3)
        have kQ := ((k1.trans k6).trans k67).trans kI.g
        have d8 := d7.keep kI
        have hp8 : Paired (CondAt (upd (upd H7 p2 (.tup [.str (bw b)])) p3 (.tup us))) xs us := Paired.keepR (fun _ _ z => CondAt.keep (k67.tup.trans kI.tup) z) hp6
        have okm : CondOk ns rs (d + 1 + 1) (.many b xs) := by rw [CondOk, condsOk_iff]; exact ok6
        have szm : (Cond.many b xs).size + r3 ≤ r + 1 := by rw [Cond.size]; omega
        refine ⟨p2, p3, [.str (bw b)], us, rfl, rfl, SqT.of h2, SqT.of upd_same, by simp, by rw [sizeLine_eq]; simp; omega, fun e0 => ?_, fun ne p4 np4 => ?_⟩
        · subst e0
          refine hQ _ _ r3 _ ?_ okm szm kQ d8
          rw [CondAt]
          exact ⟨[], ⟨p2, rfl, h2⟩, condsAt_of hp8⟩
        · refine hQ _ _ r3 _ ?_ okm szm (kQ.trans (KeepG.new np4)) (d8.new np4)
          rw [CondAt]
          exact ⟨us, ⟨p4, rfl, upd_same⟩, condsAt_of (Paired.keepR (fun _ _ z => CondAt.keep (TupK.new np4) z) hp8)⟩
      · refine ⟨_, rfl, _, _, rfl, rfl, _, rfl, ?_⟩
        have exit : ∀ H7, KeepI H5 H7 → _ := fun H7 k7 => ext3 _ _ ⟨rfl, xs, us, r2, kB.trans k7.g, a1.keep k7, k7 D _ hD5 rfl, Paired.keepR (fun _ _ z => CondAt.keep k7.tup z) hp, sz, a4⟩
        by_cases c1 : 0 < m
        rotate_left
        · refine itF (decide_eq_false (by omega)) ?_
          exact exit _ (KeepI.refl _)
        refine itT (decide_eq_true (by omega)) ?_
        obtain ⟨y0, y1, y2, y3, hdk5⟩ := a1.get
        refine ⟨_, rfl, dk, _, 4, _, rfl, rfl, SqL.of hdk5, at5.2.2.2.2, _, _, rfl, rfl, _, rfl, ?_⟩
        by_cases c2 : 0 < r2
        rotate_left
        · refine itF (decide_eq_false (by omega)) ?_
          exact exit _ (KeepI.refl _)
        refine itT (decide_eq_true (by omega)) ?_
        have hp0 := hp
        cases hp with
        | nil => simp at lx; omega
        | @cons c0 u0 xr ur hc0 hr0 =>
          obtain ⟨p, ws, rfl, hq, _, _⟩ := hc0.tup
          refine ⟨_, rfl, D, _, 0, .ref p, rfl, rfl, SqL.of hD5, at_of (j := 0) rfl rfl, p, _, rfl, .inr (SqT.of hq), _, _, rfl, rfl, _, rfl, ?_⟩
          by_cases c3 : ((V.str c0.word :: ws).length : Int) < 4
          rotate_left
          · refine itF (decide_eq_false c3) ?_
            exact exit _ (KeepI.refl _)
          refine itT (decide_eq_true c3) ?_
          refine ⟨_, rfl, D, _, 0, .ref p, rfl, rfl, SqL.of hD5, at_of (j := 0) rfl rfl, p, _, 0, .str c0.word, rfl, rfl, SqT.of hq, at_of (j := 0) rfl rfl, by show 3 ≤ sizeLine; decide, fun p9 np9 => ?_⟩
          have k9 : KeepI H5 (upd H5 p9 (.lst [.str "matches", .str "empty", .str "never"])) := KeepI.new np9
          refine ⟨p9, _, rfl, .inl (SqL.of upd_same), rfl, rfl, _, rfl, ?_⟩
          by_cases c4 : c0.word = "matches" ∨ c0.word = "empty" ∨ c0.word = "never"
          rotate_left
          · refine itF ?_ (exit _ k9)
            have n1 : ¬ c0.word = "matches" := fun z => c4 (.inl z)
            have n2 : ¬ c0.word = "empty" := fun z => c4 (.inr (.inl z))
            have n3 : ¬ c0.word = "never" := fun z => c4 (.inr (.inr z))
            simp [inV, L2.eqV, Ne.symm n1, Ne.symm n2, Ne.symm n3]
          have s0 := leaf_size c4
          refine itT (by rcases c4 with z | z | z <;> rw [z] <;> decide +kernel) ?_
          have a9 := a1.keep k9
          have hdk9 := k9 dk _ hdk5 rfl
          have hD9 := k9 D _ hD5 rfl
          obtain ⟨d10, k10⟩ := a9.put hdk9 (r2 - 1) ((r2 : Int) - 1) (by omega)
          refine ⟨_, rfl, dk, _, 4, _, rfl, rfl, SqL.of hdk9, at5.2.2.2.2, _, _, rfl, rfl, _, rfl, dk, _, 4, 4, rfl, rfl, hdk9, rfl, ?_⟩
          have hD10 := k10.lst hD9 nD.1
          have lus := Paired.length hp0
          have lxs := len_sizeL (c0 :: xr)
          refine ⟨_, rfl, .inl ⟨rfl, _, SqL.of hD10⟩, _, rfl, D, _, 0, .ref p, rfl, rfl, SqL.of hD10, at_of (j := 0) rfl rfl, D, _, _, rfl, rfl, hD10, by rw [sizeLine_eq]; simp only [List.length_cons] at *; omega, ?_⟩
          have t11 := TupK.lst (o := .lst ((V.ref p :: ur) ++ [V.ref p])) hD10
          have kT := (k9.tup.trans k10.tup).trans t11
          have nH1 : H1 D = none := by
            cases e : H1 D with
            | none => rfl
            | some o =>
              have z := kA.std D o e nD.1
              rw [hD] at z
              cases z
          refine ext3 _ _ ⟨rfl, (c0 :: xr) ++ [c0], (V.ref p :: ur) ++ [V.ref p], r2 - 1, ((kB.trans k9.g).trans k10).mut nH1, d10.set nD.1 nD.2, upd_same, Paired.snoc (hc0.keep kT) (Paired.keepR (fun _ _ z => CondAt.keep kT z) hp0), ?_, fun c hc => ?_⟩
          · rw [sizeL_append, sizeL, sizeL, sizeL, s0]
            rw [sizeL, s0] at sz
            omega
          · rcases List.mem_append.mp hc with z | z
            · exact a4 c z
            · rw [List.mem_singleton] at z
              rw [z]
              exact a4 c0 List.mem_cons_self
theorem ok_part (T : Tx w K mg) : ∀ d : Nat, Ok1 P w K mg base CX0 (5 + d) "_law_part" ["_law_deck_here", "_law_names_here", "_law_registers", "_law_depth"] (spPart d)
  | 0 => by
    have sc := sc__law_part
    refine ok1_of T.glo (T.def_ 53) sc (fun vs H Q E h => h.elim) (fun _ _ _ _ _ _ us hl => match us, hl with | [_, _, _, _], _ => rfl) (fun cdv A outer s H vs Q E hr h => h.elim)
  | d + 1 => partS T d (ok_part T d)
def spCd : Sp := fun vs H Q _ => ∃ (dk l : Addr) (r : Nat) (nl rl : Addr) (ns rs : List Str), vs = [.ref dk, .ref nl, .ref rl, .int 3] ∧ Dk dk l r H ∧ H nl = some (.lst (ns.map V.str)) ∧ ns ≠ [] ∧ ns.length ≤ 100 ∧ nl ≠ dk ∧
  H rl = some (.lst (rs.map V.str)) ∧ rs.length ≤ 100 ∧ rl ≠ dk ∧ ∀ v c r' H', CondAt H' c v → CondOk ns rs 3 c → c.size ≤ 20 → KeepD dk H H' → Dk dk l r' H' → Q v H'
theorem sc__law_condition : FnScope ["_law_deck_here", "_law_names_here", "_law_registers", "_law_depth"] ["_law_deck_here", "_law_names_here", "_law_registers", "_law_depth"] (defScope (top 69)) := ⟨rfl, rfl, rfl, by decide +kernel, rfl, by decide +kernel, by decide +kernel⟩
theorem ok_condition (T : Tx w K mg) : Ok1 P w K mg base CX0 9 "_law_condition" ["_law_deck_here", "_law_names_here", "_law_registers", "_law_depth"] spCd := by
  have sc := sc__law_condition
  have F__law_part := ok_part (P := P) (base := base) T 3
  refine ok1_of T.glo (T.def_ 54) sc (fun vs H Q E h => ?_) (fun _ _ _ _ _ _ us hl => match us, hl with | [_, _, _, _], _ => rfl) (fun cdv A outer s H vs Q E hr h => ?_)
  · obtain ⟨dk, l, r, nl, rl, ns, rs, rfl, _⟩ := h
    rfl
  have hr__law_part := hr
  refine ⟨_, PSs.nox (pss_cons (ps_asg pe_int (pg_sub (pv 0) pe_int set_list))
    (pss_one (ps_ret (pe_f F__law_part hr__law_part pass0 (pa_cons (pv 0) (pa_cons (pv 1) (pa_cons (pv 2) (pa_cons (pv 3) pa_nil)))))))), ?_⟩
  obtain ⟨dk, l, r, nl, rl, ns, rs, rfl, hd, hn, nne, lns, nnl, hrl, lrs, nrl, hQ⟩ := h
  obtain ⟨x0, x1, x2, x3, hdk⟩ := hd.get
  obtain ⟨d1, k1⟩ := hd.put hdk 19 19 rfl
  refine ⟨_, rfl, dk, _, 4, 4, rfl, rfl, hdk, rfl, ?_⟩
  refine ⟨_, rfl, _, rfl, _, rfl, _, rfl, dk, l, 19, nl, rl, ns, rs, rfl, d1, Nat.le_refl _, k1.lst hn nnl, nne, lns, nnl, k1.lst hrl nrl, lrs, nrl, fun v c r' H' hc ok hs k d => hQ v c r' H' hc ok (by omega) (k1.trans k) d⟩
end
end L2.Ta

set_option maxHeartbeats 4000000
/-! the law's rules -/
namespace L2.Ta
open PySem PySem.Spec PyProof.Rows L2 TL
structure Lists (dk sl rl kl : Addr) (us : List V) (sts rs : List Str) (ks : List (List Str)) (H : Hp) : Prop where
  hs : H sl = some (.lst (sts.map V.str))
  hr : H rl = some (.lst (rs.map V.str))
  hk : H kl = some (.lst us)
  hp : Paired (KindAt H) ks us
  ns : sl ≠ dk
  nr : rl ≠ dk
  nk : kl ≠ dk
theorem Lists.keep {dk sl rl kl : Addr} {us : List V} {sts rs : List Str} {ks : List (List Str)} {H H' : Hp} (h : Lists dk sl rl kl us sts rs ks H) (k : KeepD dk H H') : Lists dk sl rl kl us sts rs ks H' :=
  ⟨k.lst h.hs h.ns, k.lst h.hr h.nr, k.lst h.hk h.nk, Paired.keepR (fun _ _ => KindAt.keep k.tup) h.hp, h.ns, h.nr, h.nk⟩
mutual
theorem CondOk.up {ns rs : List Str} : ∀ (d : Nat) (c : Cond), CondOk ns rs d c → CondOk ns rs (d + 1) c
  | 0, c, h => by rw [CondOk] at h; exact h.elim
  | d + 1, .always, _ => by rw [CondOk]; trivial
  | d + 1, .never, _ => by rw [CondOk]; trivial
  | d + 1, .mat n p, h => by rw [CondOk] at h ⊢; exact h
  | d + 1, .same a b, h => by rw [CondOk] at h ⊢; exact h
  | d + 1, .empty n, h => by rw [CondOk] at h ⊢; exact h
  | d + 1, .not c, h => by rw [CondOk] at h ⊢; exact CondOk.up d c h
  | d + 1, .many b ps, h => by rw [CondOk] at h ⊢; exact CondsOk.up d ps h
theorem CondsOk.up {ns rs : List Str} : ∀ (d : Nat) (ps : List Cond), CondsOk ns rs d ps → CondsOk ns rs (d + 1) ps
  | _, [], _ => by rw [CondsOk]; trivial
  | d, c :: r, h => by rw [CondsOk] at h ⊢; exact ⟨CondOk.up d c h.1, CondsOk.up d r h.2⟩
end
theorem valsOf_hd : ∀ {ks : List (List Str)} {k : List Str}, (ks.map hd).Nodup → k ∈ ks → valsOf ks (hd k) = some k.tail
  | a :: r, k, hn, hk => by
    rw [valsOf_cons]
    rw [List.map_cons, List.nodup_cons] at hn
    rcases List.mem_cons.mp hk with e | e
    · rw [e, if_pos rfl]
    · rw [if_neg (fun z => hn.1 (by rw [z]; exact List.mem_map_of_mem e))]
      exact valsOf_hd hn.2 e
def spRl : Sp := fun vs H Q _ => ∃ (dk l : Addr) (r : Nat) (sl rl kl : Addr) (us : List V) (sts rs : List Str) (ks : List (List Str)) (first : Bool), vs = [.ref dk, .ref sl, .ref rl, .ref kl, .bl first] ∧ Dk dk l r H ∧ Lists dk sl rl kl us sts rs ks H ∧
  sts ≠ [] ∧ sts.length ≤ 6 ∧ rs.length ≤ 3 ∧ ks ≠ [] ∧ ks.length ≤ 6 ∧ (∀ k ∈ ks, KindOk rs k) ∧ (ks.map hd).Nodup ∧
  ∀ v R r' H', RuleAt H' R v → RuleOk sts rs ks R → KeepD dk H H' → Dk dk l r' H' → Q v H'
theorem asg_c {v : V} {i : Nat} {u : TS} {D : Ends} {σ : L2.St} {H : Hp} (h : u D (σ.set i (some v)) H) : tSeq (tAsg (tC v) (gName i)) u D σ H := h
section
variable {P : Program} {w : World} {K : PySem.W.Frag} {mg : Str → Option Value} {base : Heap}
theorem sc__law_rule : FnScope ["_law_deck_here", "_law_stations", "_law_registers", "_law_requests", "_law_first", "_law_kind", "_law_names_here", "_law_station", "_law_condition_here", "_law_word_here", "_law_answer", "_law_k", "_law_turn"] ["_law_deck_here", "_law_stations", "_law_registers", "_law_requests", "_law_first"] (defScope (top 72)) := ⟨rfl, rfl, rfl, by decide +kernel, rfl, by decide +kernel, by decide +kernel⟩
theorem ok_rule (T : Tx w K mg) : Ok1 P w K mg base CX0 10 "_law_rule" ["_law_deck_here", "_law_stations", "_law_registers", "_law_requests", "_law_first"] spRl := by
  have sc := sc__law_rule
  have F__law_draw := ok_draw (P := P) (base := base) T
  have F__law_condition := ok_condition (P := P) (base := base) T
  have F__law_letter := ok_letter (P := P) (base := base) T
  have F__law_text := ok_text (P := P) (base := base) T
  have F__law_source := ok_source (P := P) (base := base) T
  have F__law_line := ok_line (P := P) (base := base) T
  refine ok1_of T.glo (T.def_ 57) sc (fun vs H Q E h => ?_) (fun _ _ _ _ _ _ us hl => match us, hl with | [_, _, _, _, _], _ => rfl) (fun cdv A outer s H vs Q E hr h => ?_)
  · obtain ⟨dk, l, r, sl, rl, kl, us, sts, rs, ks, first, rfl, _⟩ := h
    rfl
  have hr__law_draw := hr.mono (show 1 ≤ 9 by omega)
  have hr__law_condition := hr
  have hr__law_letter := hr.mono (show 2 ≤ 9 by omega)
  have hr__law_text := hr.mono (show 3 ≤ 9 by omega)
  have hr__law_source := hr.mono (show 4 ≤ 9 by omega)
  have hr__law_line := hr.mono (show 5 ≤ 9 by omega)
  refine ⟨_, PSs.nox (pss_cons (ps_set (i := 5) sc.nd rfl (by first | exact Or.inl rfl | exact Or.inr rfl) (pe_ix ix_list (pv 3) pe_int (fun _ _ => rfl)))
    (pss_cons (ps_if (pt_not (pt_val (pv 4))) (pss_one (ps_set (i := 5) sc.nd rfl (by first | exact Or.inl rfl | exact Or.inr rfl) (pe_ix ix_list (pv 3) (pe_f F__law_draw hr__law_draw pass0 (pa_cons (pv 0) (pa_cons (pe_callB call_len_seq (by rfl) T.free PySem.boot_len (pa_cons (pv 3) pa_nil)) pa_nil))) (fun _ _ => rfl)))) pss_nil)
    (pss_cons (ps_set (i := 6) sc.nd rfl (by first | exact Or.inl rfl | exact Or.inr rfl) (pe_op op_cat (pe_op op_cat (pv 2) (pe_callTy call_list_of (by rfl) T.free (by decide +kernel) (pa_cons (pe_slice sl_tup (pv 5) (po_some pe_int) po_none) pa_nil))) (pe_lst (pa_cons pe_str pa_nil))))
    (pss_cons (ps_set (i := 7) sc.nd rfl (by first | exact Or.inl rfl | exact Or.inr rfl) pe_non)
    (pss_cons (ps_if (PW.pt (pw_and (pt_cmpR op_ne (pe_ix ix_tup (pv 5) pe_int (fun _ _ => rfl)) pe_str (nomark _)) (pw_and1 (pt_cmpR op_gt (pe_f F__law_draw hr__law_draw pass0 (pa_cons (pv 0) (pa_cons pe_int pa_nil))) pe_int (nomark _))))) (pss_one (ps_set (i := 7) sc.nd rfl (by first | exact Or.inl rfl | exact Or.inr rfl) (pe_ix ix_list (pv 1) (pe_f F__law_draw hr__law_draw pass0 (pa_cons (pv 0) (pa_cons (pe_callB call_len_seq (by rfl) T.free PySem.boot_len (pa_cons (pv 1) pa_nil)) pa_nil))) (fun _ _ => rfl)))) pss_nil)
    (pss_cons (ps_set (i := 8) sc.nd rfl (by first | exact Or.inl rfl | exact Or.inr rfl) (pe_tup (pa_cons pe_str pa_nil)))
    (pss_cons (ps_if (pt_cmpR op_eq (pe_f F__law_draw hr__law_draw pass0 (pa_cons (pv 0) (pa_cons pe_int pa_nil))) pe_int (nomark _)) (pss_one (ps_set (i := 8) sc.nd rfl (by first | exact Or.inl rfl | exact Or.inr rfl) (pe_f F__law_condition hr__law_condition pass0 (pa_cons (pv 0) (pa_cons (pv 6) (pa_cons (pv 2) (pa_cons pe_int pa_nil))))))) pss_nil)
    (pss_cons (ps_set (i := 9) sc.nd rfl (by first | exact Or.inl rfl | exact Or.inr rfl) (pe_op op_add_str (pe_f F__law_letter hr__law_letter pass0 (pa_cons (pv 0) pa_nil)) (pe_f F__law_text hr__law_text pass0 (pa_cons (pv 0) (pa_cons (pe_ix ix_list (pe_lst (pa_cons pe_int (pa_cons pe_int (pa_cons pe_int (pa_cons pe_int pa_nil))))) (pe_f F__law_draw hr__law_draw pass0 (pa_cons (pv 0) (pa_cons pe_int pa_nil))) (fun _ _ => rfl)) pa_nil)))))
    (pss_cons (ps_set (i := 10) sc.nd rfl (by first | exact Or.inl rfl | exact Or.inr rfl) (pe_op op_cat (pe_lst (pa_cons (pv 9) pa_nil)) (pe_lc (own := [("_law_k", 11)]) (g := gName 11) rfl sc.nd (pi_range1 (by rfl) T.free (pa_cons (pe_ix ix_list (pe_lst (pa_cons pe_int (pa_cons pe_int (pa_cons pe_int (pa_cons pe_int (pa_cons pe_int (pa_cons pe_int (pa_cons pe_int pa_nil)))))))) (pe_f F__law_draw hr__law_draw pass0 (pa_cons (pv 0) (pa_cons pe_int pa_nil))) (fun _ _ => rfl)) pa_nil)) (blkOk_by (own := [("_law_k", 11)]) (N := ["_law_deck_here", "_law_stations", "_law_registers", "_law_requests", "_law_first", "_law_kind", "_law_names_here", "_law_station", "_law_condition_here", "_law_word_here", "_law_answer", "_law_k", "_law_turn"]) (sc := defScope (top 72)) (by decide +kernel)) (fun _ _ _ _ _ => pg_name (i := 11) sc.nd rfl (Or.inl rfl)) (fun _ _ _ _ _ => pts_nil) (fun _ _ _ _ _ => (pe_f F__law_source hr__law_source pass0 (pa_cons (pv 0) (pa_cons (pv 6) pa_nil)))))))
    (pss_cons (ps_setLc (i := 12) (own := [("_law_k", 11)]) (g := gName 11) rfl sc.nd rfl rfl (sw_true rfl rfl rfl (by decide +kernel)) (pi_range1 (by rfl) T.free (pa_cons (pe_callB call_len_seq (by rfl) T.free PySem.boot_len (pa_cons (pv 2) pa_nil)) pa_nil)) (blkOk_by (own := [("_law_k", 11)]) (N := ["_law_deck_here", "_law_stations", "_law_registers", "_law_requests", "_law_first", "_law_kind", "_law_names_here", "_law_station", "_law_condition_here", "_law_word_here", "_law_answer", "_law_k", "_law_turn"]) (sc := defScope (top 72)) (by decide +kernel)) (fun _ _ _ _ _ => pg_name (i := 11) sc.nd rfl (Or.inl rfl)) (fun _ _ _ _ _ => pts_nil) (fun _ _ _ _ _ => (pe_f F__law_line hr__law_line pass0 (pa_cons (pv 0) (pa_cons (pv 6) pa_nil)))))
    (pss_one (ps_ret (pe_tup (pa_cons (pv 7) (pa_cons (pe_ix ix_tup (pv 5) pe_int (fun _ _ => rfl)) (pa_cons (pv 8) (pa_cons (pe_callTy call_tuple_of (by rfl) T.free (by decide +kernel) (pa_cons (pv 10) pa_nil)) (pa_cons (pe_callTy call_tuple_of (by rfl) T.free (by decide +kernel) (pa_cons (pv 12) pa_nil)) (pa_cons (pe_ix ix_list (pv 1) (pe_f F__law_draw hr__law_draw pass0 (pa_cons (pv 0) (pa_cons (pe_callB call_len_seq (by rfl) T.free PySem.boot_len (pa_cons (pv 1) pa_nil)) pa_nil))) (fun _ _ => rfl)) pa_nil))))))))))))))))))), ?_⟩
  obtain ⟨dk, l, r, sl, rl, kl, us, sts, rs, ks, first, rfl, hd0, hL, nst, lst, lrs, nks, lks, hks, hnd, hQ⟩ := h
  have lus := Paired.length hL.hp
  obtain ⟨k0, kr, eks⟩ : ∃ a b, ks = a :: b := by
    cases ks with
    | nil => exact (nks rfl).elim
    | cons a b => exact ⟨a, b, rfl⟩
  obtain ⟨u0, ur, eus⟩ : ∃ a b, us = a :: b := by
    cases us with
    | nil => rw [eks] at lus; cases lus
    | cons a b => exact ⟨a, b, rfl⟩
  have hu0 : KindAt H k0 u0 := by
    have z := hL.hp
    rw [eks, eus] at z
    cases z with
    | cons h _ => exact h
  refine ⟨_, rfl, kl, us, 0, u0, rfl, rfl, SqL.of hL.hk, at_of (j := 0) rfl (by rw [eus]; rfl), ?_⟩
  dsimp only [gName]
  refine seq_ex (fun σ H1 => ∃ (v : V) (k : List Str), σ = [some (.ref dk), some (.ref sl), some (.ref rl), some (.ref kl), some (.bl first), some v, none, none, none, none, none, none, none] ∧ KindAt H1 k v ∧ k ∈ ks ∧ KeepD dk H H1 ∧ Dk dk l r H1) (fun σ H1 ⟨v, k, es, hv, mk, k1, d1⟩ => ?_) (fun ext => ?_)
  rotate_left
  · refine ⟨_, rfl, _, rfl, ?_⟩
    cases first with
    | true =>
      refine itF rfl ?_
      exact ext _ _ ⟨u0, k0, rfl, hu0, by rw [eks]; exact List.mem_cons_self, KeepG.refl H, hd0⟩
    | false =>
      refine itT rfl ?_
      refine rd_pick rfl rfl hL.hk (by rw [eus]; simp) (by omega) hL.nk hd0 fun u H2 hu k2 d2 => ?_
      obtain ⟨j, hj⟩ := List.getElem?_of_mem hu
      obtain ⟨y, e1, e2⟩ := Paired.at_ hL.hp j u hj
      exact ext _ _ ⟨u, y, rfl, e2.keep k2.tup, List.mem_of_getElem? e1, k2, d2⟩
  subst es
  have hL1 := hL.keep k1
  have hK := hks k mk
  obtain ⟨p, rfl, hp⟩ := hv
  have lk1 : 1 ≤ (k.map V.str).length := by rw [List.length_map]; exact hK.len.1
  have ek : ∃ a b, k = a :: b := by
    cases k with
    | nil => exact absurd hK.len.1 (by decide)
    | cons a b => exact ⟨a, b, rfl⟩
  have ev : valsOf ks (hd k) = some k.tail := valsOf_hd hnd mk
  have hk0 : atI (k.map V.str) 0 = some (.str (hd k)) := by
    obtain ⟨a, b, rfl⟩ := ek
    exact at_of (j := 0) rfl rfl
  -- the names
  refine ⟨_, rfl, _, rfl, _, rfl, p, _, rfl, SqT.of hp, fun z => ?_, fun p1 np1 => ⟨p1, _, rfl, .inr (SqT.of upd_same), fun p2 np2 => ?_⟩⟩
  · have z1 : HT.sIx (k.map V.str).length 0 (some ((1 : Nat) : Int)) = 0 := z.1
    rw [HT.sIx_nat] at z1
    omega
  rw [show (some (1 : Int)) = some ((1 : Nat) : Int) from rfl, cut_from lk1, ← List.map_drop, List.drop_one] at np2 ⊢
  have kI1 : KeepI H1 (upd (upd H1 p1 (.tup (k.tail.map V.str))) p2 (.lst (k.tail.map V.str))) := (KeepI.new np1).trans (KeepI.new np2)
  refine ⟨rl, p2, _, _, rfl, rfl, kI1 rl _ hL1.hr rfl, upd_same, by simp [sizeLine_eq]; have := hK.len.2; omega, fun p3 np3 => ⟨by show 1 ≤ sizeLine; decide, fun p4 np4 => ?_⟩⟩
  have kI2 := (kI1.trans (KeepI.new (o := .lst (rs.map V.str ++ k.tail.map V.str)) np3)).trans (KeepI.new (o := .lst [.str "self"]) np4)
  have h3 : upd (upd (upd (upd H1 p1 (.tup (k.tail.map V.str))) p2 (.lst (k.tail.map V.str))) p3 (.lst (rs.map V.str ++ k.tail.map V.str))) p4 (.lst [.str "self"]) p3 = some (.lst (rs.map V.str ++ k.tail.map V.str)) := KeepI.new np4 _ _ upd_same rfl
  refine ⟨p3, p4, _, _, rfl, rfl, h3, upd_same, by simp [sizeLine_eq]; have := hK.len.2; omega, fun nl nnl => ?_⟩
  have kI3 := kI2.trans (KeepI.new (o := .lst (rs.map V.str ++ k.tail.map V.str ++ [.str "self"])) nnl)
  have d3 := d1.keep kI3
  have nnd : nl ≠ dk := (d1.keep kI2).ne nnl |>.1
  have hn : upd (upd (upd (upd (upd H1 p1 (.tup (k.tail.map V.str))) p2 (.lst (k.tail.map V.str))) p3 (.lst (rs.map V.str ++ k.tail.map V.str))) p4 (.lst [.str "self"])) nl (.lst (rs.map V.str ++ k.tail.map V.str ++ [.str "self"])) nl = some (.lst ((rs ++ k.tail ++ [("self" : Str)]).map V.str)) := by
    rw [upd_same]
    simp
  generalize upd (upd (upd (upd (upd H1 p1 (.tup (k.tail.map V.str))) p2 (.lst (k.tail.map V.str))) p3 (.lst (rs.map V.str ++ k.tail.map V.str))) p4 (.lst [.str "self"])) nl (.lst (rs.map V.str ++ k.tail.map V.str ++ [.str "self"])) = H3 at kI3 d3 hn
  have lnm : (rs ++ k.tail ++ [("self" : Str)]).length ≤ 100 := by simp; have := hK.len.2; omega
  have nnm : rs ++ k.tail ++ [("self" : Str)] ≠ [] := by simp
  have kA := k1.trans kI3.g
  have hL3 := hL1.keep kI3.g
  have hp3 := kI3.tup p _ hp
  clear kI1 kI2 h3 np1 np2 np3 np4 nnl hL1 hp d1 k1 kI3
  -- the station
  dsimp only [gName]
  refine asg_c ?_
  refine seq_ex (fun σ H4 => ∃ st : Option Str, σ = [some (.ref dk), some (.ref sl), some (.ref rl), some (.ref kl), some (.bl first), some (.ref p), some (.ref nl), some (stV st), none, none, none, none, none] ∧ (∀ x, st = some x → x ∈ sts) ∧ (hd k = "new" → st = none) ∧ KeepD dk H3 H4 ∧ Dk dk l r H4) (fun σ H4 ⟨st, es, hst, hnew, k4, d4⟩ => ?_) (fun ext => ?_)
  rotate_left
  · refine ⟨_, rfl, p, _, 0, _, rfl, rfl, SqT.of hp3, hk0, rfl, _, rfl, ?_⟩
    by_cases cn : hd k = "new"
    · refine itF (by simp [cn]) ?_
      exact ext _ _ ⟨none, rfl, fun x z => (nomatch z), fun _ => rfl, KeepG.refl _, d3⟩
    refine itT (by simp [cn]) ?_
    refine ⟨_, rfl, dk, l, r, 3, rfl, by decide, by decide, d3, fun t H4 t0 t1 k4 d4 => ⟨_, _, rfl, rfl, _, rfl, ?_⟩⟩
    by_cases ct : 0 < t
    · refine itT (decide_eq_true ct) ?_
      refine rd_pick rfl rfl (hL3.keep k4).hs (by simpa using nst) (by rw [List.length_map]; omega) hL.ns d4 fun u H5 hu k5 d5 => ?_
      obtain ⟨x, hx, rfl⟩ := List.mem_map.mp hu
      exact ext _ _ ⟨some x, rfl, fun y e => by cases e; exact hx, fun z => absurd z cn, k4.trans k5, d5⟩
    · refine itF (decide_eq_false ct) ?_
      exact ext _ _ ⟨none, rfl, fun x z => (nomatch z), fun _ => rfl, k4, d4⟩
  subst es
  have kB := kA.trans k4
  have hL4 := hL3.keep k4
  have hn4 := k4.lst hn nnd
  have hp4 := k4.tup p _ hp3
  clear kA k4 hL3 hn hp3 d3
  -- the condition
  refine ⟨by show 1 ≤ sizeLine; decide, fun p5 np5 => ?_⟩
  have k5 : KeepD dk H4 (upd H4 p5 (.tup [.str "always"])) := KeepG.new np5
  have d5 := d4.new (o := .tup [.str "always"]) np5
  have h5 : CondAt (upd H4 p5 (.tup [.str "always"])) .always (.ref p5) := by rw [CondAt]; exact ⟨p5, rfl, upd_same⟩
  generalize upd H4 p5 (.tup [.str "always"]) = H5 at k5 d5 h5
  dsimp only [gName]
  refine seq_ex (fun σ H6 => ∃ (cv : V) (c : Cond) (r' : Nat), σ = [some (.ref dk), some (.ref sl), some (.ref rl), some (.ref kl), some (.bl first), some (.ref p), some (.ref nl), some (stV st), some cv, none, none, none, none] ∧ CondAt H6 c cv ∧ CondOk (rs ++ k.tail ++ [("self" : Str)]) rs 6 c ∧ c.size ≤ 20 ∧ KeepD dk H4 H6 ∧ Dk dk l r' H6)
    (fun σ H6 ⟨cv, c, r', es, hc, okc, szc, k6, d6⟩ => ?_) (fun ext => ?_)
  rotate_left
  · refine ⟨_, rfl, dk, l, r, 2, rfl, by decide, by decide, d5, fun t H6 t0 t1 k6 d6 => ⟨rfl, _, rfl, ?_⟩⟩
    have k46 := k5.trans k6
    by_cases ct : t = 1
    · refine itT (by simp [ct]) ?_
      have hL6 := hL4.keep k46
      refine ⟨_, rfl, _, rfl, _, rfl, dk, l, r, nl, rl, _, rs, rfl, d6, k46.lst hn4 nnd, nnm, lnm, nnd, hL6.hr, by omega, hL.nr, fun v c r' H7 hc ok sz k7 d7 => ?_⟩
      exact ext _ _ ⟨v, c, r', rfl, hc, CondOk.up 5 c (CondOk.up 4 c (CondOk.up 3 c ok)), sz, k46.trans k7, d7⟩
    · refine itF (by simp [ct]) ?_
      exact ext _ _ ⟨_, .always, r, rfl, h5.keep k6.tup, by rw [CondOk]; trivial, by decide, k46, d6⟩
  subst es
  have kC := kB.trans k6
  have hL6 := hL4.keep k6
  have hn6 := k6.lst hn4 nnd
  have hp6 := k6.tup p _ hp4
  clear kB k6 hL4 hn4 hp4 d4 d5 h5 k5 np5
  -- the word
  refine ⟨_, rfl, dk, l, r', rfl, d6, fun c1 H7 hc1 k7 d7 => ⟨_, rfl, ?_⟩⟩
  refine ⟨by show 4 ≤ sizeLine; decide, fun p8 np8 => ?_⟩
  have k8 : KeepD dk H7 (upd H7 p8 (.lst [.int 0, .int 0, .int 2, .int 11])) := KeepG.new np8
  refine ⟨_, rfl, dk, l, r', 4, rfl, by decide, by decide, d7.new np8, fun t H9 t0 t1 k9 d9 => ?_⟩
  have hp8 := k9.lst upd_same (d7.ne np8).1
  have e : ∃ m : Nat, m ≤ 11 ∧ atI [V.int 0, V.int 0, V.int 2, V.int 11] t = some (.int (m : Nat)) := by
    rcases (show t = 0 ∨ t = 1 ∨ t = 2 ∨ t = 3 by omega) with z | z | z | z
    · exact ⟨0, by decide, by rw [z]; rfl⟩
    · exact ⟨0, by decide, by rw [z]; rfl⟩
    · exact ⟨2, by decide, by rw [z]; rfl⟩
    · exact ⟨11, by decide, by rw [z]; rfl⟩
  obtain ⟨m, lm, em⟩ := e
  refine ⟨p8, _, t, _, rfl, rfl, SqL.of hp8, em, dk, l, r', m, rfl, by omega, d9, fun x HA hx lx kA dA => ⟨_, _, rfl, rfl, by rw [sizeLine_eq]; show 1 + x.length ≤ _; omega, ?_⟩⟩
  have wok : isName ((⟨#[c1]⟩ : Str) ++ x) = true := by
    have l1 : ((⟨#[c1]⟩ : Str) ++ x).length = 1 + x.length := by rw [len_append]; rfl
    unfold isName
    rw [letters_append, letters_one, hc1, hx, decide_eq_true (by omega), decide_eq_true (by omega)]
    rfl
  generalize (⟨#[c1]⟩ : Str) ++ x = wd at wok
  have kD := (((k7.trans k8).trans k9).trans kA)
  have kE := kC.trans kD
  have hLA := hL6.keep kD
  have hnA := kD.lst hn6 nnd
  have hpA := kD.tup p _ hp6
  have hcA := hc.keep kD.tup
  clear k7 k8 k9 kA hp8 em d6 d7 d9 hL6 hn6 hp6 hc kC kD np8
  -- the answer
  refine ⟨_, rfl, by show 1 ≤ sizeLine; decide, fun a0 na0 => ?_⟩
  have kB0 : KeepD dk HA (upd HA a0 (.lst [.str wd])) := KeepG.new na0
  have na0d := (dA.ne na0).1
  have hA0 : upd HA a0 (.lst [.str wd]) a0 = some (.lst [.str wd]) := upd_same
  have dB0 := dA.new (o := .lst [.str wd]) na0
  generalize upd HA a0 (.lst [.str wd]) = HB at kB0 hA0 dB0
  refine ⟨by show 7 ≤ sizeLine; decide, fun p9 np9 => ?_⟩
  have kB1 : KeepD dk HB (upd HB p9 (.lst [.int 0, .int 1, .int 1, .int 2, .int 2, .int 3, .int 4])) := KeepG.new np9
  refine ⟨_, rfl, dk, l, r', 7, rfl, by decide, by decide, dB0.new np9, fun t HC t0 t1 kB2 dC => ?_⟩
  have hp9 := kB2.lst upd_same (dB0.ne np9).1
  have e : ∃ m : Nat, m ≤ 4 ∧ atI [V.int 0, V.int 1, V.int 1, V.int 2, V.int 2, V.int 3, V.int 4] t = some (.int (m : Nat)) := by
    rcases (show t = 0 ∨ t = 1 ∨ t = 2 ∨ t = 3 ∨ t = 4 ∨ t = 5 ∨ t = 6 by omega) with z | z | z | z | z | z | z
    · exact ⟨0, by decide, by rw [z]; rfl⟩
    · exact ⟨1, by decide, by rw [z]; rfl⟩
    · exact ⟨1, by decide, by rw [z]; rfl⟩
    · exact ⟨2, by decide, by rw [z]; rfl⟩
    · exact ⟨2, by decide, by rw [z]; rfl⟩
    · exact ⟨3, by decide, by rw [z]; rfl⟩
    · exact ⟨4, by decide, by rw [z]; rfl⟩
  obtain ⟨ma, lma, ema⟩ := e
  have kBC := kB1.trans kB2
  have hnC := (kB0.trans kBC).lst hnA nnd
  refine ⟨p9, _, t, _, rfl, rfl, SqL.of hp9, ema, (ma : Int), rfl, by omega, by omega, fun D hD => ?_⟩
  have nD := dC.ne hD
  refine gl_lc (α := Ln) (S := fun b => b = dk) (walk_range (lo := 0) (n := (ma : Int).toNat)) (X := fun _ _ => True) (R := fun s u H' => LnAt H' s u) (fun done H' => Dk dk l r' H' ∧ ∀ s ∈ done, SrcOk (rs ++ k.tail ++ [("self" : Str)]) s) (fun _ _ _ _ y => ⟨y.1, trivial⟩) (fun _ _ _ _ t z => z.keep t) (by omega) hD nD.1 (fun _ _ => trivial) (fun _ => rfl)
    ⟨dC.new hD, fun _ z => (nomatch z)⟩ (fun done H' ys ⟨z1, z2⟩ => ⟨z1.set nD.1 nD.2, z2⟩) (fun done x H5 Q1 _ _ k5 ⟨z1, z2⟩ q => ?_) (fun ss as HD kC3 ⟨dD, oks⟩ hDD lss hps => ?_)
  · refine ⟨_, rfl, _, rfl, dk, l, r', nl, _, rfl, z1, k5.lst hnC nnd, nnm, lnm, nnd, fun v s H6 hs ok k6 d6 => q s v H6 k6 hs ⟨d6, fun y hy => ?_⟩⟩
    rcases List.mem_append.mp hy with z | z
    · exact z2 y z
    · rw [List.mem_singleton] at z
      rw [z]
      exact ok
  have las := Paired.length hps
  have hA1 := (kBC.trans kC3).lst hA0 na0d
  have lss4 : ss.length ≤ 4 := by omega
  refine ⟨a0, D, [.str wd], as, rfl, rfl, hA1, hDD, by rw [sizeLine_eq]; simp; omega, fun a1 na1 => ?_⟩
  have kE1 := ((kB0.trans kBC).trans kC3).trans (KeepG.new (o := .lst ([.str wd] ++ as)) na1)
  have na1d := (dD.ne na1).1
  have hAns : upd HD a1 (.lst ([.str wd] ++ as)) a1 = some (.lst (.str wd :: as)) := upd_same
  have dE := dD.new (o := .lst ([.str wd] ++ as)) na1
  have hpsE : Paired (LnAt (upd HD a1 (.lst ([.str wd] ++ as)))) ss as := Paired.keepR (fun _ _ z => LnAt.keep (TupK.new na1) z) hps
  generalize upd HD a1 (.lst ([.str wd] ++ as)) = HE at kE1 hAns dE hpsE
  have kF := kE.trans kE1
  have hLE := hLA.keep kE1
  have hnE := kE1.lst hnA nnd
  have hpE := kE1.tup p _ hpA
  have hcE := hcA.keep kE1.tup
  clear kE kE1 hLA hnA hpA hcA hps hA1 hDD dD kC3 hD nD hnC kBC ema hp9 dC kB2 kB1 np9 dB0 hA0 kB0 na0 na1 dA
  -- the turn
  dsimp only [gName]
  refine ⟨_, rfl, rl, _, rfl, .inl (SqL.of hLE.hr), _, rfl, by omega, by rw [List.length_map]; omega, fun D2 hD2 => ?_⟩
  have nD2 := dE.ne hD2
  refine gl_lc (α := Ln) (S := fun b => b = dk) (walk_range (lo := 0) (n := ((rs.map V.str).length : Int).toNat)) (X := fun _ _ => True) (R := fun s u H' => LnAt H' s u) (fun done H' => Dk dk l r' H' ∧ ∀ s ∈ done, LineOk (rs ++ k.tail ++ [("self" : Str)]) s) (fun _ _ _ _ y => ⟨y.1, trivial⟩) (fun _ _ _ _ t z => z.keep t) (by rw [List.length_map]; omega) hD2 nD2.1 (fun _ _ => trivial) (fun _ => rfl)
    ⟨dE.new hD2, fun _ z => (nomatch z)⟩ (fun done H' ys ⟨z1, z2⟩ => ⟨z1.set nD2.1 nD2.2, z2⟩) (fun done x H5 Q1 _ _ k5 ⟨z1, z2⟩ q => ?_) (fun ls ts HF kG ⟨dF, okl⟩ hDF lls hpl => ?_)
  · refine ⟨_, rfl, _, rfl, dk, l, r', nl, _, rfl, z1, k5.lst hnE nnd, nnm, lnm, nnd, fun v s H6 hs ok k6 d6 => q s v H6 k6 hs ⟨d6, fun y hy => ?_⟩⟩
    rcases List.mem_append.mp hy with z | z
    · exact z2 y z
    · rw [List.mem_singleton] at z
      rw [z]
      exact ok
  have kH := kF.trans kG
  have hLF := hLE.keep kG
  have hpF := kG.tup p _ hpE
  have hcF := hcE.keep kG.tup
  have hAF := kG.lst hAns na1d
  have hsF : Paired (LnAt HF) ss as := Paired.keepR (fun _ _ z => LnAt.keep kG.tup z) hpsE
  dsimp only [gName]
  refine ⟨_, rfl, _, rfl, p, _, 0, _, rfl, rfl, SqT.of hpF, hk0, _, rfl, _, rfl, a1, _, rfl, .inl ⟨SqL.of hAF, fun aw naw => ?_⟩⟩
  have hDG := KeepI.new (o := .tup (.str wd :: as)) naw D2 _ hDF rfl
  refine ⟨_, rfl, D2, _, rfl, .inl ⟨SqL.of hDG, fun tn ntn => ?_⟩⟩
  have kI := (KeepI.new (o := .tup (.str wd :: as)) naw).trans (KeepI.new (o := .tup ts) ntn)
  refine rd_pick rfl rfl (hLF.keep kI.g).hs (by simpa using nst) (by rw [List.length_map]; omega) hL.ns (dF.keep kI) fun u HG hu kJ dG => ?_
  obtain ⟨nx, hx, rfl⟩ := List.mem_map.mp hu
  refine ⟨by show 6 ≤ sizeLine; decide, fun po npo => ?_⟩
  have tK := (kI.tup.trans kJ.tup).trans (TupK.new (o := .tup [stV st, .str (Ta.hd k), cv, .ref aw, .ref tn, .str nx]) npo)
  have haw := ((KeepI.new ntn).tup.trans kJ.tup).trans (TupK.new (o := .tup [stV st, .str (Ta.hd k), cv, .ref aw, .ref tn, .str nx]) npo) aw _ upd_same
  have htn := (kJ.tup.trans (TupK.new (o := .tup [stV st, .str (Ta.hd k), cv, .ref aw, .ref tn, .str nx]) npo)) tn _ upd_same
  refine hQ _ ⟨st, Ta.hd k, c, wd, ss, ls, nx⟩ r' _ ⟨po, aw, tn, cv, as, ts, rfl, upd_same, hcF.keep tK, haw, Paired.keepR (fun _ _ z => LnAt.keep tK z) hsF, htn, Paired.keepR (fun _ _ z => LnAt.keep tK z) hpl⟩
    ⟨hst, ⟨k.tail, ev, okc, oks, okl⟩, hnew, szc, wok, lss4, ?_, hx⟩ (((kH.trans kI.g).trans kJ).trans (KeepG.new npo)) (dG.new npo)
  rw [List.length_map] at lls
  show ls.length = rs.length
  omega
end
end L2.Ta

set_option maxHeartbeats 4000000
/-! the law's deck and service -/
namespace L2.Ta
open PySem PySem.Spec PyProof.Rows L2 TL
def spDk (K : PySem.W.Frag) : Sp := fun vs H Q _ => ∃ (sl : Addr) (cells : List Int), vs = [.ref sl] ∧ SqL K H sl (cells.map V.int) ∧ ∀ dk l H', KeepI H H' → Dk dk l 19 H' → Q (.ref dk) H'
def spSv : Sp := fun vs H Q _ => ∃ (dk l : Addr) (r : Nat), vs = [.ref dk] ∧ Dk dk l r H ∧ ∀ p l1 l2 l3 l4 us ws S r' H', H' p = some (.tup [.ref l1, .ref l2, .ref l3, .ref l4]) → Parts H' S l1 l2 l3 l4 us ws → SvcOk S → KeepD dk H H' → Dk dk l r' H' → Q (.ref p) H'
section
variable {P : Program} {w : World} {K : PySem.W.Frag} {mg : Str → Option Value} {base : Heap}
theorem sc__law_deck : FnScope ["_law_script", "_law_seed", "_law_cell"] ["_law_script"] (defScope (top 62)) := ⟨rfl, rfl, rfl, by decide +kernel, rfl, by decide +kernel, by decide +kernel⟩
theorem ok_deck (T : Tx w K mg) : Ok1 P w K mg base CX0 1 "_law_deck" ["_law_script"] (spDk K) := by
  have sc := sc__law_deck
  refine ok1_of T.glo (T.def_ 47) sc (fun vs H Q E h => ?_) (fun _ _ _ _ _ _ us hl => match us, hl with | [_], _ => rfl) (fun cdv A outer s H vs Q E hr h => ?_)
  · obtain ⟨sl, cells, rfl, _⟩ := h
    rfl
  refine ⟨_, PSs.nox (pss_cons (ps_set (i := 1) sc.nd rfl (by first | exact Or.inl rfl | exact Or.inr rfl) pe_int)
    (pss_cons (ps_for PassesOwn.never rfl (pi_list (pv 0)) (pg_name (i := 2) sc.nd rfl (by first | exact Or.inl rfl | exact Or.inr rfl)) (pss_one (ps_set (i := 1) sc.nd rfl (by first | exact Or.inl rfl | exact Or.inr rfl) (pe_op op_mod (pe_callTy call_int1 (by rfl) T.free (by decide +kernel) (pa_cons (pe_op op_add (pe_op op_mul (pv 1) pe_int) (pv 2)) pa_nil)) pe_int))))
    (pss_one (ps_ret (pe_lst (pa_cons pe_int (pa_cons pe_int (pa_cons (pv 1) (pa_cons (pe_callTy call_list_of (by rfl) T.free (by decide +kernel) (pa_cons (pv 0) pa_nil)) (pa_cons pe_int pa_nil)))))))))), ?_⟩
  obtain ⟨sl, cells, rfl, hs, hQ⟩ := h
  refine ⟨_, rfl, sl, rfl, ⟨_, hs⟩, ?_⟩
  refine for_list (a := sl) (xs := cells.map V.int) (fun i σ H' => H' = H ∧ ∃ (c : Int) (kv : Option V), σ = [some (.ref sl), some (.int c), kv]) ⟨rfl, 7, none, rfl⟩ (fun i σ H' _ ⟨k, _⟩ => by rw [k]; exact hs) (fun i v σ H' hx ⟨k, c, kv, es⟩ => ?_) (fun σ H' ⟨k, c, kv, es⟩ => ?_)
  · subst es k
    rw [List.getElem?_map, Option.map_eq_some_iff] at hx
    obtain ⟨z, _, rfl⟩ := hx
    exact ⟨_, rfl, _, _, rfl, rfl, .inr ⟨by decide, by decide⟩, _, rfl, _, _, rfl, rfl, .inl ⟨_, rfl, _, _, rfl, rfl, by show (0 : Int) < 2147483647; decide, rfl, _, _, rfl⟩⟩
  · subst es k
    refine ⟨_, rfl, _, rfl, sl, _, rfl, .inl hs, fun l nl => ⟨by show 5 ≤ sizeLine; decide, fun dk ndk => ?_⟩⟩
    refine hQ dk l _ ((KeepI.new nl).trans (KeepI.new ndk)) ⟨0, c, 0, cells, upd_same, ?_, Int.le_refl _, ?_⟩
    · exact KeepI.new ndk l _ upd_same rfl
    · exact ne_of_none upd_same ndk
theorem sc__law_service : FnScope ["_law_deck_here", "_law_stations", "_law_registers", "_law_words", "_law_requests", "_law_word_here", "_law_rules", "_law_k"] ["_law_deck_here"] (defScope (top 73)) := ⟨rfl, rfl, rfl, by decide +kernel, rfl, by decide +kernel, by decide +kernel⟩
theorem ok_service (T : Tx w K mg) : Ok1 P w K mg base CX0 11 "_law_service" ["_law_deck_here"] spSv := by
  have sc := sc__law_service
  have F__law_draw := ok_draw (P := P) (base := base) T
  have F__law_names := ok_names (P := P) (base := base) T
  have F__law_rule := ok_rule (P := P) (base := base) T
  refine ok1_of T.glo (T.def_ 58) sc (fun vs H Q E h => ?_) (fun _ _ _ _ _ _ us hl => match us, hl with | [_], _ => rfl) (fun cdv A outer s H vs Q E hr h => ?_)
  · obtain ⟨dk, l, r, rfl, _⟩ := h
    rfl
  have hr__law_draw := hr.mono (show 1 ≤ 10 by omega)
  have hr__law_names := hr.mono (show 4 ≤ 10 by omega)
  have hr__law_rule := hr
  refine ⟨_, PSs.nox (pss_cons (ps_set (i := 1) sc.nd rfl (by first | exact Or.inl rfl | exact Or.inr rfl) (pe_f F__law_names hr__law_names pass0 (pa_cons (pv 0) (pa_cons (pe_op op_add pe_int (pe_f F__law_draw hr__law_draw pass0 (pa_cons (pv 0) (pa_cons pe_int pa_nil)))) (pa_cons (pe_lst pa_nil) pa_nil)))))
    (pss_cons (ps_set (i := 2) sc.nd rfl (by first | exact Or.inl rfl | exact Or.inr rfl) (pe_f F__law_names hr__law_names pass0 (pa_cons (pv 0) (pa_cons (pe_f F__law_draw hr__law_draw pass0 (pa_cons (pv 0) (pa_cons pe_int pa_nil))) (pa_cons (pe_lst (pa_cons pe_str pa_nil)) pa_nil)))))
    (pss_cons (ps_set (i := 3) sc.nd rfl (by first | exact Or.inl rfl | exact Or.inr rfl) (pe_op op_cat (pe_lst (pa_cons pe_str pa_nil)) (pe_f F__law_names hr__law_names pass0 (pa_cons (pv 0) (pa_cons (pe_f F__law_draw hr__law_draw pass0 (pa_cons (pv 0) (pa_cons pe_int pa_nil))) (pa_cons (pe_lst (pa_cons pe_str pa_nil)) pa_nil))))))
    (pss_cons (ps_set (i := 4) sc.nd rfl (by first | exact Or.inl rfl | exact Or.inr rfl) (pe_lst pa_nil))
    (pss_cons (ps_for PassesOwn.never rfl (pi_list (pv 3)) (pg_name (i := 5) sc.nd rfl (by first | exact Or.inl rfl | exact Or.inr rfl)) (pss_one (ps_expr (pe_bm PySem.F.plainAttrs_list PySem.F.slot_list_append PySem.F.type_list_append mt_append (pv 4) (pa_cons (pe_op op_catT (pe_tup (pa_cons (pv 5) pa_nil)) (pe_callTy call_tuple_of (by rfl) T.free (by decide +kernel) (pa_cons (pe_f F__law_names hr__law_names pass0 (pa_cons (pv 0) (pa_cons (pe_f F__law_draw hr__law_draw pass0 (pa_cons (pv 0) (pa_cons pe_int pa_nil))) (pa_cons (pe_op op_cat (pv 2) (pe_lst (pa_cons pe_str pa_nil))) pa_nil)))) pa_nil))) pa_nil)))))
    (pss_cons (ps_set (i := 6) sc.nd rfl (by first | exact Or.inl rfl | exact Or.inr rfl) (pe_lst pa_nil))
    (pss_cons (ps_for PassesOwn.never rfl (pi_range1 (by rfl) T.free (pa_cons (pe_f F__law_draw hr__law_draw pass0 (pa_cons (pv 0) (pa_cons pe_int pa_nil))) pa_nil)) (pg_name (i := 7) sc.nd rfl (by first | exact Or.inl rfl | exact Or.inr rfl)) (pss_one (ps_expr (pe_bm PySem.F.plainAttrs_list PySem.F.slot_list_append PySem.F.type_list_append mt_append (pv 6) (pa_cons (pe_f F__law_rule hr__law_rule pass0 (pa_cons (pv 0) (pa_cons (pv 1) (pa_cons (pv 2) (pa_cons (pv 4) (pa_cons (pe_cmpR op_eq (pv 7) pe_int (nomark _)) pa_nil)))))) pa_nil)))))
    (pss_one (ps_ret (pe_tup (pa_cons (pv 1) (pa_cons (pv 2) (pa_cons (pv 4) (pa_cons (pv 6) pa_nil)))))))))))))), ?_⟩
  obtain ⟨dk, l, r, rfl, hd0, hQ⟩ := h
  -- the stations
  refine ⟨_, rfl, _, rfl, dk, l, r, 3, rfl, by decide, by decide, hd0, fun v H1 v0 v1 k1 d1 => ?_⟩
  obtain ⟨n1, rfl⟩ : ∃ n : Nat, v = n := ⟨v.toNat, by omega⟩
  refine ⟨_, _, rfl, rfl, by show 0 ≤ sizeLine; decide, fun b1 nb1 => ⟨dk, l, r, n1 + 1, b1, [], ?_, by omega, d1.new nb1, upd_same, by decide, (d1.ne nb1).1, fun sl sts H2 l2 ok2 _ k2 d2 nsl hsl => ?_⟩⟩
  · show [V.ref dk, V.int (1 + (n1 : Int)), V.ref b1] = [V.ref dk, V.int ((n1 + 1 : Nat) : Int), V.ref b1]
    rw [show (1 + (n1 : Int)) = ((n1 + 1 : Nat) : Int) by omega]
  have kA := (k1.trans (KeepG.new nb1)).trans k2
  clear k1 d1 nb1 k2
  -- the registers
  refine ⟨_, rfl, _, rfl, dk, l, r, 4, rfl, by decide, by decide, d2, fun v H3 v0 v1 k3 d3 => ?_⟩
  obtain ⟨n3, rfl⟩ : ∃ n : Nat, v = n := ⟨v.toNat, by omega⟩
  refine ⟨by show 1 ≤ sizeLine; decide, fun b3 nb3 => ⟨dk, l, r, n3, b3, [("self" : Str)], rfl, by omega, d3.new nb3, upd_same, by decide, (d3.ne nb3).1, fun rl rs H4 l4 ok4 nb4 k4 d4 nrl hrl => ?_⟩⟩
  have kB := (k3.trans (KeepG.new nb3)).trans k4
  have hsl4 := kB.lst hsl nsl
  have kA4 := kA.trans kB
  clear k3 d3 nb3 k4 hsl kA kB d2
  -- the words
  refine ⟨by show 1 ≤ sizeLine; decide, fun w0 nw0 => ?_⟩
  have nw0d := (d4.ne nw0).1
  have kC0 : KeepD dk H4 (upd H4 w0 (.lst [.str "new"])) := KeepG.new nw0
  have hw0 : upd H4 w0 (.lst [.str "new"]) w0 = some (.lst [.str "new"]) := upd_same
  refine ⟨_, rfl, _, rfl, dk, l, r, 3, rfl, by decide, by decide, d4.new nw0, fun v H5 v0 v1 k5 d5 => ?_⟩
  obtain ⟨n5, rfl⟩ : ∃ n : Nat, v = n := ⟨v.toNat, by omega⟩
  refine ⟨by show 1 ≤ sizeLine; decide, fun b5 nb5 => ⟨dk, l, r, n5, b5, [("new" : Str)], rfl, by omega, d5.new nb5, upd_same, by decide, (d5.ne nb5).1, fun wl ws H6 l6 ok6 nb6 k6 d6 nwl hwl => ?_⟩⟩
  have kC := (k5.trans (KeepG.new (o := .lst [.str "new"]) nb5)).trans k6
  have hw6 := kC.lst hw0 nw0d
  refine ⟨w0, wl, _, _, rfl, rfl, hw6, hwl, by rw [List.length_map, sizeLine_eq]; simp; omega, fun wq nwq => ?_⟩
  have kD := (kC0.trans kC).trans (KeepG.new (o := .lst ([.str "new"] ++ ws.map V.str)) nwq)
  have hwq : upd H6 wq (.lst ([.str "new"] ++ ws.map V.str)) wq = some (.lst ((("new" : Str) :: ws).map V.str)) := upd_same
  have d7 := d6.new (o := .lst ([.str "new"] ++ ws.map V.str)) nwq
  have nwqd := (d6.ne nwq).1
  have hsl7 := kD.lst hsl4 nsl
  have hrl7 := kD.lst hrl nrl
  have kA7 := kA4.trans kD
  generalize upd H6 wq (.lst ([.str "new"] ++ ws.map V.str)) = H7 at kD hwq d7 hsl7 hrl7 kA7
  have okW : (("new" : Str) :: ws).Nodup := List.nodup_cons.mpr ⟨fun z => nb6 _ z (by simp), ok6.2⟩
  have nmW : ∀ x ∈ ("new" : Str) :: ws, isName x = true := fun x hx => by
    rcases List.mem_cons.mp hx with e | e
    · rw [e]
      decide +kernel
    · exact ok6.1 x e
  have lW : (("new" : Str) :: ws).length ≤ 3 := by rw [List.length_cons]; omega
  clear kC0 hw0 k5 d5 nb5 k6 kC hw6 hwl kD nw0 nw0d nwq d6 hsl4 hrl kA4 d4
  have noself : ("self" : Str) ∉ rs := fun z => nb4 _ z (by simp)
  -- the kinds
  refine ⟨by show 0 ≤ sizeLine; decide, fun kl nkl => ?_⟩
  have nkd := (d7.ne nkl)
  refine ⟨_, rfl, wq, rfl, ⟨_, SqL.of (KeepI.new nkl wq _ hwq rfl)⟩, ?_⟩
  refine for_list (a := wq) (xs := (("new" : Str) :: ws).map V.str) (fun i σ H' => ∃ (kv : Option V) (kd : List (List Str)) (us : List V), σ = [some (.ref dk), some (.ref sl), some (.ref rl), some (.ref wq), some (.ref kl), kv, none, none] ∧ KeepD dk H7 H' ∧ Dk dk l r H' ∧ H' kl = some (.lst us) ∧ Paired (KindAt H') kd us ∧
    kd.map hd = (("new" : Str) :: ws).take i ∧ ∀ k ∈ kd, KindOk rs k) ⟨none, [], [], rfl, KeepG.new nkl, d7.new nkl, upd_same, .nil, rfl, fun _ z => (nomatch z)⟩ (fun i σ H' _ ⟨kv, kd, us, es, k, _⟩ => SqL.of (k.lst hwq nwqd)) (fun i x σ H' hx ⟨kv, kd, us, es, k, d, hkl, hp, ehd, okk⟩ => ?_) (fun σ H' ⟨kv, kd, us, es, k, d, hkl, hp, ehd, okk⟩ => ?_)
  · subst es
    have hi : i < (("new" : Str) :: ws).length := by
      have z := (List.getElem?_eq_some_iff.mp hx).1
      rw [List.length_map] at z
      exact z
    rw [List.getElem?_map, Option.map_eq_some_iff] at hx
    obtain ⟨wd, hwd, rfl⟩ := hx
    have lkd : kd.length = i := by
      have z := congrArg List.length ehd
      rw [List.length_map, List.length_take] at z
      omega
    have lus := Paired.length hp
    refine ⟨_, rfl, .inl ⟨rfl, _, SqL.of hkl⟩, _, rfl, by show 1 ≤ sizeLine; decide, fun p1 np1 => ?_⟩
    have kp1 : KeepD dk H' (upd H' p1 (.tup [.str wd])) := KeepG.new np1
    have hp1 : upd H' p1 (.tup [.str wd]) p1 = some (.tup [.str wd]) := upd_same
    refine ⟨_, rfl, _, rfl, dk, l, r, 4, rfl, by decide, by decide, d.new np1, fun v H8 v0 v1 k8 d8 => ?_⟩
    obtain ⟨n, rfl⟩ : ∃ n : Nat, v = n := ⟨v.toNat, by omega⟩
    have k08 := kp1.trans k8
    have hrl8 := (k.trans k08).lst hrl7 nrl
    refine ⟨_, rfl, by show 1 ≤ sizeLine; decide, fun s0 ns0 => ⟨rl, s0, _, _, rfl, rfl, KeepI.new ns0 rl _ hrl8 rfl, upd_same, by rw [List.length_map, sizeLine_eq]; simp; omega, fun bq nbq => ?_⟩⟩
    have kI9 : KeepI H8 (upd (upd H8 s0 (.lst [.str "self"])) bq (.lst (rs.map V.str ++ [.str "self"]))) := (KeepI.new ns0).trans (KeepI.new nbq)
    refine ⟨dk, l, r, n, bq, rs ++ [("self" : Str)], rfl, by omega, d8.keep kI9, by rw [upd_same, List.map_append]; rfl, by rw [List.length_append]; simp; omega, ((d8.new ns0).ne nbq).1, fun tl ts H9 lt okt nbt k9 d9 ntl htl => ?_⟩
    refine ⟨tl, _, rfl, .inl ⟨SqL.of htl, fun p2 np2 => ?_⟩⟩
    have kE := (k08.trans kI9.g).trans k9
    have kI2 : KeepI H9 (upd H9 p2 (.tup (ts.map V.str))) := KeepI.new np2
    have hp1' := kI2.tup p1 _ ((k8.tup.trans (kI9.tup.trans k9.tup)) p1 _ hp1)
    have okK : KindOk rs (wd :: ts) := by
      refine ⟨?_, fun x hx => ?_, okt.2, fun z => nbt _ z (by simp), fun x hx z => nbt x hx (by simp [z])⟩
      · rw [List.length_cons]
        omega
      · rcases List.mem_cons.mp hx with e | e
        · rw [e]
          exact nmW wd (List.mem_of_getElem? hwd)
        · exact okt.1 x e
    have fin : ∀ (u : V) (HX : Hp), KeepI (upd H9 p2 (.tup (ts.map V.str))) HX → KindAt HX (wd :: ts) u → ∃ l' xs y, V.ref kl = V.ref l' ∧ [u] = [y] ∧ HX l' = some (.lst xs) ∧ xs.length < sizeLine ∧ ∃ (kv : Option V) (kd : List (List Str)) (us : List V), [some (V.ref dk), some (.ref sl), some (.ref rl), some (.ref wq), some (.ref kl), some (V.str wd), none, none] = [some (V.ref dk), some (.ref sl), some (.ref rl), some (.ref wq), some (.ref kl), kv, none, none] ∧ KeepD dk H7 (upd HX l' (.lst (xs ++ [y]))) ∧ Dk dk l r (upd HX l' (.lst (xs ++ [y]))) ∧ upd HX l' (.lst (xs ++ [y])) kl = some (.lst us) ∧ Paired (KindAt (upd HX l' (.lst (xs ++ [y])))) kd us ∧
        kd.map hd = (("new" : Str) :: ws).take (i + 1) ∧ ∀ k ∈ kd, KindOk rs k := fun u HX kX hu => by
      have kF := (kE.trans kI2.g).trans kX.g
      have hklX := kF.lst hkl nkd.1
      have tX : TupK HX (upd HX kl (.lst (us ++ [u]))) := TupK.lst hklX
      refine ⟨kl, us, u, rfl, rfl, hklX, by rw [sizeLine_eq]; omega, _, kd ++ [wd :: ts], us ++ [u], rfl, (k.trans kF).mut nkl, ((d9.keep kI2).keep kX).set nkd.1 nkd.2, upd_same, Paired.snoc (KindAt.keep tX hu) (Paired.keepR (fun _ _ => KindAt.keep (kF.tup.trans tX)) hp), ?_, fun y hy => ?_⟩
      · rw [List.map_append, ehd, List.take_add_one, hwd]
        rfl
      · rcases List.mem_append.mp hy with z | z
        · exact okk y z
        · rw [List.mem_singleton] at z
          rw [z]
          exact okK
    refine ⟨p1, p2, [.str wd], ts.map V.str, rfl, rfl, SqT.of hp1', SqT.of upd_same, by simp, by rw [List.length_map, sizeLine_eq]; simp; omega, fun e0 => ?_, fun ne p4 np4 => ?_⟩
    · have e1 : ts = [] := by simpa using e0
      refine fin (.ref p1) _ (KeepI.refl _) ⟨p1, rfl, ?_⟩
      rw [e1] at hp1' ⊢
      exact hp1'
    · exact fin (.ref p4) _ (KeepI.new np4) ⟨p4, rfl, upd_same⟩
  subst es
  rw [List.length_map, List.take_length] at ehd
  have lks : kd.length ≤ 3 := by
    have z := congrArg List.length ehd
    rw [List.length_map] at z
    omega
  have nks : kd ≠ [] := fun e => by rw [e] at ehd; cases ehd
  have hndk : (kd.map hd).Nodup := by rw [ehd]; exact okW
  have hL : Lists dk sl rl kl us sts rs kd H' := ⟨k.lst hsl7 nsl, k.lst hrl7 nrl, hkl, hp, nsl, nrl, nkd.1⟩
  have kN := kA7.trans k
  clear hkl hp k hwq nkl nkd d7 hsl7 hrl7 kA7
  -- the rules
  refine ⟨by show 0 ≤ sizeLine; decide, fun ru nru => ?_⟩
  have nrd := d.ne nru
  refine ⟨_, rfl, dk, l, r, 6, rfl, by decide, by decide, d.new nru, fun v H8 v0 v1 k8 d8 => ⟨v, rfl, by omega, by omega, ?_⟩⟩
  have k08 : KeepD dk H' H8 := (KeepG.new (o := .lst []) nru).trans k8
  have hru8 := k8.lst (upd_same : upd H' ru (.lst []) ru = some (.lst [])) nrd.1
  refine for_range (lo := 0) (n := v.toNat) (fun i σ H9 => ∃ (kq : Option V) (rd : List Rule) (vs : List V) (r' : Nat), σ = [some (.ref dk), some (.ref sl), some (.ref rl), some (.ref wq), some (.ref kl), kv, some (.ref ru), kq] ∧ KeepD dk H' H9 ∧ Dk dk l r' H9 ∧ H9 ru = some (.lst vs) ∧ Paired (RuleAt H9) rd vs ∧ rd.length = i ∧ ∀ R ∈ rd, RuleOk sts rs kd R)
    ⟨none, [], [], r, rfl, k08, d8, hru8, .nil, rfl, fun _ z => (nomatch z)⟩ (fun i σ H9 hi ⟨kq, rd, vs, r', es, k9, d9, hru, hpr, lrd, okr⟩ => ?_) (fun σ H9 ⟨kq, rd, vs, r', es, k9, d9, hru, hpr, lrd, okr⟩ => ?_)
  · subst es
    have lvs := Paired.length hpr
    refine ⟨_, rfl, .inl ⟨rfl, _, SqL.of hru⟩, _, rfl, _, rfl, _, rfl, _, rfl, _, rfl, rfl, dk, l, r', sl, rl, kl, us, sts, rs, kd, _, rfl, d9, hL.keep k9, ?_, by omega, by omega, nks, by omega, okk, hndk, fun u R r2 HA hR okR kA dA => ?_⟩
    · intro e
      rw [e] at l2
      cases l2
    have hruA := kA.lst hru nrd.1
    have tA : TupK HA (upd HA ru (.lst (vs ++ [u]))) := TupK.lst hruA
    refine ⟨ru, vs, u, rfl, rfl, hruA, by rw [sizeLine_eq]; omega, _, rd ++ [R], vs ++ [u], r2, rfl, (k9.trans kA).mut nru, dA.set nrd.1 nrd.2, upd_same, Paired.snoc (RuleAt.keep tA hR) (Paired.keepR (fun _ _ => RuleAt.keep (kA.tup.trans tA)) hpr), by simp [lrd], fun y hy => ?_⟩
    rcases List.mem_append.mp hy with z | z
    · exact okr y z
    · rw [List.mem_singleton] at z
      rw [z]
      exact okR
  · subst es
    refine ⟨_, rfl, _, rfl, _, rfl, _, rfl, by show 4 ≤ sizeLine; decide, fun p np => ?_⟩
    have hLp := (hL.keep k9).keep (KeepG.new (o := .tup [.ref sl, .ref rl, .ref kl, .ref ru]) np)
    refine hQ p sl rl kl ru us vs ⟨sts, rs, kd, rd⟩ r' _ upd_same ⟨hLp.hs, hLp.hr, hLp.hk, hLp.hp, KeepI.new np ru _ hru rfl, Paired.keepR (fun _ _ => RuleAt.keep (TupK.new np)) hpr⟩ ?_ ((kN.trans k9).trans (KeepG.new np)) (d9.new np)
    refine ⟨⟨by show 1 ≤ sts.length; omega, by show sts.length ≤ 6; omega⟩, ok2, by show rs.length ≤ 3; omega, ok4, noself, ⟨⟨?_, by show kd.length ≤ 6; omega⟩, okk, ?_, hndk⟩, by show rd.length ≤ 40; omega, okr⟩
    · exact List.length_pos_iff.mpr nks
    · show (kd.map hd).head? = some "new"
      rw [ehd]
      rfl
end
end L2.Ta

set_option maxHeartbeats 4000000
/-! the law's writer -/
namespace L2.Ta
open PySem PySem.Spec PyProof.Rows L2 TL
theorem KeepI.fresh {H H1 : Hp} {p : Addr} (k : KeepI H H1) (h : H1 p = none) : H p = none := by
  cases e : H p with
  | none => rfl
  | some o =>
    have z := k p o e rfl
    rw [h] at z
    cases z
def spWC (d : Nat) : Sp := fun vs H Q _ => ∃ (c : Cond) (v : V), vs = [v] ∧ CondAt H c v ∧ c.fits d ∧ Sm c.words ∧ c.words.length ≤ 1000000 ∧ ∀ p H', KeepI H H' → H p = none → H' p = some (.lst (c.words.map V.str)) → Q (.ref p) H'
def spWL : Sp := fun vs H Q _ => ∃ (l : Ln) (v : V), vs = [v] ∧ LnAt H l v ∧ l.line ∧ Sm l.words ∧ ∀ p H', KeepI H H' → H p = none → H' p = some (.lst (l.words.map V.str)) → Q (.ref p) H'
theorem wordsL_take {ps : List Cond} {i : Nat} {c : Cond} (h : ps[i]? = some c) : wordsL (ps.take (i + 1)) = wordsL (ps.take i) ++ c.words := by
  rw [wordsL_eq, wordsL_eq, List.take_add_one, h]
  simp
theorem wordsL_len {ps : List Cond} : ∀ (i : Nat), (wordsL (ps.take i)).length ≤ (wordsL ps).length := fun i => by
  have e : wordsL ps = wordsL (ps.take i) ++ wordsL (ps.drop i) := by
    rw [wordsL_eq, wordsL_eq, wordsL_eq, ← List.flatten_append, ← List.map_append, List.take_append_drop]
  rw [e, List.length_append]
  omega
section
variable {P : Program} {w : World} {K : PySem.W.Frag} {mg : Str → Option Value} {base : Heap}
theorem sc__law_words_of_condition : FnScope ["_law_condition_here", "_law_words", "_law_part_here"] ["_law_condition_here"] (defScope (top 74)) := ⟨rfl, rfl, rfl, by decide +kernel, rfl, by decide +kernel, by decide +kernel⟩
theorem wcS (T : Tx w K mg) (d : Nat) (ih : Ok1 P w K mg base CX0 (1 + d) "_law_words_of_condition" ["_law_condition_here"] (spWC d)) : Ok1 P w K mg base CX0 (1 + d + 1) "_law_words_of_condition" ["_law_condition_here"] (spWC (d + 1)) := by
  have sc := sc__law_words_of_condition
  have F__law_words_of_condition := ih
  refine ok1_of T.glo (T.def_ 59) sc (fun vs H Q E h => ?_) (fun _ _ _ _ _ _ us hl => match us, hl with | [_], _ => rfl) (fun cdv A outer s H vs Q E hr h => ?_)
  · obtain ⟨c, v, rfl, _⟩ := h
    rfl
  have hr__law_words_of_condition := hr
  refine ⟨_, PSs.nox (pss_cons (ps_if (pt_cmpR op_eq (pe_ix ix_tup (pv 0) pe_int (fun _ _ => rfl)) pe_str (nomark _)) (pss_one (ps_ret (pe_lst (pa_cons pe_str (pa_cons (pe_ix ix_tup (pv 0) pe_int (fun _ _ => rfl)) (pa_cons (pe_op op_add_str pe_str (pe_ix ix_tup (pv 0) pe_int (fun _ _ => rfl))) pa_nil)))))) pss_nil)
    (pss_cons (ps_if (PW.pt (pw_or (pt_cmpR op_eq (pe_ix ix_tup (pv 0) pe_int (fun _ _ => rfl)) pe_str (nomark _)) (pw_or1 (pt_cmpR op_eq (pe_ix ix_tup (pv 0) pe_int (fun _ _ => rfl)) pe_str (nomark _))))) (pss_cons (ps_set (i := 1) sc.nd rfl (by first | exact Or.inl rfl | exact Or.inr rfl) (pe_lst (pa_cons (pe_ix ix_tup (pv 0) pe_int (fun _ _ => rfl)) (pa_cons (pe_callTy call_str_int (by rfl) T.free (by decide +kernel) (pa_cons (pe_op op_sub (pe_callB call_len_seq (by rfl) T.free PySem.boot_len (pa_cons (pv 0) pa_nil)) pe_int) pa_nil)) pa_nil))))
    (pss_cons (ps_for PassesOwn.never rfl (pi_tup (pe_slice sl_tup (pv 0) (po_some pe_int) po_none)) (pg_name (i := 2) sc.nd rfl (by first | exact Or.inl rfl | exact Or.inr rfl)) (pss_one (ps_set (i := 1) sc.nd rfl (by first | exact Or.inl rfl | exact Or.inr rfl) (pe_op op_cat (pv 1) (pe_f F__law_words_of_condition hr__law_words_of_condition pass0 (pa_cons (pv 2) pa_nil))))))
    (pss_one (ps_ret (pv 1))))) pss_nil)
    (pss_cons (ps_if (pt_cmpR op_eq (pe_ix ix_tup (pv 0) pe_int (fun _ _ => rfl)) pe_str (nomark _)) (pss_one (ps_ret (pe_op op_cat (pe_lst (pa_cons pe_str pa_nil)) (pe_f F__law_words_of_condition hr__law_words_of_condition pass0 (pa_cons (pe_ix ix_tup (pv 0) pe_int (fun _ _ => rfl)) pa_nil))))) pss_nil)
    (pss_one (ps_ret (pe_callTy call_list_of (by rfl) T.free (by decide +kernel) (pa_cons (pv 0) pa_nil))))))), ?_⟩
  obtain ⟨c, v, rfl, hc, hf, sm, lw, hQ⟩ := h
  obtain ⟨f1, f2⟩ := fits_parts hf
  obtain ⟨p, xs, rfl, hp, h1, h2⟩ := hc.tup
  have a0 : atI (V.str c.word :: xs) 0 = some (.str c.word) := at_of (j := 0) rfl rfl
  have whole : c.words = c.word :: c.strs → c.conn = false → ∀ l, H l = none → Q (.ref l) (upd H l (.lst (V.str c.word :: xs))) := fun e n l nl => by
    refine hQ l _ (KeepI.new nl) nl ?_
    rw [upd_same, e, h2 n]
    rfl
  refine ⟨_, rfl, p, _, 0, _, rfl, rfl, SqT.of hp, a0, rfl, _, rfl, ?_⟩
  cases c with
  | mat n q =>
    have ex := h2 rfl
    subst ex
    refine itT (by simp [Cond.word]) ?_
    have lq := sm.pat
    refine ⟨_, rfl, p, _, 1, _, rfl, rfl, SqT.of hp, at_of (j := 1) rfl rfl, _, rfl, p, _, 2, _, rfl, rfl, SqT.of hp, at_of (j := 2) rfl rfl, _, _, rfl, rfl, by rw [sizeLine_eq, show ("=" : Str).length = 1 by decide +kernel]; omega, by show 3 ≤ sizeLine; decide, fun l nl => ?_⟩
    exact hQ l _ (KeepI.new nl) nl upd_same
  | same a b =>
    refine itF (decide_eq_false fun z => absurd (V.str.inj z) (by simp only [Cond.word, bw]; decide +kernel)) ⟨_, rfl, p, _, 0, _, rfl, rfl, SqT.of hp, a0, rfl, _, rfl, itF (decide_eq_false fun z => absurd (V.str.inj z) (by simp only [Cond.word, bw]; decide +kernel)) ⟨_, rfl, p, _, 0, _, rfl, rfl, SqT.of hp, a0, rfl, _, rfl, itF (decide_eq_false fun z => absurd (V.str.inj z) (by simp only [Cond.word, bw]; decide +kernel)) ?_⟩⟩
    refine ⟨_, rfl, p, _, 0, _, rfl, rfl, SqT.of hp, a0, rfl, _, rfl, itF (decide_eq_false fun z => absurd (V.str.inj z) (by simp only [Cond.word, bw]; decide +kernel)) ?_⟩
    exact ⟨_, rfl, p, _, rfl, .inr (SqT.of hp), whole rfl rfl⟩
  | empty a =>
    refine itF (decide_eq_false fun z => absurd (V.str.inj z) (by simp only [Cond.word, bw]; decide +kernel)) ⟨_, rfl, p, _, 0, _, rfl, rfl, SqT.of hp, a0, rfl, _, rfl, itF (decide_eq_false fun z => absurd (V.str.inj z) (by simp only [Cond.word, bw]; decide +kernel)) ⟨_, rfl, p, _, 0, _, rfl, rfl, SqT.of hp, a0, rfl, _, rfl, itF (decide_eq_false fun z => absurd (V.str.inj z) (by simp only [Cond.word, bw]; decide +kernel)) ?_⟩⟩
    refine ⟨_, rfl, p, _, 0, _, rfl, rfl, SqT.of hp, a0, rfl, _, rfl, itF (decide_eq_false fun z => absurd (V.str.inj z) (by simp only [Cond.word, bw]; decide +kernel)) ?_⟩
    exact ⟨_, rfl, p, _, rfl, .inr (SqT.of hp), whole rfl rfl⟩
  | always =>
    refine itF (decide_eq_false fun z => absurd (V.str.inj z) (by simp only [Cond.word, bw]; decide +kernel)) ⟨_, rfl, p, _, 0, _, rfl, rfl, SqT.of hp, a0, rfl, _, rfl, itF (decide_eq_false fun z => absurd (V.str.inj z) (by simp only [Cond.word, bw]; decide +kernel)) ⟨_, rfl, p, _, 0, _, rfl, rfl, SqT.of hp, a0, rfl, _, rfl, itF (decide_eq_false fun z => absurd (V.str.inj z) (by simp only [Cond.word, bw]; decide +kernel)) ?_⟩⟩
    refine ⟨_, rfl, p, _, 0, _, rfl, rfl, SqT.of hp, a0, rfl, _, rfl, itF (decide_eq_false fun z => absurd (V.str.inj z) (by simp only [Cond.word, bw]; decide +kernel)) ?_⟩
    exact ⟨_, rfl, p, _, rfl, .inr (SqT.of hp), whole rfl rfl⟩
  | never =>
    refine itF (decide_eq_false fun z => absurd (V.str.inj z) (by simp only [Cond.word, bw]; decide +kernel)) ⟨_, rfl, p, _, 0, _, rfl, rfl, SqT.of hp, a0, rfl, _, rfl, itF (decide_eq_false fun z => absurd (V.str.inj z) (by simp only [Cond.word, bw]; decide +kernel)) ⟨_, rfl, p, _, 0, _, rfl, rfl, SqT.of hp, a0, rfl, _, rfl, itF (decide_eq_false fun z => absurd (V.str.inj z) (by simp only [Cond.word, bw]; decide +kernel)) ?_⟩⟩
    refine ⟨_, rfl, p, _, 0, _, rfl, rfl, SqT.of hp, a0, rfl, _, rfl, itF (decide_eq_false fun z => absurd (V.str.inj z) (by simp only [Cond.word, bw]; decide +kernel)) ?_⟩
    exact ⟨_, rfl, p, _, rfl, .inr (SqT.of hp), whole rfl rfl⟩
  | not c0 =>
    refine itF (decide_eq_false fun z => absurd (V.str.inj z) (by simp only [Cond.word, bw]; decide +kernel)) ⟨_, rfl, p, _, 0, _, rfl, rfl, SqT.of hp, a0, rfl, _, rfl, itF (decide_eq_false fun z => absurd (V.str.inj z) (by simp only [Cond.word, bw]; decide +kernel)) ⟨_, rfl, p, _, 0, _, rfl, rfl, SqT.of hp, a0, rfl, _, rfl, itF (decide_eq_false fun z => absurd (V.str.inj z) (by simp only [Cond.word, bw]; decide +kernel)) ?_⟩⟩
    refine ⟨_, rfl, p, _, 0, _, rfl, rfl, SqT.of hp, a0, rfl, _, rfl, itT (by simp [Cond.word]) ?_⟩
    have hcs := h1 rfl
    rw [Cond.parts, CondsAt] at hcs
    obtain ⟨u, us', rfl, hu, hr0⟩ := hcs
    have lw0 : c0.words.length ≤ 1000000 := by
      rw [Cond.words, List.length_cons] at lw
      omega
    refine ⟨by show 1 ≤ sizeLine; decide, fun q nq => ?_⟩
    have kq : KeepI H (upd H q (.lst [.str "not"])) := KeepI.new nq
    refine ⟨_, rfl, p, _, 1, _, rfl, rfl, SqT.of (kq.tup p _ hp), at_of (j := 1) rfl rfl, c0, u, rfl, hu.keep kq.tup, f2 c0 (by simp [Cond.parts]), sm.part (by simp [Cond.parts]), lw0, fun q2 H2 k2 nq2 hq2 => ?_⟩
    refine ⟨q, q2, _, _, rfl, rfl, k2 q _ upd_same rfl, hq2, by rw [List.length_map, sizeLine_eq]; simp; omega, fun q3 nq3 => ?_⟩
    refine hQ q3 _ ((kq.trans k2).trans (KeepI.new nq3)) ((kq.trans k2).fresh nq3) ?_
    rw [upd_same, Cond.words]
    rfl
  | many b ps =>
    have hcs := h1 rfl
    have hpr := condsAt_to hcs
    have lps := Paired.length hpr
    have lps20 : ps.length ≤ 20 := f1
    rw [Cond.words, List.length_cons, List.length_cons] at lw
    have lxs : xs.length = ps.length := lps.symm
    refine itF (by cases b <;> exact decide_eq_false fun z => absurd (V.str.inj z) (by simp only [Cond.word, bw]; decide +kernel)) ?_
    dsimp only [tNext]
    cases b with
    | true =>
      refine ⟨_, rfl, p, _, 0, _, rfl, rfl, SqT.of hp, a0, rfl, _, rfl, itT (by simp [Cond.word, bw]) (itT rfl ?_)⟩
      refine ⟨_, rfl, p, _, 0, _, rfl, rfl, SqT.of hp, a0, _, rfl, p, _, rfl, .inr (SqT.of hp), _, _, rfl, rfl, _, rfl, small_log (by simp; omega), by show 2 ≤ sizeLine; decide, fun wl nwl => ?_⟩
      refine ⟨_, rfl, _, rfl, p, _, rfl, SqT.of (KeepI.new nwl p _ hp rfl), fun z => ?_, fun q nq => ?_⟩
      · have z1 : HT.sIx (V.str (Cond.many true ps).word :: xs).length 0 (some ((1 : Nat) : Int)) = 0 := z.1
        rw [HT.sIx_nat] at z1
        simp at z1
      · rw [show (some (1 : Int)) = some ((1 : Nat) : Int) from rfl, cut_from (by simp)]
        have kA : KeepI H (upd H wl (.lst [.str (Cond.many true ps).word, .str (Str.ofString (toString (((V.str (Cond.many true ps).word :: xs).length : Int) - 1)))])) := KeepI.new nwl
        have kB := kA.trans (KeepI.new (o := .tup ((V.str (Cond.many true ps).word :: xs).drop 1)) nq)
        have hwl := KeepI.new (o := .tup ((V.str (Cond.many true ps).word :: xs).drop 1)) nq wl _ upd_same rfl
        have hq : upd (upd H wl (.lst [.str (Cond.many true ps).word, .str (Str.ofString (toString (((V.str (Cond.many true ps).word :: xs).length : Int) - 1)))])) q (.tup ((V.str (Cond.many true ps).word :: xs).drop 1)) q = some (.tup xs) := upd_same
        have en : (((V.str (Cond.many true ps).word :: xs).length : Int) - 1) = (ps.length : Int) := by simp [lxs]
        rw [en] at kB hwl hq ⊢
        generalize upd (upd H wl (.lst [.str (Cond.many true ps).word, .str (Str.ofString (toString (ps.length : Int)))])) q (.tup ((V.str (Cond.many true ps).word :: xs).drop 1)) = H1 at kB hwl hq
        refine ⟨q, rfl, ⟨_, SqT.of hq⟩, ?_⟩
        refine for_tup (a := q) (xs := xs) (fun i σ H' => ∃ (wl : Addr) (kv : Option V), σ = [some (.ref p), some (.ref wl), kv] ∧ KeepI H1 H' ∧ H wl = none ∧ H' wl = some (.lst ((bw true :: num ps.length :: wordsL (ps.take i)).map V.str)))
          ⟨wl, none, rfl, KeepI.refl _, nwl, hwl⟩ (fun i σ H' _ ⟨wl, kv, es, k, _⟩ => SqT.of (k q _ hq rfl)) (fun i x σ H' hx ⟨wl, kv, es, k, nw, hw⟩ => ?_) (fun σ H' ⟨wl, kv, es, k, nw, hw⟩ => ?_)
        · subst es
          obtain ⟨y, e1, e2⟩ := Paired.at_ hpr i x hx
          have e1 : ps[i]? = some y := e1
          have my := List.mem_of_getElem? e1
          have ly : (wordsL (ps.take i)).length + y.words.length ≤ 1000000 := by
            have z := wordsL_len (ps := ps) (i + 1)
            rw [wordsL_take e1, List.length_append] at z
            omega
          refine ⟨_, rfl, _, rfl, y, x, rfl, e2.keep (kB.trans k).tup, f2 y my, sm.part my, by omega, fun q2 H2 k2 nq2 hq2 => ?_⟩
          refine ⟨wl, q2, _, _, rfl, rfl, k2 wl _ hw rfl, hq2, by simp [sizeLine_eq]; omega, fun q3 nq3 => ?_⟩
          refine ⟨q3, _, rfl, (k.trans k2).trans (KeepI.new nq3), (((kB.trans k).trans k2).fresh nq3), ?_⟩
          rw [upd_same, wordsL_take e1]
          simp
        · subst es
          refine ⟨_, rfl, hQ wl H' (kB.trans k) nw ?_⟩
          rw [hw, lxs, List.take_length, Cond.words]
    | false =>
      refine ⟨_, rfl, p, _, 0, _, rfl, rfl, SqT.of hp, a0, rfl, _, rfl, itF (decide_eq_false fun z => absurd (V.str.inj z) (by simp only [Cond.word, bw]; decide +kernel)) ?_⟩
      refine ⟨_, rfl, p, _, 0, _, rfl, rfl, SqT.of hp, a0, rfl, _, rfl, itT (by simp [Cond.word, bw]) ?_⟩
      refine ⟨_, rfl, p, _, 0, _, rfl, rfl, SqT.of hp, a0, _, rfl, p, _, rfl, .inr (SqT.of hp), _, _, rfl, rfl, _, rfl, small_log (by simp; omega), by show 2 ≤ sizeLine; decide, fun wl nwl => ?_⟩
      refine ⟨_, rfl, _, rfl, p, _, rfl, SqT.of (KeepI.new nwl p _ hp rfl), fun z => ?_, fun q nq => ?_⟩
      · have z1 : HT.sIx (V.str (Cond.many false ps).word :: xs).length 0 (some ((1 : Nat) : Int)) = 0 := z.1
        rw [HT.sIx_nat] at z1
        simp at z1
      · rw [show (some (1 : Int)) = some ((1 : Nat) : Int) from rfl, cut_from (by simp)]
        have kA : KeepI H (upd H wl (.lst [.str (Cond.many false ps).word, .str (Str.ofString (toString (((V.str (Cond.many false ps).word :: xs).length : Int) - 1)))])) := KeepI.new nwl
        have kB := kA.trans (KeepI.new (o := .tup ((V.str (Cond.many false ps).word :: xs).drop 1)) nq)
        have hwl := KeepI.new (o := .tup ((V.str (Cond.many false ps).word :: xs).drop 1)) nq wl _ upd_same rfl
        have hq : upd (upd H wl (.lst [.str (Cond.many false ps).word, .str (Str.ofString (toString (((V.str (Cond.many false ps).word :: xs).length : Int) - 1)))])) q (.tup ((V.str (Cond.many false ps).word :: xs).drop 1)) q = some (.tup xs) := upd_same
        have en : (((V.str (Cond.many false ps).word :: xs).length : Int) - 1) = (ps.length : Int) := by simp [lxs]
        rw [en] at kB hwl hq ⊢
        generalize upd (upd H wl (.lst [.str (Cond.many false ps).word, .str (Str.ofString (toString (ps.length : Int)))])) q (.tup ((V.str (Cond.many false ps).word :: xs).drop 1)) = H1 at kB hwl hq
        refine ⟨q, rfl, ⟨_, SqT.of hq⟩, ?_⟩
        refine for_tup (a := q) (xs := xs) (fun i σ H' => ∃ (wl : Addr) (kv : Option V), σ = [some (.ref p), some (.ref wl), kv] ∧ KeepI H1 H' ∧ H wl = none ∧ H' wl = some (.lst ((bw false :: num ps.length :: wordsL (ps.take i)).map V.str)))
          ⟨wl, none, rfl, KeepI.refl _, nwl, hwl⟩ (fun i σ H' _ ⟨wl, kv, es, k, _⟩ => SqT.of (k q _ hq rfl)) (fun i x σ H' hx ⟨wl, kv, es, k, nw, hw⟩ => ?_) (fun σ H' ⟨wl, kv, es, k, nw, hw⟩ => ?_)
        · subst es
          obtain ⟨y, e1, e2⟩ := Paired.at_ hpr i x hx
          have e1 : ps[i]? = some y := e1
          have my := List.mem_of_getElem? e1
          have ly : (wordsL (ps.take i)).length + y.words.length ≤ 1000000 := by
            have z := wordsL_len (ps := ps) (i + 1)
            rw [wordsL_take e1, List.length_append] at z
            omega
          refine ⟨_, rfl, _, rfl, y, x, rfl, e2.keep (kB.trans k).tup, f2 y my, sm.part my, by omega, fun q2 H2 k2 nq2 hq2 => ?_⟩
          refine ⟨wl, q2, _, _, rfl, rfl, k2 wl _ hw rfl, hq2, by simp [sizeLine_eq]; omega, fun q3 nq3 => ?_⟩
          refine ⟨q3, _, rfl, (k.trans k2).trans (KeepI.new nq3), (((kB.trans k).trans k2).fresh nq3), ?_⟩
          rw [upd_same, wordsL_take e1]
          simp
        · subst es
          refine ⟨_, rfl, hQ wl H' (kB.trans k) nw ?_⟩
          rw [hw, lxs, List.take_length, Cond.words]
theorem ok_wc (T : Tx w K mg) : ∀ d : Nat, Ok1 P w K mg base CX0 (1 + d) "_law_words_of_condition" ["_law_condition_here"] (spWC d)
  | 0 => by
    have sc := sc__law_words_of_condition
    refine ok1_of T.glo (T.def_ 59) sc (fun vs H Q E h => ?_) (fun _ _ _ _ _ _ us hl => match us, hl with | [_], _ => rfl) (fun cdv A outer s H vs Q E hr h => ?_)
    · obtain ⟨c, v, rfl, _⟩ := h
      rfl
    · obtain ⟨c, v, rfl, _, hf, _⟩ := h
      rw [Cond.fits] at hf
      exact hf.elim
  | d + 1 => wcS T d (ok_wc T d)
theorem sc__law_words_of_line : FnScope ["_law_line_here"] ["_law_line_here"] (defScope (top 75)) := ⟨rfl, rfl, rfl, by decide +kernel, rfl, by decide +kernel, by decide +kernel⟩
theorem ok_wl (T : Tx w K mg) : Ok1 P w K mg base CX0 1 "_law_words_of_line" ["_law_line_here"] spWL := by
  have sc := sc__law_words_of_line
  refine ok1_of T.glo (T.def_ 60) sc (fun vs H Q E h => ?_) (fun _ _ _ _ _ _ us hl => match us, hl with | [_], _ => rfl) (fun cdv A outer s H vs Q E hr h => ?_)
  · obtain ⟨l, v, rfl, _⟩ := h
    rfl
  refine ⟨_, PSs.nox (pss_cons (ps_if (pt_cmpR op_eq (pe_ix ix_tup (pv 0) pe_int (fun _ _ => rfl)) pe_str (nomark _)) (pss_one (ps_ret (pe_lst (pa_cons pe_str (pa_cons (pe_op op_add_str pe_str (pe_ix ix_tup (pv 0) pe_int (fun _ _ => rfl))) pa_nil))))) pss_nil)
    (pss_cons (ps_if (pt_cmpR op_eq (pe_ix ix_tup (pv 0) pe_int (fun _ _ => rfl)) pe_str (nomark _)) (pss_one (ps_ret (pe_lst (pa_cons pe_str (pa_cons (pe_ix ix_str pe_str (pe_ix ix_tup (pv 0) pe_int (fun _ _ => rfl)) (fun _ _ => rfl)) pa_nil))))) pss_nil)
    (pss_one (ps_ret (pe_callTy call_list_of (by rfl) T.free (by decide +kernel) (pa_cons (pv 0) pa_nil)))))), ?_⟩
  obtain ⟨l, v, rfl, ⟨p, rfl, hp⟩, hl, sm, hQ⟩ := h
  cases l with
  | keep =>
    refine ⟨_, rfl, p, _, 0, _, rfl, rfl, SqT.of hp, at_of (j := 0) rfl rfl, rfl, _, rfl, itF (by decide +kernel) ⟨_, rfl, p, _, 0, _, rfl, rfl, SqT.of hp, at_of (j := 0) rfl rfl, rfl, _, rfl, itF (by decide +kernel) ?_⟩⟩
    exact ⟨_, rfl, p, _, rfl, .inr (SqT.of hp), fun q nq => hQ q _ (KeepI.new nq) nq upd_same⟩
  | clear =>
    refine ⟨_, rfl, p, _, 0, _, rfl, rfl, SqT.of hp, at_of (j := 0) rfl rfl, rfl, _, rfl, itF (by decide +kernel) ⟨_, rfl, p, _, 0, _, rfl, rfl, SqT.of hp, at_of (j := 0) rfl rfl, rfl, _, rfl, itF (by decide +kernel) ?_⟩⟩
    exact ⟨_, rfl, p, _, rfl, .inr (SqT.of hp), fun q nq => hQ q _ (KeepI.new nq) nq upd_same⟩
  | value n =>
    refine ⟨_, rfl, p, _, 0, _, rfl, rfl, SqT.of hp, at_of (j := 0) rfl rfl, rfl, _, rfl, itF (by decide +kernel) ⟨_, rfl, p, _, 0, _, rfl, rfl, SqT.of hp, at_of (j := 0) rfl rfl, rfl, _, rfl, itF (by decide +kernel) ?_⟩⟩
    exact ⟨_, rfl, p, _, rfl, .inr (SqT.of hp), fun q nq => hQ q _ (KeepI.new nq) nq upd_same⟩
  | text t =>
    refine ⟨_, rfl, p, _, 0, _, rfl, rfl, SqT.of hp, at_of (j := 0) rfl rfl, rfl, _, rfl, itT (by decide +kernel) ?_⟩
    have lt := (okS_eqT (sm (eqT t) (by simp [Ln.words]))).1
    refine ⟨_, rfl, p, _, 1, _, rfl, rfl, SqT.of hp, at_of (j := 1) rfl rfl, _, _, rfl, rfl, by rw [sizeLine_eq, show ("=" : Str).length = 1 by decide +kernel]; omega, by show 2 ≤ sizeLine; decide, fun q nq => ?_⟩
    exact hQ q _ (KeepI.new nq) nq upd_same
  | fresh k =>
    refine ⟨_, rfl, p, _, 0, _, rfl, rfl, SqT.of hp, at_of (j := 0) rfl rfl, rfl, _, rfl, itF (by decide +kernel) ⟨_, rfl, p, _, 0, _, rfl, rfl, SqT.of hp, at_of (j := 0) rfl rfl, rfl, _, rfl, itT (by decide +kernel) ?_⟩⟩
    have hk : k ≤ 2 := hl
    have e : ∃ c : Nat, atI ("012" : Str).cps.toList (k : Int) = some c ∧ (⟨#[c]⟩ : Str) = num k := by
      rcases (show k = 0 ∨ k = 1 ∨ k = 2 by omega) with z | z | z <;> subst z
      · exact ⟨48, by decide +kernel, by decide +kernel⟩
      · exact ⟨49, by decide +kernel, by decide +kernel⟩
      · exact ⟨50, by decide +kernel, by decide +kernel⟩
    obtain ⟨c, e1, e2⟩ := e
    refine ⟨_, rfl, p, _, 1, _, rfl, rfl, SqT.of hp, at_of (j := 1) rfl rfl, "012", _, c, rfl, rfl, by decide +kernel, e1, by show 2 ≤ sizeLine; decide, fun q nq => ?_⟩
    refine hQ q _ (KeepI.new nq) nq ?_
    rw [upd_same, e2]
    rfl
def spLR : Sp := fun vs H Q _ => ∃ (R : Rule) (v : V) (n : Nat), vs = [v] ∧ RuleAt H R v ∧ R.fits n ∧ n ≤ 1000000 ∧ Sm R.words ∧ R.words.length ≤ 1000000 ∧ ∀ p H', KeepI H H' → H p = none → H' p = some (.lst (R.words.map V.str)) → Q (.ref p) H'
theorem lnsW_take {ps : List Ln} {i : Nat} {c : Ln} (h : ps[i]? = some c) : lnsW (ps.take (i + 1)) = lnsW (ps.take i) ++ c.words := by
  rw [lnsW_eq, lnsW_eq, List.take_add_one, h]
  simp
theorem ln_len (l : Ln) : l.words.length ≤ 2 := by cases l <;> simp [Ln.words]
theorem lnsW_len : ∀ (ps : List Ln), (lnsW ps).length ≤ 2 * ps.length
  | [] => Nat.le_refl _
  | l :: r => by
    have z := ln_len l
    have z2 := lnsW_len r
    rw [lnsW, List.length_append, List.length_cons]
    omega
theorem KeepI.mut {H H1 : Hp} {p : Addr} {o : HO} (k : KeepI H H1) (h : H p = none) : KeepI H (upd H1 p o) := fun b u e _ => by
  rw [upd_ne (ne_of_none e h)]
  exact k b u e rfl
theorem sc__law_line_of_rule : FnScope ["_law_rule_here", "_law_words", "_law_source_here", "_law_line_here"] ["_law_rule_here"] (defScope (top 76)) := ⟨rfl, rfl, rfl, by decide +kernel, rfl, by decide +kernel, by decide +kernel⟩
theorem ok_lr (T : Tx w K mg) : Ok1 P w K mg base CX0 8 "_law_line_of_rule" ["_law_rule_here"] spLR := by
  have sc := sc__law_line_of_rule
  have F__law_words_of_condition := ok_wc (P := P) (base := base) T 6
  have F__law_words_of_line := ok_wl (P := P) (base := base) T
  refine ok1_of T.glo (T.def_ 61) sc (fun vs H Q E h => ?_) (fun _ _ _ _ _ _ us hl => match us, hl with | [_], _ => rfl) (fun cdv A outer s H vs Q E hr h => ?_)
  · obtain ⟨R, v, n, rfl, _⟩ := h
    rfl
  have hr__law_words_of_condition := hr
  have hr__law_words_of_line := hr.mono (show 1 ≤ 7 by decide)
  refine ⟨_, PSs.nox (pss_cons (ps_set (i := 1) sc.nd rfl (by first | exact Or.inl rfl | exact Or.inr rfl) (pe_lst (pa_cons pe_str (pa_cons pe_str (pa_cons (pe_ix ix_tup (pv 0) pe_int (fun _ _ => rfl)) pa_nil)))))
    (pss_cons (ps_if (pt_cmpR op_notN (pe_ix ix_tup (pv 0) pe_int (fun _ _ => rfl)) pe_non (nomark _)) (pss_one (ps_asg (pe_ix ix_tup (pv 0) pe_int (fun _ _ => rfl)) (pg_sub (pv 1) pe_int set_list))) pss_nil)
    (pss_cons (ps_set (i := 1) sc.nd rfl (by first | exact Or.inl rfl | exact Or.inr rfl) (pe_op op_cat (pe_op op_cat (pv 1) (pe_f F__law_words_of_condition hr__law_words_of_condition pass0 (pa_cons (pe_ix ix_tup (pv 0) pe_int (fun _ _ => rfl)) pa_nil))) (pe_lst (pa_cons pe_str (pa_cons (pe_ix ix_tup (pe_ix ix_tup (pv 0) pe_int (fun _ _ => rfl)) pe_int (fun _ _ => rfl)) (pa_cons (pe_callTy call_str_int (by rfl) T.free (by decide +kernel) (pa_cons (pe_op op_sub (pe_callB call_len_seq (by rfl) T.free PySem.boot_len (pa_cons (pe_ix ix_tup (pv 0) pe_int (fun _ _ => rfl)) pa_nil)) pe_int) pa_nil)) pa_nil))))))
    (pss_cons (ps_for PassesOwn.never rfl (pi_tup (pe_slice sl_tup (pe_ix ix_tup (pv 0) pe_int (fun _ _ => rfl)) (po_some pe_int) po_none)) (pg_name (i := 2) sc.nd rfl (by first | exact Or.inl rfl | exact Or.inr rfl)) (pss_one (ps_set (i := 1) sc.nd rfl (by first | exact Or.inl rfl | exact Or.inr rfl) (pe_op op_cat (pv 1) (pe_f F__law_words_of_line hr__law_words_of_line pass0 (pa_cons (pv 2) pa_nil))))))
    (pss_cons (ps_expr (pe_bm PySem.F.plainAttrs_list PySem.F.slot_list_append PySem.F.type_list_append mt_append (pv 1) (pa_cons pe_str pa_nil)))
    (pss_cons (ps_for PassesOwn.never rfl (pi_tup (pe_ix ix_tup (pv 0) pe_int (fun _ _ => rfl))) (pg_name (i := 3) sc.nd rfl (by first | exact Or.inl rfl | exact Or.inr rfl)) (pss_one (ps_set (i := 1) sc.nd rfl (by first | exact Or.inl rfl | exact Or.inr rfl) (pe_op op_cat (pv 1) (pe_f F__law_words_of_line hr__law_words_of_line pass0 (pa_cons (pv 3) pa_nil))))))
    (pss_one (ps_ret (pe_op op_cat (pv 1) (pe_lst (pa_cons pe_str (pa_cons (pe_ix ix_tup (pv 0) pe_int (fun _ _ => rfl)) pa_nil)))))))))))), ?_⟩
  obtain ⟨R, v, n, rfl, ⟨p, aw, tn, c, as, ts, rfl, hp, hc, ha, hpa, ht, hpt⟩, hf, ln, sm, lw, hQ⟩ := h
  have las := Paired.length hpa
  have lts := Paired.length hpt
  have lss := hf.srcs
  have l1 := lnsW_len R.srcs
  have l2 := lnsW_len R.turn
  have lt := hf.turn
  have lcw : R.cond.words.length ≤ 1000000 := by
    have z := lw
    unfold Rule.words at z
    simp only [List.length_cons, List.length_append] at z
    omega
  refine ⟨_, rfl, p, _, 1, _, rfl, rfl, SqT.of hp, at_of (j := 1) rfl rfl, by show 3 ≤ sizeLine; decide, fun w1 nw1 => ?_⟩
  have k1 : KeepI H (upd H w1 (.lst [.str "rule", .str "-", .str R.kind])) := KeepI.new nw1
  have hw1 : upd H w1 (.lst [.str "rule", .str "-", .str R.kind]) w1 = some (.lst [.str "rule", .str "-", .str R.kind]) := upd_same
  dsimp only [gName]
  refine seq_ex (fun σ H2 => σ = [some (.ref p), some (.ref w1), none, none] ∧ KeepI H H2 ∧ H2 w1 = some (.lst [.str "rule", .str (stW R.st), .str R.kind])) (fun σ H2 ⟨es, k2, hw2⟩ => ?_) (fun ext => ?_)
  rotate_left
  · refine ⟨_, rfl, p, _, 0, stV R.st, rfl, rfl, SqT.of (k1 p _ hp rfl), at_of (j := 0) rfl rfl, rfl, _, rfl, ?_⟩
    have hp1 := k1 p _ hp rfl
    generalize hst : R.st = st at *
    cases st with
    | none =>
      refine itF (by simp [stV]) ?_
      exact ext _ _ ⟨rfl, k1, hw1⟩
    | some x =>
      refine itT (by simp [stV]) ?_
      refine ⟨_, rfl, p, _, 0, .str x, rfl, rfl, SqT.of hp1, at_of (j := 0) rfl rfl, _, rfl, w1, _, 1, 1, rfl, rfl, hw1, rfl, ?_⟩
      exact ext _ _ ⟨rfl, k1.mut nw1, upd_same⟩
  subst es
  -- the condition, the answer's head
  refine ⟨_, rfl, _, rfl, p, _, 2, c, rfl, rfl, SqT.of (k2 p _ hp rfl), at_of (j := 2) rfl rfl, R.cond, c, rfl, hc.keep k2.tup, hf.cond, sm.cond, lcw, fun q3 H3 k3 nq3 hq3 => ?_⟩
  have hw3 := k3 w1 _ hw2 rfl
  refine ⟨w1, q3, _, _, rfl, rfl, hw3, hq3, by rw [List.length_map, sizeLine_eq]; simp; omega, fun w4 nw4 => ?_⟩
  have k24 := (k2.trans k3).trans (KeepI.new (o := .lst ([.str "rule", .str (stW R.st), .str R.kind] ++ R.cond.words.map V.str)) nw4)
  refine ⟨_, rfl, p, _, 3, .ref aw, rfl, rfl, SqT.of (k24 p _ hp rfl), at_of (j := 3) rfl rfl, aw, _, 0, .str R.word, rfl, rfl, SqT.of (k24 aw _ ha rfl), at_of (j := 0) rfl rfl, ?_⟩
  refine ⟨_, rfl, p, _, 3, .ref aw, rfl, rfl, SqT.of (k24 p _ hp rfl), at_of (j := 3) rfl rfl, aw, _, rfl, .inr (SqT.of (k24 aw _ ha rfl)), _, _, rfl, rfl, _, rfl, small_log (by simp; omega), by show 3 ≤ sizeLine; decide, fun w5 nw5 => ?_⟩
  have en : (((V.str R.word :: as).length : Int) - 1) = (R.srcs.length : Int) := by simp [las]
  refine ⟨w4, w5, _, _, rfl, rfl, KeepI.new nw5 w4 _ upd_same rfl, upd_same, by simp [sizeLine_eq]; omega, fun w6 nw6 => ?_⟩
  dsimp only at nw5 nw6 ⊢
  rw [en] at nw6 ⊢
  have k6 := (k24.trans (KeepI.new (o := .lst [.str "answer", .str R.word, .str (Str.ofString (toString (R.srcs.length : Int)))]) nw5)).trans (KeepI.new (o := .lst ([.str "rule", .str (stW R.st), .str R.kind] ++ R.cond.words.map V.str ++ [.str "answer", .str R.word, .str (Str.ofString (toString (R.srcs.length : Int)))])) nw6)
  have n6 : H w6 = none := (k24.trans (KeepI.new nw5)).fresh nw6
  obtain ⟨pre, epre⟩ : ∃ pre : List Str, pre = ("rule" : Str) :: stW R.st :: R.kind :: (R.cond.words ++ [("answer" : Str), R.word, num R.srcs.length]) := ⟨_, rfl⟩
  have eW : R.words = pre ++ lnsW R.srcs ++ [("turn" : Str)] ++ lnsW R.turn ++ [("next" : Str), R.next] := by
    rw [epre]
    unfold Rule.words
    simp
  have lpre : pre.length ≤ 1000010 := by
    rw [epre]
    simp
    omega
  have hw6 : upd (upd (upd H3 w4 (.lst ([.str "rule", .str (stW R.st), .str R.kind] ++ R.cond.words.map V.str))) w5 (.lst [.str "answer", .str R.word, .str (Str.ofString (toString (R.srcs.length : Int)))])) w6 (.lst ([.str "rule", .str (stW R.st), .str R.kind] ++ R.cond.words.map V.str ++ [.str "answer", .str R.word, .str (Str.ofString (toString (R.srcs.length : Int)))])) w6 = some (.lst (pre.map V.str)) := by
    rw [upd_same, epre]
    simp [num]
  generalize upd (upd (upd H3 w4 (.lst ([.str "rule", .str (stW R.st), .str R.kind] ++ R.cond.words.map V.str))) w5 (.lst [.str "answer", .str R.word, .str (Str.ofString (toString (R.srcs.length : Int)))])) w6 (.lst ([.str "rule", .str (stW R.st), .str R.kind] ++ R.cond.words.map V.str ++ [.str "answer", .str R.word, .str (Str.ofString (toString (R.srcs.length : Int)))])) = H6 at k6 hw6
  clear epre en nw6 nw5 k24 nw4 hw3 hq3 k3 k2 hw2 hw1 k1 nq3
  -- the sources
  refine ⟨_, rfl, p, _, 3, .ref aw, rfl, rfl, SqT.of (k6 p _ hp rfl), at_of (j := 3) rfl rfl, _, rfl, aw, _, rfl, SqT.of (k6 aw _ ha rfl), fun z => ?_, fun q7 nq7 => ?_⟩
  · have z1 : HT.sIx (V.str R.word :: as).length 0 (some ((1 : Nat) : Int)) = 0 := z.1
    rw [HT.sIx_nat] at z1
    simp at z1
  rw [show (some (1 : Int)) = some ((1 : Nat) : Int) from rfl, cut_from (by simp)]
  have k7 := k6.trans (KeepI.new (o := .tup ((V.str R.word :: as).drop 1)) nq7)
  have hw7 := KeepI.new (o := .tup ((V.str R.word :: as).drop 1)) nq7 w6 _ hw6 rfl
  have hq7 : upd H6 q7 (.tup ((V.str R.word :: as).drop 1)) q7 = some (.tup as) := upd_same
  generalize upd H6 q7 (.tup ((V.str R.word :: as).drop 1)) = H7 at k7 hw7 hq7
  refine ⟨q7, rfl, ⟨_, SqT.of hq7⟩, ?_⟩
  refine for_tup (a := q7) (xs := as) (fun i σ H' => ∃ (wl : Addr) (kv : Option V), σ = [some (.ref p), some (.ref wl), kv, none] ∧ KeepI H7 H' ∧ H wl = none ∧ H' wl = some (.lst ((pre ++ lnsW (R.srcs.take i)).map V.str)))
    ⟨w6, none, rfl, KeepI.refl _, n6, by simpa [lnsW] using hw7⟩ (fun i σ H' _ ⟨wl, kv, es, k, _⟩ => SqT.of (k q7 _ hq7 rfl)) (fun i x σ H' hx ⟨wl, kv, es, k, nw, hw⟩ => ?_) (fun σ H' ⟨wl, kv, es, k, nw, hw⟩ => ?_)
  · subst es
    obtain ⟨y, e1, e2⟩ := Paired.at_ hpa i x hx
    have my := List.mem_of_getElem? e1
    have z1 := ln_len y
    have z2 := lnsW_len (R.srcs.take i)
    have z3 : (R.srcs.take i).length ≤ R.srcs.length := by rw [List.length_take]; omega
    refine ⟨_, rfl, _, rfl, y, x, rfl, e2.keep (k7.trans k).tup, Ln.src_line (hf.src y my), sm.srcs my, fun q2 H2 k2 nq2 hq2 => ?_⟩
    refine ⟨wl, q2, _, _, rfl, rfl, k2 wl _ hw rfl, hq2, by simp [sizeLine_eq]; omega, fun q3 nq3 => ?_⟩
    refine ⟨q3, _, rfl, (k.trans k2).trans (KeepI.new nq3), (((k7.trans k).trans k2).fresh nq3), ?_⟩
    rw [upd_same, lnsW_take e1]
    simp
  subst es
  rw [← las, List.take_length] at hw
  have k8 := k7.trans k
  clear k7 hw7 hq7 k6 hw6 nq7
  -- turn
  refine ⟨_, rfl, .inl ⟨rfl, _, SqL.of hw⟩, wl, _, _, rfl, rfl, hw, by rw [List.length_map, List.length_append, sizeLine_eq]; omega, ?_⟩
  have k9 := k8.mut (o := .lst ((pre ++ lnsW R.srcs).map V.str ++ [.str "turn"])) nw
  have hw9 : upd H' wl (.lst ((pre ++ lnsW R.srcs).map V.str ++ [.str "turn"])) wl = some (.lst ((pre ++ lnsW R.srcs ++ [("turn" : Str)]).map V.str)) := by
    rw [upd_same]
    simp
  generalize upd H' wl (.lst ((pre ++ lnsW R.srcs).map V.str ++ [.str "turn"])) = H9 at k9 hw9
  have ht9 := k9 tn _ ht rfl
  refine ⟨_, rfl, p, _, 4, .ref tn, rfl, rfl, SqT.of (k9 p _ hp rfl), at_of (j := 4) rfl rfl, tn, rfl, ⟨_, SqT.of ht9⟩, ?_⟩
  refine for_tup (a := tn) (xs := ts) (fun i σ H' => ∃ (wl : Addr) (kv2 : Option V), σ = [some (.ref p), some (.ref wl), kv, kv2] ∧ KeepI H9 H' ∧ H wl = none ∧ H' wl = some (.lst ((pre ++ lnsW R.srcs ++ [("turn" : Str)] ++ lnsW (R.turn.take i)).map V.str)))
    ⟨wl, none, rfl, KeepI.refl _, nw, by simpa [lnsW] using hw9⟩ (fun i σ H' _ ⟨wl, kv, es, k, _⟩ => SqT.of (k tn _ ht9 rfl)) (fun i x σ H' hx ⟨wl, kv2, es, k, nw, hw⟩ => ?_) (fun σ H' ⟨wl, kv2, es, k, nw, hw⟩ => ?_)
  · subst es
    obtain ⟨y, e1, e2⟩ := Paired.at_ hpt i x hx
    have my := List.mem_of_getElem? e1
    have z1 := ln_len y
    have z2 := lnsW_len (R.turn.take i)
    have z3 : (R.turn.take i).length ≤ R.turn.length := by rw [List.length_take]; omega
    refine ⟨_, rfl, _, rfl, y, x, rfl, e2.keep (k9.trans k).tup, hf.line y my, sm.turn my, fun q2 H2 k2 nq2 hq2 => ?_⟩
    refine ⟨wl, q2, _, _, rfl, rfl, k2 wl _ hw rfl, hq2, by simp [sizeLine_eq]; omega, fun q3 nq3 => ?_⟩
    refine ⟨q3, _, rfl, (k.trans k2).trans (KeepI.new nq3), (((k9.trans k).trans k2).fresh nq3), ?_⟩
    rw [upd_same, lnsW_take e1]
    simp
  subst es
  rw [← lts, List.take_length] at hw
  have kA := k9.trans k
  refine ⟨_, rfl, _, rfl, p, _, 5, .str R.next, rfl, rfl, SqT.of (kA p _ hp rfl), at_of (j := 5) rfl rfl, by show 2 ≤ sizeLine; decide, fun q4 nq4 => ?_⟩
  refine ⟨_, q4, _, _, rfl, rfl, KeepI.new nq4 _ _ hw rfl, upd_same, by simp [sizeLine_eq]; omega, fun q5 nq5 => ?_⟩
  have kB := kA.trans (KeepI.new (o := .lst [.str "next", .str R.next]) nq4)
  refine hQ q5 _ (kB.trans (KeepI.new nq5)) (kB.fresh nq5) ?_
  rw [upd_same, eW]
  simp
end
end L2.Ta

set_option maxHeartbeats 4000000
/-! what a valid service's text is like -/
namespace L2.Ta
open PySem PySem.Spec PyProof.Rows L2 TL
def wch (c : Nat) : Bool := decide (c ≠ 32) && decide (c ≠ 10) && decide (c < 1114112)
def wOk (x : Str) : Bool := decide (x.length ≤ 13) && (tl x).all wch
theorem isLet_rng {c : Nat} (h : isLet c = true) : wch c = true ∧ c ≠ 45 := by
  have z : ∀ d ∈ abc.cps.toList, wch d = true ∧ d ≠ 45 := by decide +kernel
  exact z c (of_decide_eq_true h)
theorem letters_w {x : Str} (h : letters x = true) : (tl x).all wch = true := by
  have h2 : (tl x).all isLet = true := h
  rw [List.all_eq_true] at h2 ⊢
  exact fun c hc => (isLet_rng (h2 c hc)).1
theorem isName_parts {x : Str} (h : isName x = true) : 1 ≤ x.length ∧ x.length ≤ 12 ∧ letters x = true := by
  unfold isName at h
  rw [Bool.and_eq_true, Bool.and_eq_true, decide_eq_true_eq, decide_eq_true_eq] at h
  exact ⟨h.1.1, h.1.2, h.2⟩
theorem name_w {x : Str} (h : isName x = true) : wOk x = true := by
  obtain ⟨h1, h2, h3⟩ := isName_parts h
  unfold wOk
  rw [letters_w h3, decide_eq_true (show x.length ≤ 13 by omega)]
  rfl
theorem name_dash {x : Str} (h : isName x = true) : x ≠ "-" := fun e => by
  rw [e] at h
  revert h
  decide +kernel
theorem eqT_w {t : Str} (h : t.length ≤ 8) (h2 : (tl t).all wch = true) : wOk (eqT t) = true := by
  unfold wOk eqT
  rw [len_append, tl_append, tl_eqs, List.all_append, h2, show ("=" : Str).length = 1 by decide +kernel, decide_eq_true (by omega)]
  decide +kernel
theorem pat_w {p : Str} (h : isPat p = true) : wOk (eqT p) = true := by
  unfold isPat at h
  rw [Bool.and_eq_true, Bool.and_eq_true, decide_eq_true_eq] at h
  refine eqT_w h.1.1 ?_
  have z := h.2
  rw [List.all_eq_true] at z ⊢
  intro c hc
  have z2 := z c hc
  rw [Bool.or_eq_true] at z2
  rcases z2 with z2 | z2
  · exact (isLet_rng z2).1
  · have z3 : ∀ d ∈ ("?*" : Str).cps.toList, wch d = true := by decide +kernel
    exact z3 c (of_decide_eq_true z2)
theorem num_w {k : Nat} (h : k ≤ 20) : wOk (num k) = true := by
  have z : ∀ k : Fin 21, wOk (num k.val) = true := by decide +kernel
  exact z ⟨k, by omega⟩
mutual
theorem cond_words {ns rs : List Str} (hn : ∀ x ∈ ns, wOk x = true) (hr : ∀ x ∈ rs, wOk x = true) : ∀ (d : Nat) (c : Cond), CondOk ns rs d c → c.size ≤ 20 → (∀ x ∈ c.words, wOk x = true) ∧ c.words.length ≤ 3 * c.size ∧ c.fits d
  | 0, c, h, _ => by rw [CondOk] at h; exact h.elim
  | d + 1, .always, _, _ => by refine ⟨by decide +kernel, by decide +kernel, by simp [Cond.fits]⟩
  | d + 1, .never, _, _ => by refine ⟨by decide +kernel, by decide +kernel, by simp [Cond.fits]⟩
  | d + 1, .mat n p, h, _ => by
    rw [CondOk] at h
    refine ⟨fun x hx => ?_, by simp [Cond.words, Cond.size], by simp [Cond.fits]⟩
    simp only [Cond.words, List.mem_cons, List.not_mem_nil, or_false] at hx
    rcases hx with e | e | e <;> rw [e]
    · decide +kernel
    · exact hn _ h.1
    · exact pat_w h.2
  | d + 1, .same a b, h, _ => by
    rw [CondOk] at h
    refine ⟨fun x hx => ?_, by simp [Cond.words, Cond.size], by simp [Cond.fits]⟩
    simp only [Cond.words, List.mem_cons, List.not_mem_nil, or_false] at hx
    rcases hx with e | e | e <;> rw [e]
    · decide +kernel
    · exact hn _ h.1
    · exact hn _ h.2
  | d + 1, .empty n, h, _ => by
    rw [CondOk] at h
    refine ⟨fun x hx => ?_, by simp [Cond.words, Cond.size], by simp [Cond.fits]⟩
    simp only [Cond.words, List.mem_cons, List.not_mem_nil, or_false] at hx
    rcases hx with e | e <;> rw [e]
    · decide +kernel
    · exact hr _ h
  | d + 1, .not c, h, hs => by
    rw [CondOk] at h
    rw [Cond.size] at hs
    obtain ⟨i1, i2, i3⟩ := cond_words hn hr d c h (by omega)
    refine ⟨fun x hx => ?_, by rw [Cond.words, Cond.size, List.length_cons]; omega, by rw [Cond.fits]; exact i3⟩
    rw [Cond.words, List.mem_cons] at hx
    rcases hx with e | e
    · rw [e]
      decide +kernel
    · exact i1 x e
  | d + 1, .many b ps, h, hs => by
    rw [CondOk] at h
    rw [Cond.size] at hs
    obtain ⟨i1, i2, i3⟩ := conds_words hn hr d ps h (by omega)
    have lp := len_sizeL ps
    refine ⟨fun x hx => ?_, by rw [Cond.words, Cond.size, List.length_cons, List.length_cons]; omega, by rw [Cond.fits]; exact ⟨by omega, i3⟩⟩
    rw [Cond.words, List.mem_cons, List.mem_cons] at hx
    rcases hx with e | e | e
    · rw [e]
      cases b <;> decide +kernel
    · rw [e]
      exact num_w (by omega)
    · exact i1 x e
theorem conds_words {ns rs : List Str} (hn : ∀ x ∈ ns, wOk x = true) (hr : ∀ x ∈ rs, wOk x = true) : ∀ (d : Nat) (ps : List Cond), CondsOk ns rs d ps → sizeL ps ≤ 20 → (∀ x ∈ wordsL ps, wOk x = true) ∧ (wordsL ps).length ≤ 3 * sizeL ps ∧ fitsL d ps
  | d, [], _, _ => ⟨fun x hx => (nomatch hx), Nat.le_refl _, by rw [fitsL]; trivial⟩
  | d, c :: r, h, hs => by
    rw [CondsOk] at h
    rw [sizeL] at hs
    obtain ⟨i1, i2, i3⟩ := cond_words hn hr d c h.1 (by omega)
    obtain ⟨j1, j2, j3⟩ := conds_words hn hr d r h.2 (by omega)
    refine ⟨fun x hx => ?_, by rw [wordsL, sizeL, List.length_append]; omega, by rw [fitsL]; exact ⟨i3, j3⟩⟩
    rw [wordsL, List.mem_append] at hx
    rcases hx with e | e
    · exact i1 x e
    · exact j1 x e
end
theorem src_words {ns : List Str} (hn : ∀ x ∈ ns, wOk x = true) {l : Ln} (h : SrcOk ns l) : (∀ x ∈ l.words, wOk x = true) ∧ l.src := by
  cases l with
  | keep => exact h.elim
  | clear => exact h.elim
  | value n =>
    refine ⟨fun x hx => ?_, trivial⟩
    simp only [Ln.words, List.mem_cons, List.not_mem_nil, or_false] at hx
    rcases hx with e | e <;> rw [e]
    · decide +kernel
    · exact hn _ h
  | text t =>
    refine ⟨fun x hx => ?_, trivial⟩
    simp only [Ln.words, List.mem_cons, List.not_mem_nil, or_false] at hx
    rcases hx with e | e <;> rw [e]
    · decide +kernel
    · exact eqT_w h.2 (letters_w h.1)
  | fresh k =>
    have hk : k ≤ 2 := h
    refine ⟨fun x hx => ?_, h⟩
    simp only [Ln.words, List.mem_cons, List.not_mem_nil, or_false] at hx
    rcases hx with e | e <;> rw [e]
    · decide +kernel
    · exact num_w (by omega)
theorem line_words {ns : List Str} (hn : ∀ x ∈ ns, wOk x = true) {l : Ln} (h : LineOk ns l) : (∀ x ∈ l.words, wOk x = true) ∧ l.line := by
  cases l with
  | keep => exact ⟨by decide +kernel, trivial⟩
  | clear => exact ⟨by decide +kernel, trivial⟩
  | value n => exact ⟨(src_words hn (l := .value n) h).1, trivial⟩
  | text t => exact ⟨(src_words hn (l := .text t) h).1, trivial⟩
  | fresh k => exact ⟨(src_words hn (l := .fresh k) h).1, h⟩
theorem lns_words {ls : List Ln} (h : ∀ l ∈ ls, ∀ x ∈ l.words, wOk x = true) : ∀ x ∈ lnsW ls, wOk x = true := fun x hx => by
  rw [lnsW_eq] at hx
  obtain ⟨ws, h1, h2⟩ := List.mem_flatten.mp hx
  obtain ⟨l, h3, rfl⟩ := List.mem_map.mp h1
  exact h l h3 x h2
theorem rule_words {sts rs : List Str} {ks : List (List Str)} {R : Rule} (h : RuleOk sts rs ks R) (hs : ∀ x ∈ sts, isName x = true) (hr : ∀ x ∈ rs, isName x = true) (lr : rs.length ≤ 3) (hk : ∀ k ∈ ks, ∀ x ∈ k, isName x = true) :
    (∀ x ∈ R.words, wOk x = true) ∧ R.words.length ≤ 90 ∧ R.fits rs.length := by
  obtain ⟨a, ⟨vn, e, b, c, d⟩, f, g, hw, i, j, k⟩ := h
  obtain ⟨k0, mk0, ek0⟩ := valsOf_mem e
  have hvn : ∀ x ∈ vn, isName x = true := fun x hx => hk k0 mk0 x (by rw [ek0] at hx; exact List.mem_of_mem_tail hx)
  have hnm : ∀ x ∈ rs ++ vn ++ [("self" : Str)], wOk x = true := fun x hx => by
    rcases List.mem_append.mp hx with z | z
    · rcases List.mem_append.mp z with z | z
      · exact name_w (hr x z)
      · exact name_w (hvn x z)
    · rw [List.mem_singleton] at z
      rw [z]
      decide +kernel
  obtain ⟨c1, c2, c3⟩ := cond_words hnm (fun x hx => name_w (hr x hx)) 6 R.cond b g
  have s1 := lns_words fun l hl => (src_words hnm (c l hl)).1
  have s2 := lns_words fun l hl => (line_words hnm (d l hl)).1
  have l1 := lnsW_len R.srcs
  have l2 := lnsW_len R.turn
  have hkind : wOk R.kind = true := by
    unfold valsOf at e
    rw [Option.map_eq_some_iff] at e
    obtain ⟨k1, h1, h2⟩ := e
    have h3' : decide (hd k1 = R.kind) = true := List.find?_some (p := fun k => decide (hd k = R.kind)) h1
    have h3 := of_decide_eq_true h3'
    have h4 := List.mem_of_find?_eq_some h1
    rw [← h3]
    cases k1 with
    | nil => decide +kernel
    | cons x r => exact name_w (hk _ h4 x List.mem_cons_self)
  have hst : wOk (stW R.st) = true := by
    cases es : R.st with
    | none => decide +kernel
    | some x => exact name_w (hs x (a x es))
  refine ⟨fun x hx => ?_, ?_, c3, i, fun l hl => (src_words hnm (c l hl)).2, j, fun l hl => (line_words hnm (d l hl)).2, fun es => ?_⟩
  · simp only [Rule.words, List.mem_cons, List.mem_append, List.not_mem_nil, or_false] at hx
    rcases hx with e | e | e | e | e | e | e | e | e | e | e | e
    · rw [e]; decide +kernel
    · rw [e]; exact hst
    · rw [e]; exact hkind
    · exact c1 x e
    · rw [e]; decide +kernel
    · rw [e]; exact name_w hw
    · rw [e]; exact num_w (by omega)
    · exact s1 x e
    · rw [e]; decide +kernel
    · exact s2 x e
    · rw [e]; decide +kernel
    · rw [e]; exact name_w (hs _ k)
  · simp only [Rule.words, List.length_cons, List.length_append, List.length_nil]
    omega
  · exact name_dash (hs _ (a _ es)) rfl
def Bnd (n : Nat) (L : List (List Str)) : Prop := L.length ≤ 48 + n ∧ ∀ ws ∈ L, ws.length ≤ 90 + n ∧ ∀ x ∈ ws, wOk x = true
theorem svc_bnd {S : Svc} (h : SvcOk S) : Bnd 0 S.lines ∧ S.fits := by
  obtain ⟨⟨a1, a2⟩, b, c, d, e, f, g, i⟩ := h
  have hk : ∀ k ∈ S.kinds, ∀ x ∈ k, isName x = true := fun k hk => (f.each k hk).names
  have hR := fun R hR => rule_words (i R hR) b.1 d.1 c hk
  refine ⟨⟨?_, fun ws hw => ?_⟩, fun k hk => ?_, fun R hm => (hR R hm).2.2⟩
  · simp only [Svc.lines, List.length_cons, List.length_append, List.length_map]
    have := f.len.2
    omega
  · simp only [Svc.lines, List.mem_cons, List.mem_append, List.mem_map] at hw
    rcases hw with rfl | rfl | ⟨k, mk, rfl⟩ | ⟨R, mR, rfl⟩
    · refine ⟨by rw [List.length_cons]; omega, fun x hx => ?_⟩
      rcases List.mem_cons.mp hx with z | z
      · rw [z]; decide +kernel
      · exact name_w (b.1 x z)
    · refine ⟨by rw [List.length_cons]; omega, fun x hx => ?_⟩
      rcases List.mem_cons.mp hx with z | z
      · rw [z]; decide +kernel
      · exact name_w (d.1 x z)
    · refine ⟨by rw [List.length_cons]; have := (f.each k mk).len.2; omega, fun x hx => ?_⟩
      rcases List.mem_cons.mp hx with z | z
      · rw [z]; decide +kernel
      · exact name_w (hk k mk x z)
    · exact ⟨by have := (hR R mR).2.1; omega, (hR R mR).1⟩
  · intro z
    have z2 := (f.each k hk).len.1
    rw [z] at z2
    exact absurd z2 (by decide)
/-! ### texts -/
def textOf (L : List (List Str)) : Str := Txt.join nln (L.map (Txt.join spc))
theorem textOf_words (t : Str) : textOf (wordsOf t) = t := by
  unfold textOf wordsOf
  rw [List.map_map, show ((Txt.join spc) ∘ fun l => Txt.split l spc) = id from funext fun l => join_split tl_spc spc_ok, List.map_id]
  exact join_split tl_nln nln_ok
theorem joinL_mem {S : List Nat} : ∀ {ps : List (List Nat)} {c : Nat}, c ∈ joinL S ps → (∃ p ∈ ps, c ∈ p) ∨ c ∈ S
  | [], c, h => nomatch h
  | [a], c, h => .inl ⟨a, List.mem_cons_self, h⟩
  | a :: b :: r, c, h => by
    have h2 : c ∈ a ++ (S ++ joinL S (b :: r)) := h
    rcases List.mem_append.mp h2 with z | z
    · exact .inl ⟨a, List.mem_cons_self, z⟩
    · rcases List.mem_append.mp z with z | z
      · exact .inr z
      · rcases joinL_mem z with ⟨p, hp, hc⟩ | z
        · exact .inl ⟨p, List.mem_cons_of_mem _ hp, hc⟩
        · exact .inr z
theorem wOk_ch {x : Str} (h : wOk x = true) {c : Nat} (hc : c ∈ tl x) : c ≠ 32 ∧ c ≠ 10 ∧ c < 1114112 := by
  unfold wOk at h
  rw [Bool.and_eq_true, List.all_eq_true] at h
  have z := h.2 c hc
  unfold wch at z
  rw [Bool.and_eq_true, Bool.and_eq_true, decide_eq_true_eq, decide_eq_true_eq, decide_eq_true_eq] at z
  exact ⟨z.1.1, z.1.2, z.2⟩
theorem wOk_len {x : Str} (h : wOk x = true) : x.length ≤ 13 := by
  unfold wOk at h
  rw [Bool.and_eq_true, decide_eq_true_eq] at h
  exact h.1
theorem line_ch {ws : List Str} (h : ∀ x ∈ ws, wOk x = true) {c : Nat} (hc : c ∈ tl (Txt.join spc ws)) : c ≠ 10 ∧ c < 1114112 := by
  rw [join_eq, tl_join] at hc
  rcases joinL_mem hc with ⟨p, hp, hc⟩ | z
  · obtain ⟨x, hx, rfl⟩ := List.mem_map.mp hp
    have z := wOk_ch (h x hx) hc
    exact ⟨z.2.1, z.2.2⟩
  · rw [tl_spc, List.mem_singleton] at z
    rw [z]
    decide
theorem words_textOf {L : List (List Str)} (hL : L ≠ []) (hw : ∀ ws ∈ L, ws ≠ [] ∧ ∀ x ∈ ws, wOk x = true) : wordsOf (textOf L) = L := by
  unfold wordsOf textOf
  have e : Txt.split (Txt.join nln (L.map (Txt.join spc))) nln = L.map (Txt.join spc) := by
    refine TL.split_join (S := []) tl_nln nln_ok (by simpa using hL) fun p hp => ?_
    obtain ⟨ws, h1, rfl⟩ := List.mem_map.mp hp
    exact fun z => (line_ch (hw ws h1).2 z).1 rfl
  rw [e, List.map_map]
  have e2 : ∀ ws ∈ L, ((fun l => Txt.split l spc) ∘ Txt.join spc) ws = ws := fun ws h1 =>
    TL.split_join (S := []) tl_spc spc_ok (hw ws h1).1 fun p hp z => (wOk_ch ((hw ws h1).2 p hp) z).1 rfl
  rw [List.map_congr_left e2, List.map_id']
theorem joinL_max {s m : Nat} : ∀ (ps : List (List Nat)), (∀ p ∈ ps, p.length ≤ m) → (joinL [s] ps).length ≤ ps.length * (m + 1)
  | [], _ => Nat.zero_le _
  | [a], h => by
    have z := h a List.mem_cons_self
    show a.length ≤ _
    simp
    omega
  | a :: b :: r, h => by
    have z := h a List.mem_cons_self
    have z2 := joinL_max (s := s) (b :: r) fun p hp => h p (List.mem_cons_of_mem _ hp)
    show (a ++ ([s] ++ joinL [s] (b :: r))).length ≤ _
    rw [List.length_append, List.length_append, List.length_cons (as := b :: r), Nat.add_mul]
    simp at z2 ⊢
    omega
theorem join_max {y : Str} {s m : Nat} (ey : tl y = [s]) {ws : List Str} (h : ∀ x ∈ ws, x.length ≤ m) : (Txt.join y ws).length ≤ ws.length * (m + 1) := by
  rw [len_tl, join_eq, tl_join, ey]
  have z := joinL_max (s := s) (m := m) (ws.map tl) fun p hp => by
    obtain ⟨x, hx, rfl⟩ := List.mem_map.mp hp
    rw [← len_tl]
    exact h x hx
  rw [List.length_map] at z
  exact z
theorem line_max {n : Nat} (hn : n ≤ 10) {ws : List Str} (h : ws.length ≤ 90 + n ∧ ∀ x ∈ ws, wOk x = true) : (Txt.join spc ws).length ≤ 1400 := by
  have z := join_max (m := 13) tl_spc (ws := ws) fun x hx => wOk_len (h.2 x hx)
  have z2 : ws.length * (13 + 1) ≤ 100 * 14 := Nat.mul_le_mul (by omega) (by omega)
  omega
theorem bnd_ok {n : Nat} {L : List (List Str)} (hn : n ≤ 10) (h : Bnd n L) : okText (textOf L) := by
  refine ⟨?_, ?_⟩
  · unfold textOf
    have z := join_max (m := 1400) tl_nln (ws := L.map (Txt.join spc)) fun x hx => by
      obtain ⟨ws, h1, rfl⟩ := List.mem_map.mp hx
      exact line_max hn (h.2 ws h1)
    rw [List.length_map] at z
    have z2 : L.length * (1400 + 1) ≤ 58 * 1401 := Nat.mul_le_mul (by have := h.1; omega) (by omega)
    omega
  · rw [strOk_tl, List.all_eq_true]
    intro c hc
    unfold textOf at hc
    rw [join_eq, tl_join] at hc
    rw [decide_eq_true_eq]
    rcases joinL_mem hc with ⟨p, hp, hc⟩ | z
    · obtain ⟨l, hl, rfl⟩ := List.mem_map.mp hp
      obtain ⟨ws, h1, rfl⟩ := List.mem_map.mp hl
      exact (line_ch (h.2 ws h1).2 hc).2
    · rw [tl_nln, List.mem_singleton] at z
      rw [z]
      decide
end L2.Ta

set_option maxHeartbeats 4000000
/-! the law's lines and texts -/
namespace L2.Ta
open PySem PySem.Spec PyProof.Rows L2 TL
def LineAt (dk : Addr) (H : Hp) (ws : List Str) (u : V) : Prop := ∃ q, u = .ref q ∧ H q = some (.lst (ws.map V.str)) ∧ q ≠ dk
def LinesAt (dk : Addr) (H : Hp) (L : List (List Str)) (v : V) : Prop := ∃ p us, v = .ref p ∧ H p = some (.lst us) ∧ p ≠ dk ∧ Paired (LineAt dk H) L us
theorem LineAt.keep {dk : Addr} {H H' : Hp} (k : KeepD dk H H') {ws : List Str} {u : V} (h : LineAt dk H ws u) : LineAt dk H' ws u := by
  obtain ⟨q, e, h, n⟩ := h
  exact ⟨q, e, k.lst h n, n⟩
theorem LinesAt.keep {dk : Addr} {H H' : Hp} (k : KeepD dk H H') {L : List (List Str)} {v : V} (h : LinesAt dk H L v) : LinesAt dk H' L v := by
  obtain ⟨p, us, e, h, n, hp⟩ := h
  exact ⟨p, us, e, k.lst h n, n, Paired.keepR (fun _ _ => LineAt.keep k) hp⟩
theorem lines_ne {S : Svc} : ∀ ws ∈ S.lines, ws ≠ [] := fun ws hw z => by
  subst z
  simp only [Svc.lines, List.mem_cons, List.mem_append, List.mem_map] at hw
  rcases hw with z | z | ⟨k, _, z⟩ | ⟨R, _, z⟩
  · cases z
  · cases z
  · cases z
  · rw [Rule.words] at z
    cases z
theorem svc_words {S : Svc} (h : SvcOk S) : wordsOf (textOf S.lines) = S.lines := words_textOf (by simp [Svc.lines]) fun ws hw => ⟨lines_ne ws hw, fun x hx => ((svc_bnd h).1.2 ws hw).2 x hx⟩
theorem svc_lens {S : Svc} (h : SvcOk S) : S.small ∧ S.fits ∧ ∀ R ∈ S.rules, R.words.length ≤ 1000000 := by
  obtain ⟨b, f⟩ := svc_bnd h
  refine ⟨svc_small (bnd_ok (by decide) b) (svc_words h), f, fun R hR => ?_⟩
  have z := (b.2 R.words (by simp only [Svc.lines, List.mem_cons, List.mem_append, List.mem_map]; exact .inr (.inr (.inr ⟨R, hR, rfl⟩)))).1
  omega
theorem svc_read {S : Svc} (h : SvcOk S) : psvc (wordsOf (textOf S.lines)) = some S := by
  rw [svc_words h]
  exact svc_ok (svc_bnd h).2
/-- [te for x in list]: what is made are new lists -/
theorem nl_lc {H : Hp} {a : Addr} {xs : List V} {σ : L2.St} {vs : List Nat} {j : Nat} {te : TE} {D : Addr} {Qd : Hp → Prop} {K : PySem.W.Frag} (f : Nat → List Str) (ha : H a = some (.lst xs)) (hn : xs.length ≤ 1000000) (hD : H D = none)
    (hw : ∀ x, wipe ((wipe σ vs).set j (some x)) vs = wipe σ vs)
    (hte : ∀ i x H1 (Q1 : VK), xs[i]? = some x → KeepI H H1 → (∀ p H2, KeepI H1 H2 → H1 p = none → H2 p = some (.lst ((f i).map V.str)) → Q1 (.ref p) H2) → te ((wipe σ vs).set j (some x)) H1 Q1)
    (hQ : ∀ us H', KeepI H H' → H' D = some (.lst us) → us.length = xs.length → (∀ i u, us[i]? = some u → ∃ q, u = .ref q ∧ H' q = some (.lst ((f i).map V.str)) ∧ H q = none) → Qd H') :
    ∃ W : Nat → Nat → Hp → Prop, (∃ m, W 0 m (upd H D (.lst []))) ∧ ∀ i m H, W i m H →
      ((Itl K a).stop i H ∧ Qd H) ∨ ((Itl K a).go i H ∧ ∃ Nx : Hp → Prop, (∀ H', Nx H' → ∃ m', m' < m ∧ W (i + 1) m' H') ∧ ∀ x H', (Itl K a).yld i H x H' → gName j x (wipe σ vs) H' fun σ2 H2 => wipe σ2 vs = wipe σ vs ∧ tYes σ2 H2 fun b H3 =>
        if b = true then te σ2 H3 fun y H4 => ∃ acc, H4 D = some (.lst acc) ∧ acc.length < sizeLine ∧ Nx (upd H4 D (.lst (acc ++ [y]))) else Nx H3) := by
  refine lc_list (g := gName j) (tt := tYes) (fun i H' => ∃ us : List V, KeepI H H' ∧ H' D = some (.lst us) ∧ us.length = i ∧ ∀ i u, us[i]? = some u → ∃ q, u = .ref q ∧ H' q = some (.lst ((f i).map V.str)) ∧ H q = none ∧ q ≠ D) ⟨[], KeepI.new hD, upd_same, rfl, fun i u h => by simp at h⟩ (fun i H' _ ⟨us, k, _⟩ => SqL.of (k a _ ha rfl))
    (fun i x H1 hx ⟨us, k, hu, lu, ru⟩ => ?_) (fun H' ⟨us, k, hu, lu, ru⟩ => hQ us H' k hu lu fun i u h => by
      obtain ⟨q, e1, e2, e3, _⟩ := ru i u h
      exact ⟨q, e1, e2, e3⟩)
  refine ⟨hw _, ?_⟩
  refine hte i x H1 _ hx k fun p H2 k2 np hp => ?_
  have hi := (List.getElem?_eq_some_iff.mp hx).1
  have hu2 := k2 D _ hu rfl
  have nD : p ≠ D := fun z => by rw [z, hu] at np; cases np
  refine ⟨us, hu2, by rw [sizeLine_eq]; omega, us ++ [.ref p], (k.trans k2).mut hD, upd_same, by simp [lu], fun i2 u2 h2 => ?_⟩
  by_cases c : i2 < us.length
  · rw [List.getElem?_append_left c] at h2
    obtain ⟨q, e1, e2, e3, e4⟩ := ru i2 u2 h2
    exact ⟨q, e1, by rw [upd_ne e4]; exact k2 q _ e2 rfl, e3, e4⟩
  · rw [List.getElem?_append_right (by omega)] at h2
    have e0 : i2 - us.length = 0 := by
      rcases Nat.eq_zero_or_pos (i2 - us.length) with z | z
      · exact z
      · rw [List.getElem?_eq_none (by simp; omega)] at h2
        cases h2
    rw [e0] at h2
    have e1 : i2 = i := by omega
    cases (show some (V.ref p) = some u2 from h2)
    rw [e1]
    exact ⟨p, rfl, by rw [upd_ne nD]; exact hp, k.fresh np, nD⟩
theorem lines_of {dk : Addr} {H : Hp} {L : List (List Str)} {us : List V} (lu : us.length = L.length) (h : ∀ (i : Nat) u, us[i]? = some u → ∃ ws, L[i]? = some ws ∧ LineAt dk H ws u) : Paired (LineAt dk H) L us := by
  induction L generalizing us with
  | nil =>
    cases us with
    | nil => exact .nil
    | cons a b => cases lu
  | cons x L ih =>
    cases us with
    | nil => cases lu
    | cons a b =>
      obtain ⟨ws, e, hl⟩ := h 0 a rfl
      cases e
      exact .cons hl (ih (Nat.succ.inj lu) fun i u hu => h (i + 1) u hu)
def spLs : Sp := fun vs H Q _ => ∃ (p l1 l2 l3 l4 : Addr) (us ws : List V) (S : Svc) (dk : Addr), vs = [.ref p] ∧ H p = some (.tup [.ref l1, .ref l2, .ref l3, .ref l4]) ∧ Parts H S l1 l2 l3 l4 us ws ∧ SvcOk S ∧ H dk ≠ none ∧ ∀ v H', KeepI H H' → LinesAt dk H' S.lines v → Q v H'
theorem Paired.app {α : Type} {R : α → V → Prop} : ∀ {xs ys : List α} {us vs : List V}, Paired R xs us → Paired R ys vs → Paired R (xs ++ ys) (us ++ vs)
  | _, _, _, _, .nil, h => h
  | _, _, _, _, .cons a b, h => .cons a (Paired.app b h)
section
variable {P : Program} {w : World} {K : PySem.W.Frag} {mg : Str → Option Value} {base : Heap}
theorem pe_joinK {X : Cx} {K : PySem.W.Frag} (hK : X.K = K) {o e : Expr} {to te : TE} {apos pos : Pos} (ho : PE X o to) (he : PE X e te) (hs : starEach [e] X.env = [(false, eval e X.env)] := by rfl) (hbase : attributeBase o "join" X.env (eval o X.env) = eval o X.env := by rfl) (hline : (apos.endLine == pos.line) = true := by rfl) :
    PE X (.Call (.Attribute o "join" apos) [e] [] pos) (tM1 (fun x xs H Q => ∃ a p, ∃ ys : List Str, x = .str a ∧ xs = [.ref p] ∧ (SqL K H p (ys.map V.str) ∨ SqT K H p (ys.map V.str)) ∧ (ys.map (·.length)).sum + ys.length * a.length ≤ 16777216 ∧ Q (.str (Txt.join a ys)) H) to te) := by
  subst hK
  exact pe_join ho he hs hbase hline
theorem sc__law_lines : FnScope ["_law_service_here", "_law_lines_here", "_law_kind", "_law_rule_here"] ["_law_service_here"] (defScope (top 77)) := ⟨rfl, rfl, rfl, by decide +kernel, rfl, by decide +kernel, by decide +kernel⟩
theorem ok_lines (T : Tx w K mg) : Ok1 P w K mg base CX0 9 "_law_lines" ["_law_service_here"] spLs := by
  have sc := sc__law_lines
  have F__law_line_of_rule := ok_lr (P := P) (base := base) T
  refine ok1_of T.glo (T.def_ 62) sc (fun vs H Q E h => ?_) (fun _ _ _ _ _ _ us hl => match us, hl with | [_], _ => rfl) (fun cdv A outer s H vs Q E hr h => ?_)
  · obtain ⟨p, l1, l2, l3, l4, us, ws, S, dk, rfl, _⟩ := h
    rfl
  have hr__law_line_of_rule := hr
  refine ⟨_, PSs.nox (pss_cons (ps_set (i := 1) sc.nd rfl (by first | exact Or.inl rfl | exact Or.inr rfl) (pe_lst (pa_cons (pe_op op_cat (pe_lst (pa_cons pe_str pa_nil)) (pe_ix ix_tup (pv 0) pe_int (fun _ _ => rfl))) (pa_cons (pe_op op_cat (pe_lst (pa_cons pe_str pa_nil)) (pe_ix ix_tup (pv 0) pe_int (fun _ _ => rfl))) pa_nil))))
    (pss_cons (ps_set (i := 1) sc.nd rfl (by first | exact Or.inl rfl | exact Or.inr rfl) (pe_op op_cat (pv 1) (pe_lc (own := [("_law_kind", 2)]) (g := gName 2) rfl sc.nd (pi_list (pe_ix ix_tup (pv 0) pe_int (fun _ _ => rfl))) (blkOk_by (own := [("_law_kind", 2)]) (N := ["_law_service_here", "_law_lines_here", "_law_kind", "_law_rule_here"]) (sc := defScope (top 77)) (by decide +kernel)) (fun _ _ _ _ _ => pg_name (i := 2) sc.nd rfl (Or.inl rfl)) (fun _ _ _ _ _ => pts_nil) (fun _ _ _ _ _ => (pe_op op_cat (pe_lst (pa_cons pe_str pa_nil)) (pe_callTy (show CallR _ (.type "list") (fun xs H Q => ∃ p ys, xs = [V.ref p] ∧ (SqL K H p ys ∨ SqT K H p ys) ∧ ∀ l, H l = none → Q (V.ref l) (upd H l (.lst ys))) from call_list_of) (by rfl) T.free (by decide +kernel) (pa_cons (pv 2) pa_nil)))))))
    (pss_one (ps_ret (pe_op op_cat (pv 1) (pe_lc (own := [("_law_rule_here", 3)]) (g := gName 3) rfl sc.nd (pi_list (pe_ix ix_tup (pv 0) pe_int (fun _ _ => rfl))) (blkOk_by (own := [("_law_rule_here", 3)]) (N := ["_law_service_here", "_law_lines_here", "_law_kind", "_law_rule_here"]) (sc := defScope (top 77)) (by decide +kernel)) (fun _ _ _ _ _ => pg_name (i := 3) sc.nd rfl (Or.inl rfl)) (fun _ _ _ _ _ => pts_nil) (fun _ _ _ _ _ => (pe_f F__law_line_of_rule hr__law_line_of_rule pass0 (pa_cons (pv 3) pa_nil))))))))), ?_⟩
  obtain ⟨p, l1, l2, l3, l4, us, ws, S, dk, rfl, hp, hP, hok, hdk, hQ⟩ := h
  obtain ⟨sm, hf, lR⟩ := svc_lens hok
  have ne_dk : ∀ q, H q = none → q ≠ dk := fun q h z => hdk (by rw [← z]; exact h)
  have s1 := hok.stations.2
  have s2 := hok.registers
  have s3 := hok.kinds.len.2
  have s4 := hok.rules
  have lus := Paired.length hP.k3
  have lws := Paired.length hP.k4
  -- the first two lines
  refine ⟨by show 1 ≤ sizeLine; decide, fun a1 na1 => ?_⟩
  have k1 : KeepI H (upd H a1 (.lst [.str "stations"])) := KeepI.new na1
  refine ⟨_, rfl, p, _, 0, .ref l1, rfl, rfl, SqT.of (k1.tup p _ hp), at_of (j := 0) rfl rfl, a1, l1, _, _, rfl, rfl, upd_same, k1 l1 _ hP.h1 rfl, by rw [List.length_map, sizeLine_eq]; simp; omega, fun a2 na2 => ?_⟩
  have k2 := k1.trans (KeepI.new (o := .lst ([.str "stations"] ++ S.stations.map V.str)) na2)
  have n2 := k1.fresh na2
  have h2 : upd (upd H a1 (.lst [.str "stations"])) a2 (.lst ([.str "stations"] ++ S.stations.map V.str)) a2 = some (.lst ((("stations" : Str) :: S.stations).map V.str)) := upd_same
  generalize upd (upd H a1 (.lst [.str "stations"])) a2 (.lst ([.str "stations"] ++ S.stations.map V.str)) = H2 at k2 h2
  refine ⟨by show 1 ≤ sizeLine; decide, fun a3 na3 => ?_⟩
  have k3 : KeepI H2 (upd H2 a3 (.lst [.str "registers"])) := KeepI.new na3
  have k23 := k2.trans k3
  refine ⟨_, rfl, p, _, 1, .ref l2, rfl, rfl, SqT.of (k23.tup p _ hp), at_of (j := 1) rfl rfl, a3, l2, _, _, rfl, rfl, upd_same, k23 l2 _ hP.h2 rfl, by rw [List.length_map, sizeLine_eq]; simp; omega, fun a4 na4 => ?_⟩
  have k4 := k3.trans (KeepI.new (o := .lst ([.str "registers"] ++ S.registers.map V.str)) na4)
  have n4 := k23.fresh na4
  have h4 : upd (upd H2 a3 (.lst [.str "registers"])) a4 (.lst ([.str "registers"] ++ S.registers.map V.str)) a4 = some (.lst ((("registers" : Str) :: S.registers).map V.str)) := upd_same
  have h24 := k4 a2 _ h2 rfl
  generalize upd (upd H2 a3 (.lst [.str "registers"])) a4 (.lst ([.str "registers"] ++ S.registers.map V.str)) = H4 at k4 h4 h24
  refine ⟨by show 2 ≤ sizeLine; decide, fun a5 na5 => ?_⟩
  have k5 := (k2.trans k4).trans (KeepI.new (o := .lst [.ref a2, .ref a4]) na5)
  have kk5 : KeepI H4 (upd H4 a5 (.lst [.ref a2, .ref a4])) := KeepI.new na5
  have h5 : upd H4 a5 (.lst [.ref a2, .ref a4]) a5 = some (.lst [.ref a2, .ref a4]) := upd_same
  have h25 := kk5 a2 _ h24 rfl
  have h45 := kk5 a4 _ h4 rfl
  generalize upd H4 a5 (.lst [.ref a2, .ref a4]) = H5 at k5 h5 h25 h45
  clear kk5 na5 k4 h4 h24 na4 k23 k3 na3 k2 h2 na2 k1 na1
  -- the kinds
  refine ⟨_, rfl, _, rfl, p, _, 2, .ref l3, rfl, rfl, SqT.of (k5.tup p _ hp), at_of (j := 2) rfl rfl, l3, rfl, ⟨_, SqL.of (k5 l3 _ hP.h3 rfl)⟩, fun D hD => ?_⟩
  refine nl_lc (fun i => ("request" : Str) :: (S.kinds[i]?).getD []) (k5 l3 _ hP.h3 rfl) (by omega) hD (fun _ => rfl) (fun i x H1 Q1 hx k q => ?_) (fun ks H6 k6 hD6 lks hks => ?_)
  · obtain ⟨y, e1, ⟨pk, e2, e3⟩⟩ := Paired.at_ hP.k3 i x hx
    subst e2
    have ly := (hok.kinds.each y (List.mem_of_getElem? e1)).len.2
    refine ⟨by show 1 ≤ sizeLine; decide, fun b1 nb1 => ?_⟩
    have j1 := KeepI.new (o := .lst [.str "request"]) nb1
    refine ⟨_, rfl, pk, _, rfl, .inr (SqT.of (((k5.trans k).trans j1).tup pk _ e3)), fun b2 nb2 => ?_⟩
    have j2 := j1.trans (KeepI.new (o := .lst (y.map V.str)) nb2)
    refine ⟨b1, b2, _, _, rfl, rfl, KeepI.new nb2 b1 _ upd_same rfl, upd_same, by rw [List.length_map, sizeLine_eq]; simp; omega, fun b3 nb3 => ?_⟩
    refine q b3 _ (j2.trans (KeepI.new nb3)) (j2.fresh nb3) ?_
    rw [upd_same, e1]
    rfl
  have hk6 : Paired (LineAt dk H6) (S.kinds.map fun k => ("request" : Str) :: k) ks := lines_of (by rw [lks, List.length_map]; omega) fun i u hu => by
    obtain ⟨q, e1, e2, e3⟩ := hks i u hu
    have hi : i < S.kinds.length := by
      have z := (List.getElem?_eq_some_iff.mp hu).1
      omega
    have e4 : S.kinds[i]? = some S.kinds[i] := by simp [hi]
    rw [e4] at e2
    exact ⟨("request" : Str) :: S.kinds[i], by simp [hi], q, e1, e2, ne_dk q (k5.fresh e3)⟩
  refine ⟨a5, D, _, _, rfl, rfl, k6 a5 _ h5 rfl, hD6, by rw [sizeLine_eq]; simp; omega, fun a6 na6 => ?_⟩
  have k67 := k6.trans (KeepI.new (o := .lst ([.ref a2, .ref a4] ++ ks)) na6)
  have k7 := k5.trans k67
  have h7 : upd H6 a6 (.lst ([.ref a2, .ref a4] ++ ks)) a6 = some (.lst ([.ref a2, .ref a4] ++ ks)) := upd_same
  have h27 := k67 a2 _ h25 rfl
  have h47 := k67 a4 _ h45 rfl
  have hk7 : Paired (LineAt dk (upd H6 a6 (.lst ([.ref a2, .ref a4] ++ ks)))) (S.kinds.map fun k => ("request" : Str) :: k) ks := Paired.keepR (fun _ _ => LineAt.keep (KeepG.new na6)) hk6
  generalize upd H6 a6 (.lst ([.ref a2, .ref a4] ++ ks)) = H7 at k7 h7 h27 h47 hk7
  clear hk6 k67 na6 k6 hD6 hks h5 h25 h45 k5
  -- the rules
  refine ⟨_, rfl, _, rfl, p, _, 3, .ref l4, rfl, rfl, SqT.of (k7.tup p _ hp), at_of (j := 3) rfl rfl, l4, rfl, ⟨_, SqL.of (k7 l4 _ hP.h4 rfl)⟩, fun D2 hD2 => ?_⟩
  refine nl_lc (fun i => match S.rules[i]? with | some R => R.words | none => []) (k7 l4 _ hP.h4 rfl) (by omega) hD2 (fun _ => rfl) (fun i x H1 Q1 hx k q => ?_) (fun rus H8 k8 hD8 lrs hrs => ?_)
  · obtain ⟨R, e1, e2⟩ := Paired.at_ hP.k4 i x hx
    have mR := List.mem_of_getElem? e1
    refine ⟨_, rfl, R, x, _, rfl, e2.keep (k7.trans k).tup, hf.rules R mR, sm.rl, sm.ru R mR, lR R mR, fun q1 H2 k2 nq hq => q q1 H2 k2 nq ?_⟩
    rw [hq, e1]
  have hr8 : Paired (LineAt dk H8) (S.rules.map Rule.words) rus := lines_of (by rw [lrs, List.length_map]; omega) fun i u hu => by
    obtain ⟨q, e1, e2, e3⟩ := hrs i u hu
    have hi : i < S.rules.length := by
      have z := (List.getElem?_eq_some_iff.mp hu).1
      omega
    have e4 : S.rules[i]? = some S.rules[i] := by simp [hi]
    rw [e4] at e2
    exact ⟨S.rules[i].words, by simp [hi], q, e1, e2, ne_dk q (k7.fresh e3)⟩
  refine ⟨a6, D2, _, _, rfl, rfl, k8 a6 _ h7 rfl, hD8, by rw [sizeLine_eq]; simp; omega, fun a9 na9 => ?_⟩
  have kf := KeepI.new (o := .lst ([.ref a2, .ref a4] ++ ks ++ rus)) na9
  have k89 : KeepI H7 _ := k8.trans kf
  refine hQ _ _ (k7.trans k89) ⟨a9, _, rfl, upd_same, ne_dk a9 ((k7.trans k8).fresh na9), ?_⟩
  refine .cons ⟨a2, rfl, k89 a2 _ h27 rfl, ne_dk a2 n2⟩ (.cons ⟨a4, rfl, k89 a4 _ h47 rfl, ne_dk a4 n4⟩ (Paired.app (Paired.keepR (fun _ _ => LineAt.keep k89.g) hk7) (Paired.keepR (fun _ _ => LineAt.keep kf.g) hr8)))
end
end L2.Ta

set_option maxHeartbeats 4000000
/-! the law's texts, the service's parts -/
namespace L2.Ta
open PySem PySem.Spec PyProof.Rows L2 TL
def JOk (L : List (List Str)) : Prop := L.length ≤ 1000000 ∧ (∀ ws ∈ L, (ws.map (·.length)).sum + ws.length ≤ 1000000) ∧ ((L.map (Txt.join spc)).map (·.length)).sum + L.length ≤ 1000000
theorem joinL_sum {s : Nat} : ∀ {ps : List (List Nat)}, ps ≠ [] → (joinL [s] ps).length + 1 = (ps.map List.length).sum + ps.length
  | [], h => (h rfl).elim
  | [a], _ => by
    show a.length + 1 = _
    simp
  | a :: b :: r, _ => by
    have z := joinL_sum (s := s) (ps := b :: r) (by simp)
    show (a ++ ([s] ++ joinL [s] (b :: r))).length + 1 = _
    rw [List.length_append, List.length_append, List.map_cons, List.sum_cons, List.length_cons (as := b :: r)]
    simp only [List.length_cons, List.length_nil] at z ⊢
    omega
theorem join_sum {y : Str} {s : Nat} (ey : tl y = [s]) {ws : List Str} (h : ws ≠ []) : (Txt.join y ws).length + 1 = (ws.map (·.length)).sum + ws.length := by
  rw [len_tl, join_eq, tl_join, ey, joinL_sum (by simpa using h), List.map_map, List.length_map]
  refine congrArg (· + ws.length) (congrArg List.sum (List.map_congr_left fun x _ => ?_))
  exact (len_tl x).symm
theorem jok_of {L : List (List Str)} (h1 : ∀ ws ∈ L, (Txt.join spc ws).length ≤ 900000) (h2 : (textOf L).length ≤ 900000) : JOk L := by
  have h3 : ((L.map (Txt.join spc)).map (·.length)).sum + L.length ≤ 900001 := by
    by_cases c : L = []
    · rw [c]
      decide
    · have z := join_sum tl_nln (ws := L.map (Txt.join spc)) (by simpa using c)
      rw [List.length_map] at z
      unfold textOf at h2
      omega
  refine ⟨by omega, fun ws hw => ?_, by omega⟩
  by_cases c : ws = []
  · rw [c]
    decide
  · have z := join_sum tl_spc c
    have z2 := h1 ws hw
    omega
theorem jok_text {t : Str} (h : okText t) : JOk (wordsOf t) := jok_of (fun ws hw => by
  unfold wordsOf at hw
  obtain ⟨l, hl, rfl⟩ := List.mem_map.mp hw
  rw [join_split tl_spc spc_ok]
  exact (lines_ok h hl).1) (by rw [textOf_words]; exact h.1)
theorem jok_bnd {n : Nat} {L : List (List Str)} (hn : n ≤ 10) (h : Bnd n L) : JOk L := jok_of (fun ws hw => by have := line_max hn (h.2 ws hw); omega) (bnd_ok hn h).1
def spTO : Sp := fun vs H Q _ => ∃ (L : List (List Str)) (v : V) (dk : Addr), vs = [v] ∧ LinesAt dk H L v ∧ JOk L ∧ ∀ H', KeepI H H' → Q (.str (textOf L)) H'
def spGet (f : Addr → Addr → Addr → Addr → Addr) (K : PySem.W.Frag) : Sp := fun vs H Q _ => ∃ (a dx l1 l2 l3 l4 : Addr) (xs : List V), vs = [.ref a] ∧ H a = some (.ins (He.ga K "Service") dx (sFs l1 l2 l3 l4)) ∧ H (f l1 l2 l3 l4) = some (.lst xs) ∧ ∀ p H', KeepI H H' → H' p = some (.lst xs) → Q (.ref p) H'
def spPt (K : PySem.W.Frag) : Sp := fun vs H Q _ => ∃ (v : V) (S : Svc), vs = [v] ∧ SvcAt K H S v ∧ ∀ p l1 l2 l3 l4 us ws H', KeepI H H' → H' p = some (.tup [.ref l1, .ref l2, .ref l3, .ref l4]) → Parts H' S l1 l2 l3 l4 us ws → Q (.ref p) H'
section
variable {P : Program} {w : World} {K : PySem.W.Frag} {mg : Str → Option Value} {base : Heap}
theorem sc__law_text_of : FnScope ["_law_lines_here", "_law_line_here"] ["_law_lines_here"] (defScope (top 78)) := ⟨rfl, rfl, rfl, by decide +kernel, rfl, by decide +kernel, by decide +kernel⟩
theorem ok_text_of (T : Tx w K mg) : Ok1 P w K mg base CX0 1 "_law_text_of" ["_law_lines_here"] spTO := by
  have sc := sc__law_text_of
  refine ok1_of T.glo (T.def_ 63) sc (fun vs H Q E h => ?_) (fun _ _ _ _ _ _ us hl => match us, hl with | [_], _ => rfl) (fun cdv A outer s H vs Q E hr h => ?_)
  · obtain ⟨L, v, dk, rfl, _⟩ := h
    rfl
  refine ⟨_, PSs.nox (pss_one (ps_ret (pe_join pe_str (pe_lc (own := [("_law_line_here", 1)]) (g := gName 1) rfl sc.nd (pi_list (pv 0)) (blkOk_by (own := [("_law_line_here", 1)]) (N := ["_law_lines_here", "_law_line_here"]) (sc := defScope (top 78)) (by decide +kernel)) (fun _ _ _ _ _ => pg_name (i := 1) sc.nd rfl (Or.inl rfl)) (fun _ _ _ _ _ => pts_nil) (fun _ _ _ _ _ => (pe_joinK (K := K) rfl pe_str (pv 1))))))), ?_⟩
  obtain ⟨L, v, dk, rfl, ⟨p, us, rfl, hp, ndk, hL⟩, ⟨j1, j2, j3⟩, hQ⟩ := h
  have lus := Paired.length hL
  refine ⟨⟨_, rfl⟩, _, rfl, p, rfl, ⟨_, SqL.of hp⟩, fun D hD => ?_⟩
  refine seq_lc (walk_list (a := p) (xs := us)) (S := fun _ => False) (R := fun i v H => ∃ ws, L[i]? = some ws ∧ v = .str (Txt.join spc ws)) (fun _ _ _ _ _ z => z) (by omega) hD id (fun H2 k => SqL.of (k.w p _ hp rfl)) (fun _ => rfl)
    (fun i x H2 Q1 hx k q => ?_) (fun H2 vs2 k2 hvs lvs hr2 => ?_)
  · obtain ⟨ws, e1, ⟨q1, e2, e3, _⟩⟩ := Paired.at_ hL i x hx
    subst e2
    have z := j2 ws (List.mem_of_getElem? e1)
    refine ⟨⟨_, rfl⟩, _, rfl, " ", q1, ws, rfl, rfl, .inl (SqL.of (k.w q1 _ e3 rfl)), ?_, q _ _ (KeepG.refl H2) ⟨ws, e1, rfl⟩⟩
    rw [show (" " : Str).length = 1 by decide +kernel]
    omega
  · have ev : vs2 = (L.map (Txt.join spc)).map V.str := by
      rw [List.map_map]
      refine map_of_at (by omega) fun i u y h1 h2 => ?_
      obtain ⟨y2, h3, h4⟩ := hr2 i u h1
      rw [h2] at h3
      cases h3
      exact h4
    subst ev
    refine ⟨"\n", D, L.map (Txt.join spc), rfl, rfl, .inl (SqL.of hvs), ?_, hQ H2 k2.w⟩
    rw [show ("\n" : Str).length = 1 by decide +kernel, List.length_map]
    omega
theorem sc_Service_stations : FnScope ["self"] ["self"] (defScope (inClass (top 52) 1)) := ⟨rfl, rfl, rfl, by decide +kernel, rfl, by decide +kernel, by decide +kernel⟩
theorem sc_Service_registers : FnScope ["self"] ["self"] (defScope (inClass (top 52) 2)) := ⟨rfl, rfl, rfl, by decide +kernel, rfl, by decide +kernel, by decide +kernel⟩
theorem sc_Service_requests : FnScope ["self"] ["self"] (defScope (inClass (top 52) 3)) := ⟨rfl, rfl, rfl, by decide +kernel, rfl, by decide +kernel, by decide +kernel⟩
theorem sc_Service_rules : FnScope ["self"] ["self"] (defScope (inClass (top 52) 4)) := ⟨rfl, rfl, rfl, by decide +kernel, rfl, by decide +kernel, by decide +kernel⟩
theorem sc__law_parts : FnScope ["_law_service_here"] ["_law_service_here"] (defScope (top 81)) := ⟨rfl, rfl, rfl, by decide +kernel, rfl, by decide +kernel, by decide +kernel⟩
theorem ok_parts (T : Tx w K mg) : Ok1 P w K mg base CX0 3 "_law_parts" ["_law_service_here"] (spPt K) := by
  have sc := sc__law_parts
  obtain ⟨fd1, F1⟩ := T.def_ 31
  obtain ⟨fd2, F2⟩ := T.def_ 32
  obtain ⟨fd3, F3⟩ := T.def_ 33
  obtain ⟨fd4, F4⟩ := T.def_ 34
  have SC := T.sCls
  have len : ∀ (f : Addr → Addr → Addr → Addr → Addr) vs H Q E, spGet f K vs H Q E → vs.length = ["self"].length := fun f vs H Q E h => by
    obtain ⟨a, dx, l1, l2, l3, l4, xs, rfl, _⟩ := h
    rfl
  have P_stations : FnOk P w K mg base CX0 1 (pgf "Service" "stations" K) fd1 ["self"] (spGet (fun l1 _ _ _ => l1) K) := F1.ok sc_Service_stations (len _) fun cdv A outer s H vs Q E hr h => by
    have sc := sc_Service_stations
    refine ⟨_, PSs.nox (pss_one (ps_ret (pe_callTy call_list_of (by rfl) T.free (by decide +kernel) (pa_cons (pe_fld (pv 0) rfl) pa_nil)))), ?_⟩
    obtain ⟨a, dx, l1, l2, l3, l4, xs, rfl, ha, hl, hQ⟩ := h
    exact ⟨_, rfl, a, _, dx, _, _, rfl, ha, T.sCls, T.n1, rfl, l1, _, rfl, .inl (SqL.of hl), fun p np => hQ p _ (KeepI.new np) upd_same⟩
  have P_registers : FnOk P w K mg base CX0 1 (pgf "Service" "registers" K) fd2 ["self"] (spGet (fun _ l2 _ _ => l2) K) := F2.ok sc_Service_registers (len _) fun cdv A outer s H vs Q E hr h => by
    have sc := sc_Service_registers
    refine ⟨_, PSs.nox (pss_one (ps_ret (pe_callTy call_list_of (by rfl) T.free (by decide +kernel) (pa_cons (pe_fld (pv 0) rfl) pa_nil)))), ?_⟩
    obtain ⟨a, dx, l1, l2, l3, l4, xs, rfl, ha, hl, hQ⟩ := h
    exact ⟨_, rfl, a, _, dx, _, _, rfl, ha, T.sCls, T.n2, rfl, l2, _, rfl, .inl (SqL.of hl), fun p np => hQ p _ (KeepI.new np) upd_same⟩
  have P_requests : FnOk P w K mg base CX0 1 (pgf "Service" "requests" K) fd3 ["self"] (spGet (fun _ _ l3 _ => l3) K) := F3.ok sc_Service_requests (len _) fun cdv A outer s H vs Q E hr h => by
    have sc := sc_Service_requests
    refine ⟨_, PSs.nox (pss_one (ps_ret (pe_callTy call_list_of (by rfl) T.free (by decide +kernel) (pa_cons (pe_fld (pv 0) rfl) pa_nil)))), ?_⟩
    obtain ⟨a, dx, l1, l2, l3, l4, xs, rfl, ha, hl, hQ⟩ := h
    exact ⟨_, rfl, a, _, dx, _, _, rfl, ha, T.sCls, T.n3, rfl, l3, _, rfl, .inl (SqL.of hl), fun p np => hQ p _ (KeepI.new np) upd_same⟩
  have P_rules : FnOk P w K mg base CX0 1 (pgf "Service" "rules" K) fd4 ["self"] (spGet (fun _ _ _ l4 => l4) K) := F4.ok sc_Service_rules (len _) fun cdv A outer s H vs Q E hr h => by
    have sc := sc_Service_rules
    refine ⟨_, PSs.nox (pss_one (ps_ret (pe_callTy call_list_of (by rfl) T.free (by decide +kernel) (pa_cons (pe_fld (pv 0) rfl) pa_nil)))), ?_⟩
    obtain ⟨a, dx, l1, l2, l3, l4, xs, rfl, ha, hl, hQ⟩ := h
    exact ⟨_, rfl, a, _, dx, _, _, rfl, ha, T.sCls, T.n4, rfl, l4, _, rfl, .inl (SqL.of hl), fun p np => hQ p _ (KeepI.new np) upd_same⟩
  have bP_stations : Binds K fd1 ["self"] [] := F1.bindsN fun _ _ _ _ _ _ us hl => match us, hl with | [_], _ => rfl
  have bP_registers : Binds K fd2 ["self"] [] := F2.bindsN fun _ _ _ _ _ _ us hl => match us, hl with | [_], _ => rfl
  have bP_requests : Binds K fd3 ["self"] [] := F3.bindsN fun _ _ _ _ _ _ us hl => match us, hl with | [_], _ => rfl
  have bP_rules : Binds K fd4 ["self"] [] := F4.bindsN fun _ _ _ _ _ _ us hl => match us, hl with | [_], _ => rfl
  refine ok1_of T.glo (T.def_ 66) sc (fun vs H Q E h => ?_) (fun _ _ _ _ _ _ us hl => match us, hl with | [_], _ => rfl) (fun cdv A outer s H vs Q E hr h => ?_)
  · obtain ⟨v, S, rfl, _⟩ := h
    rfl
  have hrP := hr
  refine ⟨_, PSs.nox (pss_one (ps_ret (pe_tup (pa_cons (pe_prop (pv 0) SC (T.prop "stations") P_stations hrP bP_stations .nil pass0 rfl) (pa_cons (pe_prop (pv 0) SC (T.prop "registers") P_registers hrP bP_registers .nil pass0 rfl) (pa_cons (pe_prop (pv 0) SC (T.prop "requests") P_requests hrP bP_requests .nil pass0 rfl) (pa_cons (pe_prop (pv 0) SC (T.prop "rules") P_rules hrP bP_rules .nil pass0 rfl) pa_nil))))))), ?_⟩
  obtain ⟨v, S, rfl, ⟨a, dx, l1, l2, l3, l4, us, ws, rfl, ha, hP⟩, hQ⟩ := h
  refine ⟨_, rfl, a, dx, _, rfl, ha, a, dx, l1, l2, l3, l4, _, rfl, ha, hP.h1, fun p1 H1 k1 h1 => ?_⟩
  refine ⟨_, rfl, a, dx, _, rfl, k1 a _ ha rfl, a, dx, l1, l2, l3, l4, _, rfl, k1 a _ ha rfl, (hP.keep k1).h2, fun p2 H2 k2 h2 => ?_⟩
  have k12 := k1.trans k2
  refine ⟨_, rfl, a, dx, _, rfl, k12 a _ ha rfl, a, dx, l1, l2, l3, l4, _, rfl, k12 a _ ha rfl, (hP.keep k12).h3, fun p3 H3 k3 h3 => ?_⟩
  have k13 := k12.trans k3
  refine ⟨_, rfl, a, dx, _, rfl, k13 a _ ha rfl, a, dx, l1, l2, l3, l4, _, rfl, k13 a _ ha rfl, (hP.keep k13).h4, fun p4 H4 k4 h4 => ?_⟩
  refine ⟨by show 4 ≤ sizeLine; decide, fun p np => ?_⟩
  have k5 := KeepI.new (o := .tup [.ref p1, .ref p2, .ref p3, .ref p4]) np
  have kA := (k13.trans k4).trans k5
  have hPA := hP.keep kA
  exact hQ p p1 p2 p3 p4 us ws _ kA upd_same ⟨((k2.trans k3).trans (k4.trans k5)) p1 _ h1 rfl, ((k3.trans k4).trans k5) p2 _ h2 rfl, (k4.trans k5) p3 _ h3 rfl, hPA.k3, k5 p4 _ h4 rfl, hPA.k4⟩
def spWd : Sp := fun vs H Q _ => ∃ (dk l : Addr) (r : Nat), vs = [.ref dk] ∧ Dk dk l r H ∧ ∀ x H', wOk x = true → KeepD dk H H' → Dk dk l r H' → Q (.str x) H'
def lawWords : List Str := (["", "0", "1", "2", "00", "and", "or", "not", "always", "rule", "request", "answer", "turn", "next", "-"] : List Str) ++ (["=", "=a*", "new", "self", "keep", "clear", "value", "text", "fresh", "empty", "same", "matches"] : List Str)
theorem sc__law_word : FnScope ["_law_deck_here", "_law_words"] ["_law_deck_here"] (defScope (top 79)) := ⟨rfl, rfl, rfl, by decide +kernel, rfl, by decide +kernel, by decide +kernel⟩
theorem ok_word (T : Tx w K mg) : Ok1 P w K mg base CX0 2 "_law_word" ["_law_deck_here"] spWd := by
  have sc := sc__law_word
  have F__law_draw := ok_draw (P := P) (base := base) T
  refine ok1_of T.glo (T.def_ 64) sc (fun vs H Q E h => ?_) (fun _ _ _ _ _ _ us hl => match us, hl with | [_], _ => rfl) (fun cdv A outer s H vs Q E hr h => ?_)
  · obtain ⟨dk, l, r, rfl, _⟩ := h
    rfl
  have hr__law_draw := hr
  refine ⟨_, PSs.nox (pss_cons (ps_set (i := 1) sc.nd rfl (by first | exact Or.inl rfl | exact Or.inr rfl) (pe_lst (pa_cons pe_str (pa_cons pe_str (pa_cons pe_str (pa_cons pe_str (pa_cons pe_str (pa_cons pe_str (pa_cons pe_str (pa_cons pe_str (pa_cons pe_str (pa_cons pe_str (pa_cons pe_str (pa_cons pe_str (pa_cons pe_str (pa_cons pe_str (pa_cons pe_str pa_nil)))))))))))))))))
    (pss_cons (ps_set (i := 1) sc.nd rfl (by first | exact Or.inl rfl | exact Or.inr rfl) (pe_op op_cat (pv 1) (pe_lst (pa_cons pe_str (pa_cons pe_str (pa_cons pe_str (pa_cons pe_str (pa_cons pe_str (pa_cons pe_str (pa_cons pe_str (pa_cons pe_str (pa_cons pe_str (pa_cons pe_str (pa_cons pe_str (pa_cons pe_str pa_nil)))))))))))))))
    (pss_one (ps_ret (pe_ix ix_list (pv 1) (pe_f F__law_draw hr__law_draw pass0 (pa_cons (pv 0) (pa_cons (pe_callB call_len_seq (by rfl) T.free PySem.boot_len (pa_cons (pv 1) pa_nil)) pa_nil))) (fun _ _ => rfl)))))), ?_⟩
  obtain ⟨dk, l, r, rfl, hd, hQ⟩ := h
  refine ⟨by show 15 ≤ sizeLine; decide, fun a1 na1 => ?_⟩
  refine ⟨_, rfl, by show 12 ≤ sizeLine; decide, fun a2 na2 => ?_⟩
  refine ⟨a1, a2, _, _, rfl, rfl, KeepI.new na2 a1 _ upd_same rfl, upd_same, by show 15 + 12 ≤ sizeLine; decide, fun a3 na3 => ?_⟩
  have d3 := ((hd.new na1).new na2).new (o := .lst (lawWords.map V.str)) na3
  have n3 := (((hd.new na1).new na2).ne na3).1
  refine rd_pick (us := lawWords.map V.str) rfl rfl upd_same (by decide) (by decide) n3 d3 fun u H4 hu k4 d4 => ?_
  obtain ⟨x, hx, rfl⟩ := List.mem_map.mp hu
  have z : ∀ x ∈ lawWords, wOk x = true := by decide +kernel
  exact hQ x H4 (z x hx) ((((KeepG.new na1).trans (KeepG.new na2)).trans (KeepG.new na3)).trans k4) d4
end
end L2.Ta

set_option maxHeartbeats 4000000
/-! the law's changes -/
namespace L2.Ta
open PySem PySem.Spec PyProof.Rows L2 TL
theorem cut_from0 {xs : List V} {k : Nat} : cutV xs (some (k : Int)) none = xs.drop k := by
  by_cases h : k ≤ xs.length
  · exact cut_from h
  · unfold cutV
    rw [HT.sIx_nat, HT.sIx_none, Nat.min_eq_right (by omega), List.drop_length, List.drop_of_length_le (by omega)]
    simp
theorem Paired.take {α : Type} {R : α → V → Prop} : ∀ (n : Nat) {xs : List α} {us : List V}, Paired R xs us → Paired R (xs.take n) (us.take n)
  | 0, _, _, _ => by simp only [List.take_zero]; exact .nil
  | n + 1, _, _, .nil => .nil
  | n + 1, _, _, .cons a b => .cons a (Paired.take n b)
theorem Paired.drop {α : Type} {R : α → V → Prop} : ∀ (n : Nat) {xs : List α} {us : List V}, Paired R xs us → Paired R (xs.drop n) (us.drop n)
  | 0, _, _, h => h
  | n + 1, _, _, .nil => .nil
  | n + 1, _, _, .cons a b => Paired.drop n b
def NewLn (n : Nat) (ws : List Str) : Prop := ws.length ≤ 91 + n ∧ ∀ x ∈ ws, wOk x = true
theorem bnd_wrap {n i : Nat} {L : List (List Str)} {ws : List Str} (h : Bnd n L) (hw : NewLn n ws) (hi : i < L.length) : Bnd (n + 1) (L.take i ++ [ws] ++ L.drop (i + 1)) := by
  refine ⟨?_, fun x hx => ?_⟩
  · have := h.1
    simp
    omega
  · rcases List.mem_append.mp hx with z | z
    · rcases List.mem_append.mp z with z | z
      · have z2 := h.2 x (List.mem_of_mem_take z)
        exact ⟨by omega, z2.2⟩
      · rw [List.mem_singleton] at z
        rw [z]
        exact ⟨by have := hw.1; omega, hw.2⟩
    · have z2 := h.2 x (List.mem_of_mem_drop z)
      exact ⟨by omega, z2.2⟩
/-- lines[:at] + [te] + lines[at + 1:] -/
theorem rd_wrap {K : PySem.W.Frag} {σ : L2.St} {H : Hp} {Q : VK} {dk l lp : Addr} {r n i : Nat} {L : List (List Str)} {us : List V} {te : TE} (h1 : σ[1]? = some (some (.ref lp))) (h2 : σ[2]? = some (some (.int (i : Nat)))) (hlp : H lp = some (.lst us)) (hi : i < L.length) (nlp : lp ≠ dk) (hL : Paired (LineAt dk H) L us)
    (hB : Bnd n L) (hd : Dk dk l r H) (hn : n ≤ 10)
    (hte : ∀ H1 (Q1 : VK), KeepD dk H H1 → Dk dk l r H1 → (∀ q ws' H2, H2 q = some (.lst (ws'.map V.str)) → q ≠ dk → NewLn n ws' → KeepD dk H1 H2 → Dk dk l r H2 → Q1 (.ref q) H2) → te σ H1 Q1)
    (hQ : ∀ v L' H', LinesAt dk H' L' v → Bnd (n + 1) L' → KeepD dk H H' → Dk dk l r H' → Q v H') :
    tOp rCat (tOp rCat (tSl (rSlL K) (tVar 1) tNoPart (tPart (tVar 2))) (tLst (tCons te tNil))) (tSl (rSlL K) (tVar 1) (tPart (tOp (rI0 fun i j => .int (i + j)) (tVar 2) (tC (.int 1)))) tNoPart) σ H Q := by
  have lus := Paired.length hL
  have lB := hB.1
  refine ⟨_, h1, _, h2, _, rfl, lp, us, rfl, SqL.of hlp, fun p1 np1 => ?_⟩
  rw [cut_to (by omega)]
  have k1 : KeepD dk H (upd H p1 (.lst (us.take i))) := KeepG.new np1
  have n1 := (hd.ne np1).1
  refine hte _ _ k1 (hd.new np1) fun q ws' H2 hq nq hw k2 d2 => ⟨by show 1 ≤ sizeLine; decide, fun p2 np2 => ?_⟩
  have hp1 := k2.lst upd_same n1
  refine ⟨p1, p2, _, _, rfl, rfl, KeepI.new np2 p1 _ hp1 rfl, upd_same, by simp [sizeLine_eq]; omega, fun p3 np3 => ?_⟩
  have kI3 : KeepI H2 (upd (upd H2 p2 (.lst [.ref q])) p3 (.lst (us.take i ++ [.ref q]))) := (KeepI.new np2).trans (KeepI.new np3)
  have k3 := (k1.trans k2).trans kI3.g
  have h3 : upd (upd H2 p2 (.lst [.ref q])) p3 (.lst (us.take i ++ [.ref q])) p3 = some (.lst (us.take i ++ [.ref q])) := upd_same
  have hq3 := kI3 q _ hq rfl
  have d3 := d2.keep kI3
  generalize upd (upd H2 p2 (.lst [.ref q])) p3 (.lst (us.take i ++ [.ref q])) = H3 at kI3 k3 h3 hq3 d3
  refine ⟨_, h1, _, h2, _, _, rfl, rfl, _, rfl, lp, us, rfl, SqL.of (k3.lst hlp nlp), fun p4 np4 => ?_⟩
  rw [show ((i : Nat) : Int) + 1 = ((i + 1 : Nat) : Int) by omega, cut_from0]
  have kI4 : KeepI H3 (upd H3 p4 (.lst (us.drop (i + 1)))) := KeepI.new np4
  refine ⟨p3, p4, _, _, rfl, rfl, kI4 p3 _ h3 rfl, upd_same, by simp [sizeLine_eq]; omega, fun p5 np5 => ?_⟩
  have kI5 := kI4.trans (KeepI.new (o := .lst (us.take i ++ [.ref q] ++ us.drop (i + 1))) np5)
  have k5 := k3.trans kI5.g
  refine hQ _ (L.take i ++ [ws'] ++ L.drop (i + 1)) _ ⟨p5, _, rfl, upd_same, ((d3.keep kI4).ne np5).1, ?_⟩ (bnd_wrap hB hw hi) k5 (d3.keep kI5)
  have hL5 := Paired.keepR (fun _ _ => LineAt.keep k5) hL
  exact Paired.app (Paired.app (Paired.take i hL5) (.cons ⟨q, rfl, kI5 q _ hq3 rfl, nq⟩ .nil)) (Paired.drop (i + 1) hL5)
def spCh : Sp := fun vs H Q _ => ∃ (dk l : Addr) (r n : Nat) (L : List (List Str)) (v : V), vs = [.ref dk, v] ∧ Dk dk l r H ∧ LinesAt dk H L v ∧ L ≠ [] ∧ Bnd n L ∧ n ≤ 10 ∧ ∀ v L' H', LinesAt dk H' L' v → Bnd (n + 1) L' → KeepD dk H H' → Dk dk l r H' → Q v H'
def cutW (ws : List Str) (lo hi : Option Int) : List Str := (ws.drop (HT.sIx ws.length 0 lo)).take (HT.sIx ws.length ws.length hi - HT.sIx ws.length 0 lo)
theorem cut_map {ws : List Str} {lo hi : Option Int} : cutV (ws.map V.str) lo hi = (cutW ws lo hi).map V.str := by
  unfold cutV cutW
  rw [List.length_map, List.map_take, List.map_drop]
theorem cutW_mem {ws : List Str} {lo hi : Option Int} {x : Str} (h : x ∈ cutW ws lo hi) : x ∈ ws := List.mem_of_mem_drop (List.mem_of_mem_take h)
theorem cutW_len {ws : List Str} {lo hi : Option Int} : (cutW ws lo hi).length ≤ ws.length := by
  unfold cutW
  rw [List.length_take, List.length_drop]
  omega
theorem cutW_to {ws : List Str} {k : Nat} (h : k ≤ ws.length) : (cutW ws none (some (k : Int))).length = k := by
  unfold cutW
  rw [HT.sIx_nat, HT.sIx_none, Nat.min_eq_left h, List.length_take, List.length_drop]
  omega
theorem cutW_from {ws : List Str} {k : Nat} : (cutW ws (some (k : Int)) none).length = ws.length - k := by
  unfold cutW
  rw [HT.sIx_nat, HT.sIx_none, List.length_take, List.length_drop]
  omega
theorem new_cat {n : Nat} {ws a b : List Str} (ok : ∀ x ∈ ws, wOk x = true) (ha : ∀ x ∈ a, x ∈ ws ∨ wOk x = true) (hb : ∀ x ∈ b, x ∈ ws ∨ wOk x = true) (l : a.length + b.length ≤ 91 + n) : NewLn n (a ++ b) := by
  refine ⟨by rw [List.length_append]; exact l, fun x hx => ?_⟩
  rcases List.mem_append.mp hx with z | z
  · rcases ha x z with z | z
    · exact ok x z
    · exact z
  · rcases hb x z with z | z
    · exact ok x z
    · exact z
section
variable {P : Program} {w : World} {K : PySem.W.Frag} {mg : Str → Option Value} {base : Heap}
theorem sc__law_changed : FnScope ["_law_deck_here", "_law_lines_here", "_law_at", "_law_line_here", "_law_place", "_law_kind", "_law_other", "_law_words"] ["_law_deck_here", "_law_lines_here"] (defScope (top 80)) := ⟨rfl, rfl, rfl, by decide +kernel, rfl, by decide +kernel, by decide +kernel⟩
theorem ok_changed (T : Tx w K mg) : Ok1 P w K mg base CX0 3 "_law_changed" ["_law_deck_here", "_law_lines_here"] spCh := by
  have sc := sc__law_changed
  have F__law_draw := ok_draw (P := P) (base := base) T
  have F__law_word := ok_word (P := P) (base := base) T
  refine ok1_of T.glo (T.def_ 65) sc (fun vs H Q E h => ?_) (fun _ _ _ _ _ _ us hl => match us, hl with | [_, _], _ => rfl) (fun cdv A outer s H vs Q E hr h => ?_)
  · obtain ⟨dk, l, r, n, L, v, rfl, _⟩ := h
    rfl
  have hr__law_draw := hr.mono (show 1 ≤ 2 by decide)
  have hr__law_word := hr
  refine ⟨_, PSs.nox (pss_cons (ps_set (i := 2) sc.nd rfl (by first | exact Or.inl rfl | exact Or.inr rfl) (pe_f F__law_draw hr__law_draw pass0 (pa_cons (pv 0) (pa_cons (pe_callB call_len_seq (by rfl) T.free PySem.boot_len (pa_cons (pv 1) pa_nil)) pa_nil))))
    (pss_cons (ps_set (i := 3) sc.nd rfl (by first | exact Or.inl rfl | exact Or.inr rfl) (pe_ix ix_list (pv 1) (pv 2) (fun _ _ => rfl)))
    (pss_cons (ps_set (i := 4) sc.nd rfl (by first | exact Or.inl rfl | exact Or.inr rfl) (pe_f F__law_draw hr__law_draw pass0 (pa_cons (pv 0) (pa_cons (pe_op op_add (pe_callB call_len_seq (by rfl) T.free PySem.boot_len (pa_cons (pv 3) pa_nil)) pe_int) pa_nil))))
    (pss_cons (ps_set (i := 5) sc.nd rfl (by first | exact Or.inl rfl | exact Or.inr rfl) (pe_f F__law_draw hr__law_draw pass0 (pa_cons (pv 0) (pa_cons pe_int pa_nil))))
    (pss_cons (ps_if (pt_cmpR op_eq (pv 5) pe_int (nomark _)) (pss_one (ps_ret (pe_op op_cat (pe_op op_cat (pe_slice sl_list (pv 1) po_none (po_some (pv 2))) (pe_lst (pa_cons (pe_op op_cat (pe_slice sl_list (pv 3) po_none (po_some (pv 4))) (pe_slice sl_list (pv 3) (po_some (pe_op op_add (pv 4) pe_int)) po_none)) pa_nil))) (pe_slice sl_list (pv 1) (po_some (pe_op op_add (pv 2) pe_int)) po_none)))) pss_nil)
    (pss_cons (ps_if (pt_cmpR op_eq (pv 5) pe_int (nomark _)) (pss_one (ps_ret (pe_op op_cat (pe_op op_cat (pe_slice sl_list (pv 1) po_none (po_some (pv 2))) (pe_lst (pa_cons (pe_op op_cat (pe_slice sl_list (pv 3) po_none (po_some (pv 4))) (pe_slice sl_list (pv 3) (po_some (pe_op op_sub (pv 4) pe_int)) po_none)) pa_nil))) (pe_slice sl_list (pv 1) (po_some (pe_op op_add (pv 2) pe_int)) po_none)))) pss_nil)
    (pss_cons (ps_if (pt_cmpR op_lt (pv 5) pe_int (nomark _)) (pss_one (ps_ret (pe_op op_cat (pe_op op_cat (pe_slice sl_list (pv 1) po_none (po_some (pv 2))) (pe_lst (pa_cons (pe_op op_cat (pe_op op_cat (pe_slice sl_list (pv 3) po_none (po_some (pv 4))) (pe_lst (pa_cons (pe_f F__law_word hr__law_word pass0 (pa_cons (pv 0) pa_nil)) pa_nil))) (pe_slice sl_list (pv 3) (po_some (pe_op op_add (pv 4) (pe_op op_fdiv (pv 5) pe_int))) po_none)) pa_nil))) (pe_slice sl_list (pv 1) (po_some (pe_op op_add (pv 2) pe_int)) po_none)))) pss_nil)
    (pss_cons (ps_if (pt_cmpR op_eq (pv 5) pe_int (nomark _)) (pss_one (ps_ret (pe_op op_cat (pe_slice sl_list (pv 1) po_none (po_some (pv 2))) (pe_slice sl_list (pv 1) (po_some (pe_op op_add (pv 2) pe_int)) po_none)))) pss_nil)
    (pss_cons (ps_if (pt_cmpR op_eq (pv 5) pe_int (nomark _)) (pss_one (ps_ret (pe_op op_cat (pv 1) (pe_lst (pa_cons (pv 3) pa_nil))))) pss_nil)
    (pss_cons (ps_set (i := 6) sc.nd rfl (by first | exact Or.inl rfl | exact Or.inr rfl) (pe_f F__law_draw hr__law_draw pass0 (pa_cons (pv 0) (pa_cons (pe_op op_add (pe_callB call_len_seq (by rfl) T.free PySem.boot_len (pa_cons (pv 3) pa_nil)) pe_int) pa_nil))))
    (pss_cons (ps_if (PW.pt (pw_or (pt_cmpR op_eq (pv 4) (pe_callB call_len_seq (by rfl) T.free PySem.boot_len (pa_cons (pv 3) pa_nil)) (nomark _)) (pw_or1 (pt_cmpR op_eq (pv 6) (pe_callB call_len_seq (by rfl) T.free PySem.boot_len (pa_cons (pv 3) pa_nil)) (nomark _))))) (pss_one (ps_ret (pv 1))) pss_nil)
    (pss_cons (ps_set (i := 7) sc.nd rfl (by first | exact Or.inl rfl | exact Or.inr rfl) (pe_callTy call_list_of (by rfl) T.free (by decide +kernel) (pa_cons (pv 3) pa_nil)))
    (pss_cons (ps_asg (pe_ix ix_list (pv 3) (pv 6) (fun _ _ => rfl)) (pg_sub (pv 7) (pv 4) set_list))
    (pss_cons (ps_asg (pe_ix ix_list (pv 3) (pv 4) (fun _ _ => rfl)) (pg_sub (pv 7) (pv 6) set_list))
    (pss_one (ps_ret (pe_op op_cat (pe_op op_cat (pe_slice sl_list (pv 1) po_none (po_some (pv 2))) (pe_lst (pa_cons (pv 7) pa_nil))) (pe_slice sl_list (pv 1) (po_some (pe_op op_add (pv 2) pe_int)) po_none)))))))))))))))))), ?_⟩
  obtain ⟨dk, l, r, n, L, v, rfl, hd, ⟨lp, us, rfl, hlp, nlp, hL⟩, hne, hB, hn, hQ⟩ := h
  have lus := Paired.length hL
  have lL : 0 < L.length := List.length_pos_iff.mpr hne
  have lB := hB.1
  refine ⟨_, rfl, _, rfl, lp, us, rfl, .inl (SqL.of hlp), dk, l, r, _, rfl, by omega, by omega, hd, fun v H1 v0 v1 k1 d1 => ?_⟩
  obtain ⟨i, rfl⟩ : ∃ i : Nat, v = i := ⟨v.toNat, by omega⟩
  have hi : i < us.length := by omega
  have hL1 := Paired.keepR (fun _ _ => LineAt.keep k1) hL
  have hlp1 := k1.lst hlp nlp
  have eu : us[i]? = some us[i] := by simp [hi]
  obtain ⟨ws, ew, ⟨q, eq, hq, nq⟩⟩ := Paired.at_ hL1 i _ eu
  rw [eq] at eu
  have mws := List.mem_of_getElem? ew
  have lws := (hB.2 ws mws).1
  have okw := (hB.2 ws mws).2
  refine ⟨_, rfl, _, rfl, lp, us, _, .ref q, rfl, rfl, SqL.of hlp1, at_of (j := i) rfl eu, ?_⟩
  refine ⟨_, rfl, _, rfl, q, _, rfl, .inl (SqL.of hq), _, _, rfl, rfl, dk, l, r, _, rfl, ?_, ?_, d1, fun v H2 v0 v1 k2 d2 => ?_⟩
  · show (0 : Int) < ((ws.map V.str).length : Int) + 1
    omega
  · show ((ws.map V.str).length : Int) + 1 < 1000000
    rw [List.length_map]
    omega
  have v1' : v < ((ws.map V.str).length : Int) + 1 := v1
  rw [List.length_map] at v1'
  clear v1
  obtain ⟨pl, rfl⟩ : ∃ i : Nat, v = i := ⟨v.toNat, by omega⟩
  refine ⟨_, rfl, dk, l, r, 8, rfl, by decide, by decide, d2, fun kd H3 c0 c1 k3 d3 => ?_⟩
  have k13 := (k1.trans k2).trans k3
  have hL3 := Paired.keepR (fun _ _ => LineAt.keep k13) hL
  have hlp3 := k13.lst hlp nlp
  have hq3 := (k2.trans k3).lst hq nq
  have hQ3 : ∀ v L' H', LinesAt dk H' L' v → Bnd (n + 1) L' → KeepD dk H3 H' → Dk dk l r H' → Q v H' := fun v L' H' a b c d => hQ v L' H' a b (k13.trans c) d
  have lpl : pl ≤ ws.length := by omega
  clear hL1 hlp1 hq k1 k2 k3 k13 d1 d2 hL hlp hd v0 v1'
  refine ⟨_, rfl, rfl, _, rfl, ?_⟩
  by_cases e0 : kd = 0
  · refine itT (by simp [e0]) (rd_wrap rfl rfl hlp3 (by omega) nlp hL3 hB d3 hn (fun H4 Q1 k4 d4 fin => ?_) hQ3)
    have hq4 := k4.lst hq3 nq
    refine ⟨_, rfl, _, rfl, _, rfl, q, _, rfl, SqL.of hq4, fun p1 np1 => ?_⟩
    refine ⟨_, rfl, _, rfl, _, _, rfl, rfl, _, rfl, q, _, rfl, SqL.of (KeepI.new np1 q _ hq4 rfl), fun p2 np2 => ?_⟩
    have kI := (KeepI.new np1).trans (KeepI.new (o := .lst (cutV (ws.map V.str) (some ((pl : Int) + 1)) none)) np2)
    refine ⟨p1, p2, _, _, rfl, rfl, KeepI.new np2 p1 _ upd_same rfl, upd_same, ?_, fun p3 np3 => ?_⟩
    · rw [cut_map, cut_map, List.length_map, List.length_map, sizeLine_eq]
      have z1 := cutW_len (ws := ws) (lo := none) (hi := some (pl : Int))
      have z2 := cutW_len (ws := ws) (lo := some ((pl : Int) + 1)) (hi := none)
      omega
    · refine fin p3 (cutW ws none (some (pl : Int)) ++ cutW ws (some ((pl : Int) + 1)) none) _ (by rw [upd_same, cut_map, cut_map, List.map_append]) ((d4.keep kI).ne np3).1 ?_ (kI.trans (KeepI.new np3)).g ((d4.keep kI).new np3)
      refine new_cat okw (fun x hx => .inl (cutW_mem hx)) (fun x hx => .inl (cutW_mem hx)) ?_
      have z1 := cutW_to lpl
      have z2 := cutW_from (ws := ws) (k := pl + 1)
      rw [show ((pl + 1 : Nat) : Int) = (pl : Int) + 1 by omega] at z2
      omega
  refine itF (by simp [e0]) ⟨_, rfl, rfl, _, rfl, ?_⟩
  by_cases e1 : kd = 1
  · refine itT (by simp [e1]) (rd_wrap rfl rfl hlp3 (by omega) nlp hL3 hB d3 hn (fun H4 Q1 k4 d4 fin => ?_) hQ3)
    have hq4 := k4.lst hq3 nq
    refine ⟨_, rfl, _, rfl, _, rfl, q, _, rfl, SqL.of hq4, fun p1 np1 => ?_⟩
    refine ⟨_, rfl, _, rfl, _, _, rfl, rfl, _, rfl, q, _, rfl, SqL.of (KeepI.new np1 q _ hq4 rfl), fun p2 np2 => ?_⟩
    have kI := (KeepI.new np1).trans (KeepI.new (o := .lst (cutV (ws.map V.str) (some ((pl : Int) - 1)) none)) np2)
    refine ⟨p1, p2, _, _, rfl, rfl, KeepI.new np2 p1 _ upd_same rfl, upd_same, ?_, fun p3 np3 => ?_⟩
    · rw [cut_map, cut_map, List.length_map, List.length_map, sizeLine_eq]
      have z1 := cutW_len (ws := ws) (lo := none) (hi := some (pl : Int))
      have z2 := cutW_len (ws := ws) (lo := some ((pl : Int) - 1)) (hi := none)
      omega
    · refine fin p3 (cutW ws none (some (pl : Int)) ++ cutW ws (some ((pl : Int) - 1)) none) _ (by rw [upd_same, cut_map, cut_map, List.map_append]) ((d4.keep kI).ne np3).1 ?_ (kI.trans (KeepI.new np3)).g ((d4.keep kI).new np3)
      refine new_cat okw (fun x hx => .inl (cutW_mem hx)) (fun x hx => .inl (cutW_mem hx)) ?_
      have z1 := cutW_to lpl
      rcases Nat.eq_zero_or_pos pl with z | z
      · have z2 := cutW_len (ws := ws) (lo := some ((pl : Int) - 1)) (hi := none)
        omega
      · have z2 := cutW_from (ws := ws) (k := pl - 1)
        rw [show ((pl - 1 : Nat) : Int) = (pl : Int) - 1 by omega] at z2
        omega
  refine itF (by simp [e1]) ⟨_, rfl, _, _, rfl, rfl, _, rfl, ?_⟩
  by_cases e5 : kd < 5
  · refine itT (decide_eq_true e5) (rd_wrap rfl rfl hlp3 (by omega) nlp hL3 hB d3 hn (fun H4 Q1 k4 d4 fin => ?_) hQ3)
    have hq4 := k4.lst hq3 nq
    refine ⟨_, rfl, _, rfl, _, rfl, q, _, rfl, SqL.of hq4, fun p1 np1 => ?_⟩
    have n1 := (d4.ne np1).1
    refine ⟨_, rfl, dk, l, r, rfl, d4.new np1, fun x H5 hx k5 d5 => ⟨by show 1 ≤ sizeLine; decide, fun p2 np2 => ?_⟩⟩
    have hp1 := k5.lst upd_same n1
    refine ⟨p1, p2, _, _, rfl, rfl, KeepI.new np2 p1 _ hp1 rfl, upd_same, ?_, fun p3 np3 => ?_⟩
    · rw [cut_map, List.length_map, sizeLine_eq]
      have z1 := cutW_len (ws := ws) (lo := none) (hi := some (pl : Int))
      simp
      omega
    have kI3 : KeepI H5 (upd (upd H5 p2 (.lst [.str x])) p3 (.lst (cutV (ws.map V.str) none (some (pl : Int)) ++ [.str x]))) := (KeepI.new np2).trans (KeepI.new np3)
    have k45 : KeepD dk H4 H5 := (KeepG.new (o := .lst (cutV (ws.map V.str) none (some (pl : Int)))) np1).trans k5
    have hq5 := kI3 q _ (k45.lst hq4 nq) rfl
    refine ⟨_, rfl, _, rfl, _, rfl, _, _, rfl, rfl, ⟨by decide, by decide⟩, _, _, rfl, rfl, _, rfl, q, _, rfl, SqL.of hq5, fun p4 np4 => ?_⟩
    obtain ⟨m3, hm3⟩ : ∃ m : Nat, kd / 3 = m := ⟨(kd / 3).toNat, by omega⟩
    have kI4 := kI3.trans (KeepI.new (o := .lst (cutV (ws.map V.str) (some ((pl : Int) + kd / 3)) none)) np4)
    refine ⟨p3, p4, _, _, rfl, rfl, KeepI.new np4 p3 _ upd_same rfl, upd_same, ?_, fun p6 np6 => ?_⟩
    · rw [cut_map, cut_map, List.length_map, List.length_append, List.length_map, sizeLine_eq]
      have z1 := cutW_len (ws := ws) (lo := none) (hi := some (pl : Int))
      have z2 := cutW_len (ws := ws) (lo := some ((pl : Int) + kd / 3)) (hi := none)
      simp
      omega
    · refine fin p6 ((cutW ws none (some (pl : Int)) ++ [x]) ++ cutW ws (some ((pl : Int) + kd / 3)) none) _ (by rw [upd_same, cut_map, cut_map]; simp) ((d5.keep kI4).ne np6).1 ?_ (k45.trans (kI4.trans (KeepI.new np6)).g) ((d5.keep kI4).new np6)
      refine new_cat okw (fun y hy => ?_) (fun x hx => .inl (cutW_mem hx)) ?_
      · rcases List.mem_append.mp hy with z | z
        · exact .inl (cutW_mem z)
        · rw [List.mem_singleton] at z
          rw [z]
          exact .inr hx
      · have z1 := cutW_to lpl
        have z2 := cutW_from (ws := ws) (k := pl + m3)
        rw [show ((pl + m3 : Nat) : Int) = (pl : Int) + kd / 3 by omega] at z2
        rw [List.length_append]
        simp
        omega
  refine itF (decide_eq_false e5) ⟨_, rfl, rfl, _, rfl, ?_⟩
  by_cases e5b : kd = 5
  · refine itT (by simp [e5b]) ?_
    refine ⟨_, rfl, _, rfl, _, rfl, lp, us, rfl, SqL.of hlp3, fun p1 np1 => ?_⟩
    rw [cut_to (by omega)]
    refine ⟨_, rfl, _, rfl, _, _, rfl, rfl, _, rfl, lp, us, rfl, SqL.of (KeepI.new np1 lp _ hlp3 rfl), fun p2 np2 => ?_⟩
    rw [show ((i : Nat) : Int) + 1 = ((i + 1 : Nat) : Int) by omega, cut_from0]
    have kI := (KeepI.new (o := .lst (us.take i)) np1).trans (KeepI.new (o := .lst (us.drop (i + 1))) np2)
    refine ⟨p1, p2, _, _, rfl, rfl, KeepI.new np2 p1 _ upd_same rfl, upd_same, by simp [sizeLine_eq]; omega, fun p3 np3 => ?_⟩
    have kI3 := kI.trans (KeepI.new (o := .lst (us.take i ++ us.drop (i + 1))) np3)
    have hL5 := Paired.keepR (fun _ _ => LineAt.keep kI3.g) hL3
    refine hQ3 _ (L.take i ++ L.drop (i + 1)) _ ⟨p3, _, rfl, upd_same, ((d3.keep kI).ne np3).1, Paired.app (Paired.take i hL5) (Paired.drop (i + 1) hL5)⟩ ⟨by simp; omega, fun x hx => ?_⟩ kI3.g (d3.keep kI3)
    rcases List.mem_append.mp hx with z | z
    · have z2 := hB.2 x (List.mem_of_mem_take z)
      exact ⟨by omega, z2.2⟩
    · have z2 := hB.2 x (List.mem_of_mem_drop z)
      exact ⟨by omega, z2.2⟩
  refine itF (by simp [e5b]) ⟨_, rfl, rfl, _, rfl, ?_⟩
  by_cases e6 : kd = 6
  · refine itT (by simp [e6]) ?_
    refine ⟨_, rfl, _, rfl, by show 1 ≤ sizeLine; decide, fun p1 np1 => ?_⟩
    have kI := KeepI.new (o := .lst [.ref q]) np1
    refine ⟨lp, p1, _, _, rfl, rfl, kI lp _ hlp3 rfl, upd_same, by simp [sizeLine_eq]; omega, fun p3 np3 => ?_⟩
    have kI3 := kI.trans (KeepI.new (o := .lst (us ++ [.ref q])) np3)
    have hL5 := Paired.keepR (fun _ _ => LineAt.keep kI3.g) hL3
    refine hQ3 _ (L ++ [ws]) _ ⟨p3, _, rfl, upd_same, ((d3.keep kI).ne np3).1, Paired.app hL5 (.cons ⟨q, rfl, kI3 q _ hq3 rfl, nq⟩ .nil)⟩ ⟨by simp; omega, fun x hx => ?_⟩ kI3.g (d3.keep kI3)
    rcases List.mem_append.mp hx with z | z
    · have z2 := hB.2 x z
      exact ⟨by omega, z2.2⟩
    · rw [List.mem_singleton] at z
      rw [z]
      exact ⟨by omega, okw⟩
  refine itF (by simp [e6]) ?_
  -- two words exchanged
  refine ⟨_, rfl, _, rfl, q, _, rfl, .inl (SqL.of hq3), _, _, rfl, rfl, dk, l, r, _, rfl, ?_, ?_, d3, fun v H4 v0 v1 k4 d4 => ?_⟩
  · show (0 : Int) < ((ws.map V.str).length : Int) + 1
    omega
  · show ((ws.map V.str).length : Int) + 1 < 1000000
    rw [List.length_map]
    omega
  have v1' : v < ((ws.map V.str).length : Int) + 1 := v1
  rw [List.length_map] at v1'
  clear v1
  obtain ⟨ot, rfl⟩ : ∃ i : Nat, v = i := ⟨v.toNat, by omega⟩
  have hL4 := Paired.keepR (fun _ _ => LineAt.keep k4) hL3
  have hlp4 := k4.lst hlp3 nlp
  have hq4 := k4.lst hq3 nq
  have hQ4 : ∀ v L' H', LinesAt dk H' L' v → Bnd (n + 1) L' → KeepD dk H4 H' → Dk dk l r H' → Q v H' := fun v L' H' a b c d => hQ3 v L' H' a b (k4.trans c) d
  have same : Q (.ref lp) H4 := hQ4 _ L _ ⟨lp, us, rfl, hlp4, nlp, hL4⟩ ⟨by omega, fun x hx => ⟨by have := (hB.2 x hx).1; omega, (hB.2 x hx).2⟩⟩ (KeepG.refl _) d4
  refine ⟨_, rfl, _, rfl, q, _, rfl, .inl (SqL.of hq4), rfl, _, rfl, ?_⟩
  rw [List.length_map]
  by_cases e7 : pl = ws.length
  · refine itT (by simp [e7]) (itT rfl ?_)
    exact ⟨_, rfl, same⟩
  refine itF (by simp [e7]; omega) ⟨_, rfl, _, rfl, q, _, rfl, .inl (SqL.of hq4), rfl, _, rfl, ?_⟩
  rw [List.length_map]
  by_cases e8 : ot = ws.length
  · refine itT (by simp [e8]) ?_
    exact ⟨_, rfl, same⟩
  refine itF (by simp [e8]; omega) ?_
  have hpl : pl < ws.length := by omega
  have hot : ot < ws.length := by omega
  have epl : (ws.map V.str)[pl]? = some (.str ws[pl]) := by simp [hpl]
  have eot : (ws.map V.str)[ot]? = some (.str ws[ot]) := by simp [hot]
  have wpl := okw _ (List.getElem_mem hpl)
  have wot := okw _ (List.getElem_mem hot)
  generalize ws[pl] = xp at epl wpl
  generalize ws[ot] = xo at eot wot
  refine ⟨_, rfl, q, _, rfl, .inl (SqL.of hq4), fun wl nwl => ?_⟩
  have nwd := (d4.ne nwl)
  have kI := KeepI.new (o := .lst (ws.map V.str)) nwl
  have hq5 := kI q _ hq4 rfl
  have nqw : q ≠ wl := fun z => by rw [z, nwl] at hq4; cases hq4
  refine ⟨_, rfl, _, rfl, q, _, _, _, rfl, rfl, SqL.of hq5, at_of (j := ot) rfl eot, _, rfl, _, rfl, wl, _, _, pl, rfl, rfl, upd_same, ?_, ?_⟩
  · unfold ixN
    rw [if_pos (by omega), if_pos (by rw [List.length_map]; omega)]
    rfl
  have hq6 : upd (upd H4 wl (.lst (ws.map V.str))) wl (.lst ((ws.map V.str).set pl (.str xo))) q = some (.lst (ws.map V.str)) := by
    rw [upd_ne nqw]
    exact hq5
  refine ⟨_, rfl, _, rfl, q, _, _, _, rfl, rfl, SqL.of hq6, at_of (j := pl) rfl epl, _, rfl, _, rfl, wl, _, _, ot, rfl, rfl, upd_same, ?_, ?_⟩
  · unfold ixN
    rw [if_pos (by omega), if_pos (by rw [List.length_set, List.length_map]; omega)]
    rfl
  have kF : KeepI H4 (upd (upd (upd H4 wl (.lst (ws.map V.str))) wl (.lst ((ws.map V.str).set pl (.str xo)))) wl (.lst (((ws.map V.str).set pl (.str xo)).set ot (.str xp)))) := ((KeepI.refl H4).mut nwl |>.mut nwl).mut nwl
  have dF := ((d4.new (o := .lst (ws.map V.str)) nwl).set (o := .lst ((ws.map V.str).set pl (.str xo))) nwd.1 nwd.2).set (o := .lst (((ws.map V.str).set pl (.str xo)).set ot (.str xp))) nwd.1 nwd.2
  have hwF : upd (upd (upd H4 wl (.lst (ws.map V.str))) wl (.lst ((ws.map V.str).set pl (.str xo)))) wl (.lst (((ws.map V.str).set pl (.str xo)).set ot (.str xp))) wl = some (.lst (((ws.set pl xo).set ot xp).map V.str)) := by
    rw [upd_same, List.map_set, List.map_set]
  generalize upd (upd (upd H4 wl (.lst (ws.map V.str))) wl (.lst ((ws.map V.str).set pl (.str xo)))) wl (.lst (((ws.map V.str).set pl (.str xo)).set ot (.str xp))) = HF at kF dF hwF
  refine rd_wrap rfl rfl (kF lp _ hlp4 rfl) (by omega) nlp (Paired.keepR (fun _ _ => LineAt.keep kF.g) hL4) hB dF hn (fun H5 Q1 k5 d5 fin => ⟨_, rfl, fin wl ((ws.set pl xo).set ot xp) H5 (k5.lst hwF nwd.1) nwd.1 ⟨by rw [List.length_set, List.length_set]; omega, fun x hx => ?_⟩ (KeepG.refl _) d5⟩) (fun v L' H' a b c d => hQ4 v L' H' a b (kF.g.trans c) d)
  rcases List.mem_or_eq_of_mem_set hx with z | z
  · rcases List.mem_or_eq_of_mem_set z with z | z
    · exact okw x z
    · rw [z]
      exact wot
  · rw [z]
    exact wpl
end
end L2.Ta

set_option maxHeartbeats 4000000
/-! the law -/
namespace L2.Ta
open PySem PySem.Spec PyProof.Rows L2 TL
theorem pe_fS {X : Cx} {CX : CXT} {k : Nat} {x : Str} {ps : List Str} {sp : Sp} {E : L2.St → XK} {p pos : Pos} {e : Expr} {es : List Expr} {t : TA} (F : Ok1 X.prog X.w X.K X.mg X.base CX k x ps sp) (hr : Room k X.A) (hx : ∀ σ, PassesAt CX X σ (E σ)) (ha : PA X (e :: es) t) (hg : Gl X x := by rfl)
    (hdb : (x == ("__debug__" : Str)) = false := by decide) (he : starEach (e :: es) X.env = (false, eval e X.env) :: starEach es X.env := by rfl) (hpl : (backTo pos (starEach es X.env)).any (·.1) = false := by rfl) :
    PE X (.Call (.Name x p) (e :: es) [] pos) (tCallS sp E t) := by
  obtain ⟨fd, hm, hk, hb, F⟩ := F
  exact pe_callS F hr hg hm hk hb hx ha hdb he hpl
theorem psG {X : Cx} {st : List Stmt} {K : PySem.W.Frag} {cls : Value} {d : Option Addr} {t : Str → Addr → TS} (f : ∀ x dd, x ∈ excs → cls = .ref (He.ga K x) → d = some dd → PSs X st (t x dd)) :
    PSs X st (fun D σ H => ∃ x dd, x ∈ excs ∧ cls = .ref (He.ga K x) ∧ d = some dd ∧ t x dd D σ H) := ⟨fun pins s σ H D I ⟨x, dd, h1, h2, h3, h⟩ => (f x dd h1 h2 h3).run pins s σ H D I h⟩
theorem optSplit {α : Type} {x : Option α} {no : Prop} {yes : α → Prop} (h : no) (f : ∀ a, x = some a → no → yes a) : Opt x no yes := by
  cases x with
  | none => exact h
  | some a => exact f a rfl h
def suL (K : PySem.W.Frag) (a : Addr) (x : Str) (dd : Addr) : TS :=
  tIfS (tOr (tNot (tB (tCB (rIsX K (He.ga K x) a dd) (tCons (tVar 6) (tCons (tC (.ty "ValueError")) tNil))))) (tNot (tB (tCB RZ.rIsTy (tCons (tXf a (.ref (He.ga K x)) (some dd) (He.ga K x) "word" (tVar 6)) (tCons (tC (.ty "str")) tNil)))))) (tRet (tC (.bl false))) tNext
def tsL (K : PySem.W.Frag) (a : Addr) (cls : Value) (d : Option Addr) : TS := fun D σ H => ∃ x dd, x ∈ excs ∧ cls = .ref (He.ga K x) ∧ d = some dd ∧ suL K a x dd D σ H
def tbL (K : PySem.W.Frag) (W : WX) : TS :=
  tSeq (tAsg (tCall spTO [] E0 (tCons (tCall spLs [] E0 (tCons (tCall (spPt K) [] E0 (tCons (tCallS (spPS K) (WE W) (tCons (tVar 4) tNil)) tNil)) tNil)) tNil)) (gName 5)) (tIfS (tTest (tOp rNe (tVar 5) (tVar 4))) (tRet (tC (.bl false))) tNext)
def spLaw (K : PySem.W.Frag) : Sp := fun vs H Q _ => ∃ (sl : Addr) (cells : List Int), vs = [.ref sl] ∧ SqL K H sl (cells.map V.int) ∧ ∀ H', Q (.bl true) H'
section
variable {P : Program} {w : World} {K : PySem.W.Frag} {mg : Str → Option Value} {base : Heap}
theorem excC_of (T : Tx w K mg) {x : Str} (h : x ∈ excs) : ExcC K (He.ga K x) := by
  have e := T.err h
  exact ⟨e.ga, e.gg, e.oex.exC, e.hdC, e.cl, rfl, rfl, e.mr⟩
theorem xfC_of (T : Tx w K mg) {x : Str} (h : x ∈ excs) : XfC K (He.ga K x) := by
  have e := T.err h
  exact ⟨e.ga, e.gg, e.oex.exC, e.hdC⟩
theorem LinesAt.keepW {dk : Addr} {H H' : Hp} (k : KeepW H H') {L : List (List Str)} {v : V} (h : LinesAt dk H L v) : LinesAt dk H' L v := by
  obtain ⟨p, us, e, h, n, hp⟩ := h
  refine ⟨p, us, e, k _ _ h rfl, n, Paired.keepR (fun ws u hl => ?_) hp⟩
  obtain ⟨q, e, h, n⟩ := hl
  exact ⟨q, e, k _ _ h rfl, n⟩
theorem Dk.keepW {dk l : Addr} {r : Nat} {H H' : Hp} (h : Dk dk l r H) (k : KeepW H H') : Dk dk l r H' := by
  obtain ⟨a, c, b, cells, h1, h2, h3, h4⟩ := h
  exact ⟨a, c, b, cells, k dk _ h1 rfl, k l _ h2 rfl, h3, h4⟩
theorem sc_law : FnScope ["_law_script", "_law_deck_here", "_law_lines_here", "_law_k", "_law_text_here", "_law_told", "e"] ["_law_script"] (defScope (top 82)) := ⟨rfl, rfl, rfl, by decide +kernel, rfl, by decide +kernel, by decide +kernel⟩
theorem ok_law (T : Tx w K mg) {fd : FuncData} (F : FunT K "law" "law" (top 82) [] (gaf "law" K) fd) : FnOk P w K mg base CX0 18 (He.ga K "law") fd ["_law_script"] (spLaw K) := by
  have sc := sc_law
  have F__law_deck := ok_deck (P := P) (base := base) T
  have F__law_service := ok_service (P := P) (base := base) T
  have F__law_lines := ok_lines (P := P) (base := base) T
  have F__law_text_of := ok_text_of (P := P) (base := base) T
  have F__law_parts := ok_parts (P := P) (base := base) T
  have F_parse_service := ok_parse_service (P := P) (base := base) T
  have F__law_draw := ok_draw (P := P) (base := base) T
  have F__law_changed := ok_changed (P := P) (base := base) T
  refine F.ok sc (fun vs H Q E h => ?_) (fun cdv A outer s H vs Q E hr h => ?_)
  · obtain ⟨sl, cells, rfl, _⟩ := h
    rfl
  have hr__law_deck := hr.mono (show 1 ≤ 17 by decide)
  have hr__law_service := hr.mono (show 11 ≤ 17 by decide)
  have hr__law_lines := hr.mono (show 9 ≤ 17 by decide)
  have hr__law_text_of := hr.mono (show 1 ≤ 17 by decide)
  have hr__law_parts := hr.mono (show 3 ≤ 17 by decide)
  have hr_parse_service := hr
  have hr__law_draw := hr.mono (show 1 ≤ 17 by decide)
  have hr__law_changed := hr.mono (show 3 ≤ 17 by decide)
  refine ⟨_, PSs.nox (pss_cons (ps_set (i := 1) sc.nd rfl (by first | exact Or.inl rfl | exact Or.inr rfl) (pe_f F__law_deck hr__law_deck pass0 (pa_cons (pv 0) pa_nil)))
    (pss_cons (ps_set (i := 2) sc.nd rfl (by first | exact Or.inl rfl | exact Or.inr rfl) (pe_f F__law_lines hr__law_lines pass0 (pa_cons (pe_f F__law_service hr__law_service pass0 (pa_cons (pv 1) pa_nil)) pa_nil)))
    (pss_cons (ps_if (pt_cmpR op_ne (pe_f F__law_text_of hr__law_text_of pass0 (pa_cons (pe_f F__law_lines hr__law_lines pass0 (pa_cons (pe_f F__law_parts hr__law_parts pass0 (pa_cons (pe_f F_parse_service hr_parse_service (passes_call (E := fun _ _ _ => False) takes0 fun _ _ _ _ h => h) (pa_cons (pe_f F__law_text_of hr__law_text_of pass0 (pa_cons (pv 2) pa_nil)) pa_nil)) pa_nil)) pa_nil)) pa_nil)) (pe_f F__law_text_of hr__law_text_of pass0 (pa_cons (pv 2) pa_nil)) (nomark _)) (pss_one (ps_ret pe_bl)) pss_nil)
    (pss_cons (ps_for PassesOwn.never rfl (pi_range1 (by rfl) T.free (pa_cons (pe_f F__law_draw hr__law_draw pass0 (pa_cons (pv 1) (pa_cons pe_int pa_nil))) pa_nil)) (pg_name (i := 3) sc.nd rfl (by first | exact Or.inl rfl | exact Or.inr rfl)) (pss_one (ps_if (pt_cmpR op_gt (pe_callB call_len_seq (by rfl) T.free PySem.boot_len (pa_cons (pv 2) pa_nil)) pe_int (nomark _)) (pss_one (ps_set (i := 2) sc.nd rfl (by first | exact Or.inl rfl | exact Or.inr rfl) (pe_f F__law_changed hr__law_changed pass0 (pa_cons (pv 1) (pa_cons (pv 2) pa_nil))))) pss_nil)))
    (pss_cons (ps_set (i := 4) sc.nd rfl (by first | exact Or.inl rfl | exact Or.inr rfl) (pe_f F__law_text_of hr__law_text_of pass0 (pa_cons (pv 2) pa_nil)))
    (pss_cons (ps_for PassesOwn.never rfl (pi_range1 (by rfl) T.free (pa_cons pe_int pa_nil)) (pg_name (i := 3) sc.nd rfl (by first | exact Or.inl rfl | exact Or.inr rfl)) (pss_one (ps_try_as (i := 6) (tb := tbL K) (ts := tsL K) (Wout := fun _ _ _ _ => False) rfl rfl sc.nd rfl rfl ⟨rfl, by decide, Or.inl T.glo⟩ takes0 (fun W pn xe tkW _ => by exact (pss_cons (ps_set (i := 5) sc.nd rfl (by first | exact Or.inl rfl | exact Or.inr rfl) (pe_f F__law_text_of hr__law_text_of pass0 (pa_cons (pe_f F__law_lines hr__law_lines pass0 (pa_cons (pe_f F__law_parts hr__law_parts pass0 (pa_cons (pe_fS F_parse_service hr_parse_service (fun σ => passAt tkW σ) (pa_cons (pv 4) pa_nil)) pa_nil)) pa_nil)) pa_nil)))
    (pss_one (ps_if (pt_cmpR op_ne (pv 5) (pv 4) (nomark _)) (pss_one (ps_ret pe_bl)) pss_nil)))) (fun a oe cls d pn hz hf => psG fun x dd hx ec ed => by
    subst ec ed
    have EC := excC_of T hx
    have XC := xfC_of T hx
    have XN := (T.err hx).noW
    have hz2 := hz
    exact (pss_one (ps_if (PW.pt (pw_or (pt_not (pt_val (pe_callB (call_isX EC hz2 hf) (by rfl) T.free (by decide +kernel) (pa_cons (pv 6) (pa_cons (pe_bltn (v := .ty "ValueError") (by rfl) T.free (by decide +kernel) rfl) pa_nil))))) (pw_or1 (pt_not (pt_val (pe_callB RZ.call_isTy (by rfl) T.free (by decide +kernel) (pa_cons (pe_xf XC XN hz2 hf (pv 6)) (pa_cons (pe_bltn (v := .ty "str") (by rfl) T.free (by decide +kernel) rfl) pa_nil)))))))) (pss_one (ps_ret pe_bl)) pss_nil))))))
    (pss_one (ps_ret pe_bl)))))))), ?_⟩
  obtain ⟨sl, cells, rfl, hs, hQ⟩ := h
  refine ⟨_, rfl, sl, cells, rfl, hs, fun dk l H1 k1 d1 => ?_⟩
  refine ⟨_, rfl, dk, l, 19, rfl, d1, fun p l1 l2 l3 l4 us ws S r' H2 hp hP hok k2 d2 => ?_⟩
  have ndk : ∀ H', Dk dk l r' H' → H' dk ≠ none := fun H' h z => by
    obtain ⟨a, c, b, cells, h1, _⟩ := h
    rw [h1] at z
    cases z
  refine ⟨p, l1, l2, l3, l4, us, ws, S, dk, rfl, hp, hP, hok, ndk H2 d2, fun v H3 k3 hL => ?_⟩
  have d3 := d2.keep k3
  obtain ⟨b0, f0⟩ := svc_bnd hok
  have j0 := jok_bnd (by decide) b0
  refine ⟨_, rfl, S.lines, v, dk, rfl, hL, j0, fun H4 k4 => ?_⟩
  refine ⟨textOf S.lines, rfl, bnd_ok (by decide) b0, ?_⟩
  rw [svc_read hok]
  refine ⟨fun _ sv H5 k5 hs => ?_, fun no => (no hok).elim⟩
  have d5 := (d3.keep k4).keepW k5
  have hL5 := (hL.keep k4.g).keepW k5
  refine ⟨sv, S, rfl, hs, fun p6 q1 q2 q3 q4 us6 ws6 H6 k6 hp6 hP6 => ?_⟩
  refine ⟨p6, q1, q2, q3, q4, us6, ws6, S, dk, rfl, hp6, hP6, hok, ndk H6 (d5.keep k6), fun v7 H7 k7 hL7 => ?_⟩
  refine ⟨S.lines, v7, dk, rfl, hL7, j0, fun H8 k8 => ?_⟩
  have k58 := (k6.trans k7).trans k8
  have hL8 := hL5.keep k58.g
  refine ⟨_, rfl, S.lines, v, dk, rfl, hL8, j0, fun H9 k9 => ⟨rfl, _, rfl, itF (by simp) ?_⟩⟩
  have d9 := d5.keep (k58.trans k9)
  have hL9 := hL8.keep k9.g
  clear hp hP k2 d2 hp6 hP6 k6 hL7 k7 k8 k9 k58 hL8 hL5 hs k5 d5 hL k3 d3 k4 k1 d1
  -- the changes
  refine ⟨_, rfl, dk, l, r', 4, rfl, by decide, by decide, d9, fun n HA n0 n1 kA dA => ⟨n, rfl, by omega, by omega, ?_⟩⟩
  refine for_range (lo := 0) (n := n.toNat) (fun i σ H' => ∃ (L : List (List Str)) (v : V) (kv : Option V), σ = [some (.ref sl), some (.ref dk), some v, kv, none, none, none] ∧ LinesAt dk H' L v ∧ Bnd i L ∧ Dk dk l r' H') ⟨S.lines, v, none, rfl, hL9.keep kA, b0, dA⟩ (fun i σ H' hi ⟨L, v, kv, es, hL, hB, hD⟩ => ?_) (fun σ H' ⟨L, v, kv, es, hL, hB, hD⟩ => ?_)
  · subst es
    obtain ⟨q, vs, rfl, hq, nq, hp⟩ := id hL
    have lvs := Paired.length hp
    refine ⟨_, rfl, q, _, rfl, .inl (SqL.of hq), _, _, rfl, rfl, _, rfl, ?_⟩
    by_cases c : L = []
    · refine itF (decide_eq_false (by rw [c] at lvs; rw [← lvs]; decide)) ?_
      exact ⟨L, _, _, rfl, hL, ⟨by have := hB.1; omega, fun ws hw => ⟨by have := (hB.2 ws hw).1; omega, (hB.2 ws hw).2⟩⟩, hD⟩
    · refine itT (decide_eq_true (by have := List.length_pos_iff.mpr c; omega)) ?_
      exact ⟨_, rfl, _, rfl, dk, l, r', i, L, _, rfl, hD, hL, c, hB, by omega, fun v2 L2 HB hL2 hB2 _ dB => ⟨L2, v2, _, rfl, hL2, hB2, dB⟩⟩
  subst es
  have hn : n.toNat ≤ 10 := by omega
  have okt := bnd_ok hn hB
  refine ⟨_, rfl, L, v, dk, rfl, hL, jok_bnd hn hB, fun HB kB => ?_⟩
  generalize textOf L = t at okt ⊢
  refine ⟨2, rfl, by decide, by decide, ?_⟩
  refine for_range (lo := 0) (n := 2) (g := gName 3) (tb := fun D σ H => tbL K (wAs K (.ref (He.ga K "TalkError")) 6 (tsL K) (fun _ _ _ _ => False) D) D σ H) (fun i σ H' => ∃ a b c, σ = [some (.ref sl), some (.ref dk), some v, a, some (.str t), b, c]) ⟨_, _, _, rfl⟩ (fun i σ H' hi ⟨a, b, c, es⟩ => ?_) (fun σ H' ⟨a, b, c, es⟩ => ?_)
  rotate_left
  · exact hQ H'
  subst es
  refine ⟨_, rfl, t, rfl, okt, ?_⟩
  refine optSplit (fun cls d H2 k2 hR => ?_) (fun S2 e re => ?_)
  · obtain ⟨x, dd, pl, hx, rfl, rfl, hdd⟩ := hR
    refine ⟨true, (T.err hx).exm, fun _ a na => ⟨x, dd, hx, rfl, rfl, ?_⟩, fun z => (nomatch z)⟩
    refine ⟨_, rfl, .ty "ValueError", .type "ValueError", true, _, rfl, fun u hu => hu, (T.err hx).kit, hdd, _, rfl, itF rfl ?_⟩
    refine ⟨_, rfl, rfl, rfl, dd, _, .str x, rfl, hdd, ?_, _, _, rfl, .str x, _, rfl, itF rfl ⟨_, _, _, rfl⟩⟩
    rfl
  · obtain ⟨eW, _⟩ := svc_some e
    have et : textOf S2.lines = t := by rw [← eW, textOf_words]
    have jt : JOk S2.lines := by rw [← eW]; exact jok_text okt
    refine ⟨fun ok sv H5 k5 hs => ?_, fun _ => re⟩
    refine ⟨sv, S2, rfl, hs, fun p6 q1 q2 q3 q4 us6 ws6 H6 k6 hp6 hP6 => ?_⟩
    refine ⟨p6, q1, q2, q3, q4, us6, ws6, S2, p6, rfl, hp6, hP6, ok, by rw [hp6]; exact fun z => (nomatch z), fun v7 H7 k7 hL7 => ?_⟩
    refine ⟨S2.lines, v7, p6, rfl, hL7, jt, fun H8 k8 => ?_⟩
    rw [et]
    exact ⟨_, rfl, _, rfl, rfl, _, rfl, itF (by simp) ⟨_, _, _, rfl⟩⟩
end
end L2.Ta

set_option maxHeartbeats 0
/-! the head's run -/
namespace L2.Ta
open PySem PySem.Spec PyProof.Rows L2
abbrev R : PySem.W.OpenRow := PySem.W.OpenLaw.row PySem.Challenge.rw_talkalike_k35_whole_accepted_texts
abbrev hk : PySem.W.Hook := hookM 6 FA fns tabs
def ob (s : PySem.W.SharedT) : AlM := obsMG 6 FA fns tabs (HandSHeadRun.getT s)
theorem ob_eq (s : PySem.W.SharedT) : ob s = hk.obs s.abs := obsMG_eq (HandSHeadRun.getT_eq s)
theorem run_f (w : World) : HandSHeadRun.RunEq R (PySem.W.view R.prog [82]) hk ob 20000 loose (w.withFollow "special-get-raises" false) := by
  intro os
  kernel_rfl
theorem run_t (w : World) : HandSHeadRun.RunEq R (PySem.W.view R.prog [82]) hk ob 20000 loose (w.withFollow "special-get-raises" true) := by
  intro os
  kernel_rfl
theorem run (w : World) : HandSHeadRun.RunEq R (PySem.W.view R.prog [82]) hk ob 20000 loose w := PySem.W.byRow2 "special-get-raises" (P := fun w => HandSHeadRun.RunEq R (PySem.W.view R.prog [82]) hk ob 20000 loose w) run_f run_t w
end L2.Ta

set_option maxHeartbeats 0
namespace L2.Ta
open PySem PySem.Spec PyProof.Rows L2 TL
theorem facts {P : Program} {w : World} {K : PySem.W.Frag} {h : Heap} {mg : Str → Option Value} {f : Addr} (X : K.In h) (G : h.Ns mainGlobals mg) (hfa : mg ("law" : Str) = some (.ref f)) (c : SaysM FA fns tabs w K) :
    ∃ fd : FuncData, (∀ (s : Shared) (v : Value), BindsTo s fd ⟨[v], []⟩ [("_law_script", v)]) ∧ ∀ base : Heap, K.In base → base.Ns mainGlobals mg → FnOk P w K mg base CX0 18 f fd ["_law_script"] (spLaw K) := by
  have T : Tx w K mg := ⟨c, h, X, G⟩
  obtain ⟨fd, F⟩ := T.def_ 67
  have e := hfa.symm.trans (T.glo (x := "law"))
  cases e
  have b := FunD.bindsA (ps := ["_law_script"]) F fun _ _ _ _ _ _ us hl => match us, hl with | [_], _ => rfl
  exact ⟨fd, fun s v => b s [v] rfl, fun base _ _ => ok_law T F⟩
end L2.Ta
open PySem PySem.W PySem.Calls PyProof.Rows
theorem PySem.Challenge.cw_talkalike_k35_whole_accepted_texts_holds : PySem.Challenge.rw_talkalike_k35_whole_accepted_texts.Holds := by
  w_on; o_law
  refine HandSHeadRun.head_any (r := OpenLaw.row PySem.Challenge.rw_talkalike_k35_whole_accepted_texts) (q := view (OpenLaw.row PySem.Challenge.rw_talkalike_k35_whole_accepted_texts).prog [82]) (H := L2.Ta.hk) (ob := L2.Ta.ob) (M := 20000) (loose := L2.Ta.loose) (d := HandSHeadRun.topDef (OpenLaw.row PySem.Challenge.rw_talkalike_k35_whole_accepted_texts).prog 82) (kwd := []) L2.Ta.ob_eq
    (by kernel_rfl) (fun s => by kernel_rfl) L2.Ta.run (by kernel_rfl) (by kernel_rfl) (by kernel_rfl) (by rfl) (by first | assumption | decide +kernel) (by decide +kernel) ⟨rfl, rfl, rfl, rfl, rfl, by decide +kernel⟩ ?hw ?hc
  case hw => w_witness2
  case hc =>
    refine L2.walk_ofE (l := PySem.Challenge.rw_talkalike_k35_whole_accepted_texts) (n := 63) (k := 18) (x := "_law_script") (CX := L2.CX0) rfl (by decide) (by kernel_rfl) ⟨rfl, by decide, by decide⟩ ?F (fun _ _ _ _ z => z)
    intro w mg fa h Y G hmg0
    obtain ⟨K, KX, c⟩ := Y
    have hmg : mg ("law" : PySem.Str) = some (.ref fa) := by
      have e : (HandSHeadRun.topDef (OpenLaw.row PySem.Challenge.rw_talkalike_k35_whole_accepted_texts).prog 82).name = ("law" : PySem.Str) := by kernel_rfl
      rw [← e]
      exact hmg0
    obtain ⟨fd, hb, hF⟩ := L2.Ta.facts (P := (PySem.Challenge.rw_talkalike_k35_whole_accepted_texts).prog) (w := w) KX G hmg c
    exact ⟨K, fd, L2.Ta.spLaw K, KX, hb, fun H a ns hl _ hS => ⟨a, ns, rfl, hS, fun _ => rfl⟩, hF⟩
