import PyProof.Rows.All
import Wide.All
import OpenK.AllK
import Wide.FinOn
import PyProof.StrOps2
import PyProof.ReprRoads
import KE.KDictList
import OpenK.KOps
import HandS.ForMost
import HandS.ForExc
import HandS.Flow
import HandS.IsInst
import HandS.ExcInit
import HandS.ExcIs
import HandS.ExcField
import HandS.Codes
import HandS.DictComp
import HandS.ListItems
import HandS.WideBits
import HandS.Wide
import HandS.SortInts
import HandS.Style
import HandS.Conv
import HandS.More
import HandS.TupLen
import HandS.WrittenGet
import KE.KExcIs
import HandS.HeadHook4
import PySem.Challenge.RW_coatrows_k60_whole_covered_deeds
import HandS.Defaults
import HandS.Head0
import HandS.Head1
import HandS.Head2
import HandS.HeadEnd
import HandS.HeadHook1
import HandS.HeadHook2
import HandS.HeadHook3
import HandS.Walk
import KE.GoesEnum
import KE.GoesMore
set_option Elab.async false
set_option linter.all false
set_option maxRecDepth 100000
set_option maxHeartbeats 0
section
/-! Rules that the layer lacks, for the proof of covered deeds. -/
namespace Cw
open PySem PySem.Spec PyProof.Rows L2
section
variable {X : Cx}
/-- a text times 0 or 1 -/
def rMulS : R2 := fun x y H Q => ∃ (z : Str) (n : Int), x = .str z ∧ y = .int n ∧ (n = 0 ∨ n = 1) ∧ (n = 0 → Q (.str Str.empty) H) ∧ (n = 1 → Q (.str z) H)
theorem op_mulS : OpR X (binaryOp .Mult) rMulS := by
  intro pins s σ H x y v u Q I rx ry h
  obtain ⟨z, n, rfl, rfl, hn, h0, h1⟩ := h
  obtain ⟨t, rfl⟩ := rx
  obtain ⟨t', rfl⟩ := ry
  rcases hn with rfl | rfl
  · exact P.mul_str_none (by decide) (by decide) ⟨.str Str.empty, H, I.tok _, ⟨_, rfl⟩, h0 rfl⟩
  · refine P.mul_str (by decide) (fun _ e => by simp at e) (fun _ e => by simp at e) ?_
    rw [if_neg (by decide), if_pos (by simp)]
    exact ⟨.str z, H, I, ⟨_, rfl⟩, h1 rfl⟩
/-- len of an instance whose class has a __len__ at g -/
def rLenO (C : Addr) (sp : Sp) (E : XK) : List V → Hp → VK → Prop := fun xs H Q => ∃ a dx fs, xs = [V.ref a] ∧ H a = some (.ins C dx fs) ∧ sp [.ref a] H (fun z H' => ∃ i : Int, z = .int i ∧ 0 ≤ i ∧ i < 2 ^ 63 ∧ Q z H') E
theorem call_lenO {CX : CXT} {k : Nat} {g C : Addr} {fd : FuncData} {ps : List Str} {sp : Sp} {E : XK} (hs : PySem.W.findIn X.K (.ref C) "__len__" = some (some (.ref g))) (hf : PySem.W.isFn X.K (.ref g) = true)
    (F : FnOk X.prog X.w X.K X.mg X.base CX k g fd ps sp) (hb : Binds X.K fd ps []) (hr : Room (k + 1) X.A) (hx : Passes CX X E) : CallR X (.builtin "len") (rLenO C sp E) := by
  intro pins s σ H xs us Q I r h
  obtain ⟨a, dx, fs, rfl, ha, q⟩ := h
  obtain ⟨u, rfl, ru⟩ : ∃ u, us = [u] ∧ RelV (.ref a) u := by
    cases r with
    | cons p q' =>
      cases q'
      exact ⟨_, rfl, p⟩
  cases (show u = Value.ref a from ru)
  obtain ⟨mA, O, _, _, _, _⟩ := ins_get I.hok ha
  obtain ⟨od, J, _⟩ := O.look
  obtain ⟨m, hF⟩ := I.fr
  have hl : ([Value.ref a] ++ []).length = ps.length := F.len _ _ _ _ q
  refine PySem.W.len_K hF I.ok.mod.kin J hs hf (wpAny_call (codeAny_mono (F.run X.A.in1 X.stack s H ⟨[Value.ref a], []⟩ ([Value.ref a] ++ []) [V.ref a] _ E hr.in1 I.env0.in1 (hb s [Value.ref a] I.kIn hl) (.cons (show RelV (.ref a) (.ref a) from rfl) .nil) q) fun res s' hq => ?_))
  cases res with
  | error e => exact hx pins σ H s e s' I hq
  | ok fl =>
    cases fl with
    | ret u =>
      obtain ⟨z', H', I', rz, i, ei, h0, h1, qz⟩ := I.after hq
      subst ei
      obtain ⟨t, e⟩ := (show ∃ t, u = Value.int i t from rz)
      cases e
      exact ⟨⟨h0, h1⟩, .int i, H', I'.tok _, ⟨_, rfl⟩, qz⟩
    | next => exact False.elim hq
    | brk => exact False.elim hq
    | cont => exact False.elim hq
/-- list(e.values()), a dict of ints and texts -/
def tListVals (te : TE) : TE := fun σ H Q => te σ H fun x H1 => ∃ (d : Addr) (kvs : List (Key × V)), x = .ref d ∧ H1 d = some (.dK kvs) ∧ ∀ p, H1 p = none → Q (.ref p) (upd H1 p (.lst (kvs.map (·.2))))
theorem kv_vals : ∀ {kvs : List (Key × V)} {vs : List (Key × Value)}, KV kvs vs → Vals (kvs.map (·.2)) (vs.map (·.2))
  | _, _, .nil => .nil
  | _, _, .cons r t => .cons r.2 (kv_vals t)
theorem pe_listVals {e : Expr} {te : TE} {p apos cpos pos : Pos} (hc : X.calm = true) (he : PE X e te) (hg : Gl X "list") (hm : X.mg "list" = none) (hv : bootBuiltins "list" = some (.type "list")) (hbase : attributeBase e "values" X.env (eval e X.env) = eval e X.env := by rfl) (hline : (apos.endLine == cpos.line) = true := by rfl)
    (hs : starEach [.Call (.Attribute e "values" apos) [] [] cpos] X.env = (false, eval (.Call (.Attribute e "values" apos) [] [] cpos) X.env) :: starEach [] X.env := by rfl) :
    PE X (.Call (.Name "list" p) [.Call (.Attribute e "values" apos) [] [] cpos] [] pos) (tListVals te) := by
  refine ⟨fun pins s σ H Q I hq => ?_⟩
  refine wpAny_Call_Name_kw (ld_blt I hg hm hv (PyProof.Rows.callWith_type1 ?_ hs rfl))
  rw [hs]
  show wpAny _ _ (spliced ((false, eval (.Call (.Attribute e "values" apos) [] [] cpos) X.env) :: backTo pos (starEach [] X.env))) _ _ s
  refine Calls.spliced_cons (wpAny_Call_method (T := "dict") (id := "dict.values") hbase rfl hline F.plainAttrs_dict F.slot_dict_values F.type_dict_values (thn (he.run pins s σ H _ I hq) fun u s1 ⟨x, H1, I1, rx, d, kvs, ex, hd, q⟩ => ?_))
  subst ex
  obtain rfl : u = Value.ref d := rx
  obtain ⟨hz, hs0, vs, kv, hdo⟩ := I1.hok d _ hd
  obtain ⟨ep, hat⟩ := hdo.dictAt
  have lk : kvs.length = vs.length := Paired.length kv
  have I2 : Inv X pins σ H1 { s1 with heap := s1.heap.push { cls := .type "dict_values", data := .fields #[.ref d] } } := I1.kept (t' := s1.toks) fun b ob q => Heap.get?_push_of_some _ q
  refine ⟨hdo.typeIs, hdo.mapOf.noDict, ?_⟩
  show wpAny _ _ (callWith cpos (.builtin "dict.values") [.ref d] [] []) _ X.xe s1
  refine method_meetsIn F.slot_dict_values F.entry_dict_values rfl (PySem.evalArgs_none ⟨rfl, hdo.typeIs, F.args_dict_values_1 _, _, meets_dict_values (mixKind X.prog X.w) d hs0, ⟨vs, hdo⟩, ?_⟩)
  refine Calls.spliced_nil ?_
  refine PySem.W.kdl_call (PySem.W.kdl_values (knd := mixKind X.prog X.w) (kvs := vs) (ep := ep) (r := s1.heap.objs.size) (d := d)) (I1.ok.hd hc) ⟨⟨_, Heap.get?_push_size _ rfl, rfl, rfl⟩, hat.push _⟩ (by omega) fun h' tk acc c hk hS hacc => ?_
  have ev : acc.toList = vs.map (·.2) := by
    apply List.ext_getElem?
    intro i
    by_cases hi : i < vs.length
    · have hi2 : i < acc.size := by rw [hacc.1]; exact hi
      have e1 : acc[i]? = some acc[i] := Array.getElem?_eq_getElem hi2
      obtain ⟨k, ek⟩ := hacc.2 i _ e1
      rw [Array.getElem?_toList, e1, List.getElem?_map, ek]
      rfl
    · rw [List.getElem?_eq_none (by rw [Array.length_toList, hacc.1]; omega), List.getElem?_eq_none (by rw [List.length_map]; omega)]
  refine ⟨.ref _, upd H1 _ (.lst (kvs.map (·.2))), I2.laid (t' := tk) hk (Nat.le_refl _) ⟨?_, acc.toList, c, ?_, ?_⟩, rfl, q _ (I2.hok.fresh (Nat.le_refl _))⟩
  · rw [List.length_map]
    exact hz
  · rw [ev]
    exact kv_vals kv
  · rw [Array.toArray_toList]
    exact hS
/-- d.get(k), a written dict with text keys -/
def tKGet (K : PySem.W.Frag) (w : World) (td ty : TE) : TE := fun σ H Q => td σ H fun x H1 => ∃ a, x = .ref a ∧ (∃ es n, KDict K w a es n) ∧ ty σ H1 fun y H2 => ∃ (z : Str) (r : Option Value) (v : V), y = .str z ∧ PySem.W.nsIn K a z = some r ∧ RelV v (r.getD .none) ∧ Q v H2
theorem pe_kget {o e : Expr} {apos cpos : Pos} {td ty : TE} (ho : PE X o td) (he : PE X e ty) (m : M1 X o "get" apos e cpos) : PE X (.Call (.Attribute o "get" apos) [e] [] cpos) (tKGet X.K X.w td ty) := by
  refine ⟨fun pins s σ H Q I h => ?_⟩
  refine wpAny_Call_method m.base m.few m.line PySem.F.plainAttrs_dict PySem.F.slot_dict_get PySem.F.type_dict_get (thn (ho.run pins s σ H _ I h) fun u s1 ⟨x, H1, I1, rx, a, ex, ⟨es, n, D⟩, q1⟩ => ?_)
  subst ex
  obtain rfl : u = Value.ref a := rx
  refine ⟨kd_type D I1, fun b q => ?_, ?_⟩
  · cases q
    exact ⟨_, I1.kIn _ _ D.at_, rfl⟩
  · rw [m.trees]
    refine Calls.callWith_builtin rfl (Calls.evalArgs_plain (Calls.spliced_cons (thn (he.run pins s1 σ H1 _ I1 q1) fun iv s2 ⟨y, H2, I2, ry, z, r, v, ey, hn, rv, q2⟩ => Calls.spliced_nil ?_)))
    subst ey
    obtain ⟨t, rfl⟩ := (show ∃ t, iv = Value.str z t from ry)
    refine call_meetsIn PySem.F.slot_dict_get (kd_type D I2) PySem.F.entry_dict_get (PySem.F.args_dict_get_2 _ _) (meets_dict_get (strKind X.prog X.w) a (strKind_is X.prog X.w z t) D.low) ⟨_, PySem.W.mapOf_K (prog := X.prog) I2.kIn D.at_ D.lit, ?_⟩
    rw [PySem.W.find_K D.at_ hn]
    exact ⟨v, H2, I2.tok _, rv, q2⟩
end
end Cw
end
section
/-! Exceptions: own classes over an own class over ValueError; an exception that is kept behind its clause. -/
namespace Cw
open PySem PySem.Spec PyProof.Rows L2
/-! ### the classes -/
/-- a look at an own class over ValueError, with an __init__ of its own -/
def oexB (K : PySem.W.Frag) (C : Addr) : Bool := (match K.lookup C with
  | some ⟨.type "type", _, .cls cd, sl⟩ => (match cd.mro, sl.toList with
    | .ref C' :: bm, [_, _, _, _, some (.builtin n), _] => decide (C' = C) && (decide (n = "ValueError.__new__") && (!cd.hasDel && (cd.hasDict && PySem.HandSPX.refsVE bm)))
    | _, _ => false)
  | _ => false) && (decide (PySem.W.findIn K (.ref C) "__setattr__" = some (some (.builtin "object.__setattr__"))) && (decide (PySem.W.subIn K (.ref C) (.type "BaseException") = some true) &&
    (decide (PySem.W.typeIn K (.ref C) = some (.type "type")) && PySem.W.keepIn K (.ref C))))
theorem oexB_ok {K : PySem.W.Frag} {C : Addr} (h : oexB K C = true) : OexC K C := by
  unfold oexB at h
  obtain ⟨h1, h⟩ := Bool.and_eq_true_iff.mp h
  obtain ⟨h2, h⟩ := Bool.and_eq_true_iff.mp h
  obtain ⟨h3, h⟩ := Bool.and_eq_true_iff.mp h
  obtain ⟨h4, h5⟩ := Bool.and_eq_true_iff.mp h
  refine ⟨?_, of_decide_eq_true h2, of_decide_eq_true h3, of_decide_eq_true h4, h5⟩
  split at h1
  · rename_i dd cd sl ho
    split at h1
    · rename_i C' bm k0 k1 k2 k3 n k5 hm hs
      obtain ⟨e1, h1⟩ := Bool.and_eq_true_iff.mp h1
      obtain ⟨e2, h1⟩ := Bool.and_eq_true_iff.mp h1
      obtain ⟨e3, h1⟩ := Bool.and_eq_true_iff.mp h1
      obtain ⟨e4, e5⟩ := Bool.and_eq_true_iff.mp h1
      have e1' := of_decide_eq_true e1
      have e2' := of_decide_eq_true e2
      subst e1' e2'
      obtain ⟨nm, bs, mro, ns, qn, hd, sn, sub, ab, col, del⟩ := cd
      dsimp only at hm e3 e4
      rw [Bool.not_eq_true'] at e3
      subst hm e3 e4
      have hsl : sl = #[k0, k1, k2, k3, some (.builtin "ValueError.__new__"), k5] := by
        obtain ⟨l⟩ := sl
        simp only at hs
        rw [hs]
      subst hsl
      exact ⟨nm, qn, ns, bs, bm, sn, sub, ab, col, dd, k0, k1, k2, k3, k5, ho, e5⟩
    · cases h1
  · cases h1
/-- what is asked of CoatError, that its __init__ may be called through it -/
structure BaseC (K : PySem.W.Frag) (C : Addr) : Prop where
  sg : PySem.W.specialIn K (.ref C) "__getattribute__" = some (some (.builtin "type.__getattribute__"))
  rd : PySem.W.readsIn K C (.type "type") = true
  fd : PySem.W.findCls K (.ref C) (.type "type") "__init__" = some (.val (.builtin "ValueError.__init__"))
def eqF : Option PySem.W.CFound → String → Bool
  | some (.val (.builtin a)), b => decide (a = b)
  | _, _ => false
theorem eqF_ok {o : Option PySem.W.CFound} {b : String} (h : eqF o b = true) : o = some (.val (.builtin b)) := by
  unfold eqF at h
  split at h
  · rename_i a b' 
    rw [of_decide_eq_true h]
  · cases h
def baseB (K : PySem.W.Frag) (C : Addr) : Bool := decide (PySem.W.specialIn K (.ref C) "__getattribute__" = some (some (.builtin "type.__getattribute__"))) && (PySem.W.readsIn K C (.type "type") && eqF (PySem.W.findCls K (.ref C) (.type "type") "__init__") "ValueError.__init__")
theorem baseB_ok {K : PySem.W.Frag} {C : Addr} (h : baseB K C = true) : BaseC K C := by
  obtain ⟨h1, h⟩ := Bool.and_eq_true_iff.mp h
  obtain ⟨h2, h3⟩ := Bool.and_eq_true_iff.mp h
  exact ⟨of_decide_eq_true h1, h2, eqF_ok h3⟩
section
variable {X : Cx}
/-- CoatError.__init__(self, ..) -/
theorem pe_cinit {e : Expr} {es : List Expr} {ta : TA} {x : Str} {B : Addr} {p1 p2 pos : Pos} {pl : Sem Bool} (hg : Gl X x) (hm : X.mg x = some (.ref B)) (b : BaseC X.K B) (ha : PA X (e :: es) ta) (hd : (x == ("__debug__" : Str)) = false := by decide)
    (hc : eval (.Call (.Attribute (.Name x p1) "__init__" p2) (e :: es) [] pos) X.env = (do
      let ov ← eval (.Name x p1) X.env
      standAt p2.atName
      let (f, first) ← holding [ov] (getMethod ov "__init__" pl)
      callWith pos f first (backTo pos (starEach (e :: es) X.env)) (backToKw pos (keywordEach [] X.env))) := by rfl)
    (he : starEach (e :: es) X.env = (false, eval e X.env) :: starEach es X.env := by rfl) (hpl : (backTo pos (starEach es X.env)).any (·.1) = false := by rfl) :
    PE X (.Call (.Attribute (.Name x p1) "__init__" p2) (e :: es) [] pos) (tVeI X.K ta) := by
  refine ⟨fun pins s σ H Q I h => ?_⟩
  refine PySem.W.methodCall_KW (ld_glob I hg hm (PySem.W.method_cls I.kIn b.sg (PySem.W.cls_value I.kIn b.rd b.fd (by decide +kernel) ?_)) hd) hc
  refine PyProof.Rows.callWith_method1 (thn (ha.run pos pins _ σ H _ (I.tok _) h) fun us s1 ⟨vs, H1, I1, r1, a, C, ws, ev, hl, T, ea, q⟩ => ?_) he hpl
  subst ev
  cases r1 with
  | @cons _ u0 _ ur ra rw' =>
    obtain rfl : u0 = Value.ref a := ra
    exact oinit_ok T I1 ea (by rw [← Paired.length rw', sizeLine_eq]; omega) fun s' J => ⟨.non, H1, J, rfl, q⟩
end
/-- the promise of such an __init__: one field f -/
def spIni (K : PySem.W.Frag) (f : Str) : Sp := fun vs H Q _ => ∃ (a C : Addr) (v : V), vs = [.ref a, v] ∧ OexC K C ∧ PySem.W.findIn K (.ref C) f = some none ∧ H a = some (exo a C none) ∧
  ∀ dx, H dx = none → dx ≠ a → Q .non (upd (upd H dx (exd dx [(f, v)])) a (exo a C (some dx)))
section
variable {X : Cx} {CX : CXT} {k : Nat} {fI C : Addr} {fd : FuncData} {ps : List Str} {W : WX} {x f : Str} {e : Expr} {te : TE} {p pos pos' : Pos}
/-- behind the argument of raise C(e): the object is made, its __init__ called -/
def rzK (K : PySem.W.Frag) (W : WX) (C : Addr) (f : Str) (σ : L2.St) (v : V) (H1 : Hp) : Prop := ([v] : List V).length ≤ 1000 ∧ ∀ a, H1 a = none → spIni K f (.ref a :: ([v] ++ [])) (upd H1 a (exo a C none))
  (fun v' H2 => v' = .non ∧ ∃ (d : Addr) (fs : List (Str × V)), H2 a = some (exo a C (some d)) ∧ H2 d = some (exd d fs) ∧ H1 d = none ∧ W (.ref C) (some d) σ (upd (del H2 a) d (.xd fs))) (fun _ _ _ => False)
theorem rz_of {K : PySem.W.Frag} {C : Addr} {σ : L2.St} {v : V} {H1 : Hp} (T : OexC K C) (hno : PySem.W.findIn K (.ref C) f = some none) (q : ∀ d, H1 d = none → W (.ref C) (some d) σ (upd H1 d (.xd [(f, v)]))) : rzK K W C f σ v H1 := by
  refine ⟨by simp, fun a ha => ⟨a, C, v, rfl, T, hno, upd_same, fun dx hdx hne => ⟨rfl, dx, [(f, v)], upd_same, ?_, ?_, ?_⟩⟩⟩
  · rw [upd_ne hne, upd_same]
  · rw [upd_ne hne] at hdx
    exact hdx
  · have hdx' : H1 dx = none := by
      rw [upd_ne hne] at hdx
      exact hdx
    have eq : upd (del (upd (upd (upd H1 a (exo a C none)) dx (exd dx [(f, v)])) a (exo a C (some dx))) a) dx (.xd [(f, v)]) = upd H1 dx (.xd [(f, v)]) := by
      funext b
      by_cases hbd : b = dx
      · rw [hbd, upd_same, upd_same]
      · rw [upd_ne hbd, upd_ne hbd]
        by_cases hba : b = a
        · rw [hba, del_same, ha]
        · rw [del_ne hba, upd_ne hba, upd_ne hbd, upd_ne hba]
    rw [eq]
    exact q dx hdx'
/-- raise C(e), an own exception with one field f -/
def tRz (K : PySem.W.Frag) (W : WX) (C : Addr) (f : Str) (te : TE) : TS := fun _ σ H => te σ H fun v H1 => rzK K W C f σ v H1
theorem ps_rz (hc : X.calm = true) (T : OexC X.K C) (iC : PySem.W.findIn X.K (.ref C) "__init__" = some (some (.ref fI))) (tI : PySem.W.typeIn X.K (.ref fI) = some (.type "function"))
    (F : FnOk X.prog X.w X.K X.mg X.base CX0 k fI fd ps (spIni X.K f)) (hr : Room (k + 1) X.A) (hb : Binds X.K fd ps []) (hg : Gl X x) (hm : X.mg x = some (.ref C)) (tk : Takes X W) (he : PE X e te)
    (hdb : (x == ("__debug__" : Str)) = false := by decide) (hs : starEach (e :: []) X.env = (false, eval e X.env) :: starEach [] X.env := by rfl) :
    PS X (.Raise (some (.Call (.Name x p) [e] [] pos)) none pos') (tRz X.K W C f te) :=
  ps_raise (pos := pos') hc tk (pmk_oex (p := p) (pos := pos) T iC tI F hr hb .nil (fun _ _ _ _ _ _ _ z => z.elim) hg hm (pa_cons he pa_nil hs) hdb hs rfl)
end
/-! ### an exception that is kept -/
/-- an exception of the class cls, its dict at d, that was caught -/
def kex (a : Addr) (cls : Value) (d : Option Addr) : HO := .ext fun h => ∃ (oe : Obj) (vs : Array Value), h.get? a = some oe ∧ Zc cls d oe ∧ oe.data = .fields vs
theorem kex_ok {P : Program} {w : World} {H : Hp} {h : Heap} {a : Addr} {cls : Value} {d : Option Addr} {oe : Obj} {vs : Array Value} (e : h.get? a = some oe) (z : Zc cls d oe) (dd : oe.data = .fields vs) : ObjOk P w H h a (kex a cls d) :=
  ⟨⟨oe, vs, e, z, dd⟩, ⟨oe, e⟩, fun _ h2 ⟨o, us, e1, z1, d1⟩ k => ⟨o, us, k o e1, z1, d1⟩⟩
section
variable {X : Cx} {pins : List (Addr × Obj)} {σ : L2.St} {H : Hp} {s : Shared}
theorem kex_at {P : Program} {w : World} {h : Heap} {a : Addr} {cls : Value} {d : Option Addr} (x : HOk P w H h) (e : H a = some (kex a cls d)) : ∃ (oe : Obj) (vs : Array Value), h.get? a = some oe ∧ Zc cls d oe ∧ oe.data = .fields vs :=
  (x a _ e).1
/-- an exception of ours is tracked from here on -/
theorem Inv.keepx {a : Addr} {oe : Obj} {vs : Array Value} {cls : Value} {d : Option Addr} (I : Inv X pins σ H s) (ha : s.heap.get? a = some oe) (hz : Zc cls d oe) (hd : oe.data = .fields vs) (na : H a = none) (n0 : X.s_0.heap.get? a = none) (nL : a ≠ X.env.locals)
    (np : ∀ q ∈ X.pn ++ pins, q.1 ≠ a) : Inv X pins σ (upd H a (kex a cls d)) s := by
  have un : Un X.fs X.ex X.H_0 (upd H a (kex a cls d)) X.s_0.heap s.heap :=
    { keep := I.base.keep, slot := I.base.slot, there := I.base.there
      free := fun b o e n hx => by
        have hb : b ≠ a := fun z => by rw [z, n0] at e; cases e
        rw [upd_ne hb]
        exact I.base.free b o e n hx
      tups := fun b xs e => by
        have q := I.base.tups b xs e
        rw [upd_ne (ne_of_none q na)]
        exact q
      frzs := fun b o u e => by
        have q := I.base.frzs b o u e
        rw [upd_ne (ne_of_none q na)]
        exact q
      tbls := fun b ps e => by
        obtain ⟨m, q⟩ := I.base.tbls b ps e
        exact ⟨m, by rw [upd_ne (ne_of_none q na)]; exact q⟩ }
  refine ⟨I.ok, I.os, I.bare, un, I.loc, I.cell, ?_, fun x c e => ?_, fun q hq => ?_, fun b u q => ?_, I.len⟩
  · rw [upd_ne (Ne.symm nL)]
    exact I.free
  · have hc : c ≠ a := fun z => by
      obtain ⟨v, o, e1, e2⟩ := I.cell x c e
      rw [z, ha] at e1
      cases e1
      rw [hd] at e2
      cases e2
    rw [upd_ne hc]
    exact I.freeC x c e
  · obtain ⟨e1, e2, e3⟩ := I.pin q hq
    exact ⟨e1, by rw [upd_ne (np q hq)]; exact e2, e3⟩
  · by_cases hb : b = a
    · subst hb
      rw [upd_same] at q
      cases q
      exact kex_ok ha hz hd
    · rw [upd_ne hb] at q
      refine (I.hok b u q).stay (fun _ _ _ z => z) (fun c z => ?_) fun c xs z => ?_
      · rw [upd_ne (ne_of_none z na)]
        exact z
      · rw [upd_ne (ne_of_none z na)]
        exact z
end
/-- what the clause 'except x as n: m = n' wishes: the exception is kept at m -/
def wKeep (K : PySem.W.Frag) (c : Value) (i j : Nat) (D : Ends) : WX := fun cls d σ H => PySem.W.exmOne K cls c = some true ∧ ∀ a, H a = none → D.nx ((((σ.set i (some (.ref a))).set j (some (.ref a)))).set i none) (upd H a (kex a cls d))
section
variable {X : Cx} {x n m : Str} {c : Value} {i j : Nat} {body : List Stmt} {np pn' pm ps' pos pos' : Pos} {tb : WX → TS}
theorem ps_try_keep (hs : X.stack = X.env :: X.outer) (hf : X.env.frame = some X.env.locals) (hex : X.ex = []) (hN : X.N.Nodup) (hi : X.N[i]? = some n) (hj : X.N[j]? = some m) (hln : X.env.kindOf n = some .local) (hlm : X.env.kindOf m = some .local) (hc : Names X x c)
    (hdn : (n == ("__debug__" : Str)) = false) (hcn : (n == ("__classdict__" : Str)) = false)
    (hsw : swapsWith (.Name n pn') (some (.Name m pm)) ps'.line X.env = pure false)
    (hb : ∀ (W : WX) (pn : List (Addr × Obj)) (xe : Value → Shared → Prop), Takes (X.tr pn xe) W → PassesOwn (model X.prog X.w) X.A X.env xe → PSs (X.tr pn xe) body (tb W)) :
    PS X (.Try body [.ExceptHandler (some (.Name x np)) (some n) [.Assign [.Name m pm] (.Name n pn') ps'] pos'] [] [] pos) (fun D σ H => tb (wKeep X.K c i j D) D σ H) := by
  refine ⟨fun pins s σ H D I h => ?_⟩
  have ok := I.ok
  have hfr : X.A.frames = some (X.env :: X.outer) := hs ▸ ok.frames
  refine wpAny_Try_except (wpAny_mono ((hb (wKeep X.K c i j D) (X.pn ++ pins) (fun e s₁ => wpAny (model X.prog X.w) X.A (noteFrame e X.env) (fun _ s₂ => wpAny (model X.prog X.w) X.A (setFlight e none) (fun _ s₃ =>
    wpAny (model X.prog X.w) X.A (handleBy e X.env [.ExceptHandler (some (.Name x np)) (some n) [.Assign [.Name m pm] (.Name n pn') ps'] pos']) (SP X pins D) X.xe s₃) X.xe s₂) X.xe s₁) (fun u s' xx => ?_) PassesOwn.looking).run [] s σ H D (I.toTry _) h) (fun f s1 hsp => ?_) fun _ _ z => z)
  · obtain ⟨a, B, sI, pins', σ', H', cls, d, rfl, J', nb, up, sky, na, os, ag, hm, hgo⟩ := xx
    have J : Inv X pins σ' H' sI := J'.ofTry ok
    refine Sky.land (env := X.env) (outer := X.outer) (L := X.env.locals) (B := B) (Z := Zc cls d) Zc.steady hfr hf (hs ▸ sky) fun h3 fl3 up3 => ?_
    have J3 : Inv X pins σ' H' { s' with heap := h3 } := J.landed nb fl3.1 (up.trans up3) os ag
    obtain ⟨oe3, vs3, he3, hz3, hd3⟩ := fl3.there
    have nB : B.get? a = none := fl3.2.1
    have nfr : a ∉ frs (X.env :: X.outer) := fun hm => by
      obtain ⟨_, o', e', hnf⟩ := fl3.2.2.1.mem hm
      rw [he3] at e'
      cases e'
      exact hnf _ hd3
    have nst : a ∉ frs X.stack := by rw [hs]; exact nfr
    have nL : a ≠ X.env.locals := fun z => nfr (List.mem_filterMap.mpr ⟨X.env, List.mem_cons_self, by rw [hf, z]⟩)
    have nF : a ∉ X.fs := fun hm => by
      obtain ⟨e, he, q⟩ := List.mem_filterMap.mp hm
      exact nfr (List.mem_filterMap.mpr ⟨e, List.mem_cons_of_mem _ he, q⟩)
    have nI : sI.heap.get? a = none := by
      cases q : sI.heap.get? a with
      | none => rfl
      | some o =>
        rw [nb a o q nst] at nB
        cases nB
    have n0 : X.s_0.heap.get? a = none := by
      cases q : X.s_0.heap.get? a with
      | none => rfl
      | some o =>
        obtain ⟨o', e'⟩ := J.base.there a o q (by rw [hex]; exact fun z => nomatch z)
        rw [nI] at e'
        cases e'
    have nq : ∀ q ∈ X.pn ++ pins, q.1 ≠ a := fun q hq z => by
      have e := (J.pin q hq).1
      rw [z, nI] at e
      cases e
    have S3 := J3.suite he3 hd3 na nL nF
    refine wpAny_handleBy_cons (codeAny_handlers_test ?_) (by intro q; cases q)
    have LT : PySem.W.Looks (model X.prog X.w) h3 (typeOf (.ref a)) cls := fun A Q E s k q => wpAny_typeOf_ref (k _ _ he3) (by rw [hz3.1]; exact q)
    have LM := PySem.W.exm_one (M := model X.prog X.w) J3.kIn LT hm
    have test : ∀ {Q : Value → Shared → Prop} {E : Value → Shared → Prop}, Q c { s' with heap := h3 } → wpAny (model X.prog X.w) (X.A.mark (some (.ref a))) (eval (.Name x np) X.env) Q E { s' with heap := h3 } := fun {Q E} q => by
      obtain ⟨hg, hdbg, hm | ⟨hm, hv, hnn⟩⟩ := hc
      · exact ld_glob (X := X.suite a ((a, oe3) :: (X.pn ++ pins))) S3 hg hm q hdbg
      · exact ld_blt (X := X.suite a ((a, oe3) :: (X.pn ++ pins))) S3 hg hm hv q hnn hdbg
    refine test (LM.here (codeAny_handlers_suite_as (HandSPX.lands_againZ fl3 fun h4 fl4 up4 => ?_)))
    have J4 : Inv X pins σ' H' { s' with heap := h4 } := J.landed nb fl4.1 ((up.trans up3).trans up4) os ag
    obtain ⟨oe4, vs4, he4, hz4, hd4⟩ := fl4.there
    have S4 := J4.suite he4 hd4 na nL nF
    refine store_ok (X := X.suite a ((a, oe4) :: (X.pn ++ pins))) (v := .ref a) S4 hN hi (.inl hln) rfl (fun s5 S5 => ?_) (.inr hln)
    have hiσ : i < σ'.length := by rw [J.len]; exact (List.getElem?_eq_some_iff.mp hi).1
    have suite : PSs (X.suite a ((a, oe4) :: (X.pn ++ pins))) [.Assign [.Name m pm] (.Name n pn') ps'] (tAsg (tVar i) (gName j)) :=
      pss_one (ps_set (i := j) hN hj (.inl hlm) (pe_var (i := i) hi (.inl hln) hdn hcn) hsw (.inr hlm))
    refine wpAny_mono (suite.run [] s5 _ H' { nx := fun σ6 H6 => σ6 = (σ'.set i (some (.ref a))).set j (some (.ref a)) ∧ H6 = H', rt := fun _ _ => False } S5 ⟨.ref a, List.getElem?_set_self hiσ, rfl, rfl⟩) (fun f s6 hsp => ?_) (fun _ _ z => False.elim z)
    cases f with
    | next =>
      obtain ⟨σ6, H6, S6, rfl, rfl⟩ := hsp
      obtain ⟨e6, n6, _⟩ := S6.pin (a, oe4) (List.mem_append_left _ List.mem_cons_self)
      have T6 := Inv.keepx (S6.unsuite ok) e6 hz4 hd4 n6 n0 nL nq
      exact gone_ok T6 hN hi hln fun s7 J7 => ⟨_, _, J7, hgo a na⟩
    | brk =>
      obtain ⟨_, _, _, z⟩ := hsp
      exact z.elim
    | cont =>
      obtain ⟨_, _, _, z⟩ := hsp
      exact z.elim
    | ret u =>
      obtain ⟨_, _, _, _, _, z⟩ := hsp
      exact z.elim
  · cases f with
    | next =>
      obtain ⟨σ', H', J', q⟩ := hsp
      exact wpAny_execs_nil ⟨σ', H', J'.ofTry ok, q⟩
    | brk =>
      obtain ⟨σ', H', J', q⟩ := hsp
      exact ⟨σ', H', J'.ofTry ok, q⟩
    | cont =>
      obtain ⟨σ', H', J', q⟩ := hsp
      exact ⟨σ', H', J'.ofTry ok, q⟩
    | ret u =>
      obtain ⟨v, σ', H', J', r, q⟩ := hsp
      exact ⟨v, σ', H', J'.ofTry ok, r, q⟩
end
/-! ### what is asked of a kept exception -/
section
variable {X : Cx}
/-- isinstance(e, c), e a kept exception of the class at C -/
def rIsK (K : PySem.W.Frag) : List V → Hp → VK → Prop := fun xs H Q => ∃ (a C : Addr) (d : Option Addr) (c : V) (cv : Value) (b : Bool), xs = [.ref a, c] ∧ H a = some (kex a (.ref C) d) ∧ (d = none ∨ ∃ dx fs, d = some dx ∧ H dx = some (.xd fs)) ∧ ExcC K C ∧ ClsV c cv ∧ PySem.W.kitOne K (.ref C) cv = some b ∧ Q (.bl b) H
theorem call_isK : CallR X (.builtin "isinstance") (rIsK X.K) := by
  intro pins s σ H xs us Q I r h
  obtain ⟨a, C, d, c, cv, b, rfl, ha, hdx, T, k, e, q⟩ := h
  obtain ⟨u1, u2, rfl, r1, r2⟩ := vals2 r
  cases (show u1 = Value.ref a from r1)
  have e2 := k.eq r2
  subst e2
  obtain ⟨oe, vs, he, hz, hd⟩ := kex_at I.hok ha
  obtain ⟨od, J⟩ : ∃ od, PySem.W.InstAt s.heap a oe C od := by
    rcases hdx with rfl | ⟨dx, fs, rfl, hx⟩
    · exact ⟨none, he, hz.1, by unfold PySem.W.notCls; rw [hd] <;> rfl, by rw [hz.2]; trivial⟩
    · obtain ⟨mA, hns, _⟩ := (show ObjOk X.prog X.w H s.heap dx (.xd fs) from I.hok dx _ hx)
      obtain ⟨od, ho, _⟩ := lookIn_ns hns
      exact ⟨some od, he, hz.1, by unfold PySem.W.notCls; rw [hd] <;> rfl, by rw [hz.2]; exact ho⟩
  have hcl : (PySem.W.clsIn X.K C).isSome = true := by
    obtain ⟨cd, h1, _⟩ := PySem.W.any_some T.hd
    rw [h1] <;> rfl
  exact PySem.W.kia_one (PySem.W.kitx_exc hcl T.hg T.hk T.hs T.ha T.hn T.ht T.hm) I.kIn J e (fun z => nomatch z) fun tk => ⟨.bl b, H, I.tok tk, rfl, q⟩
/-- e.f of a kept exception -/
def tXk (K : PySem.W.Frag) (f : Str) (te : TE) : TE := fun σ H Q => te σ H fun x H1 => ∃ (a C dd : Addr) (fs : List (Str × V)) (v : V), x = .ref a ∧ H1 a = some (kex a (.ref C) (some dd)) ∧ H1 dd = some (.xd fs) ∧ XfC K C ∧ PySem.W.findIn K (.ref C) f = some none ∧ fs.lookup f = some v ∧ Q v H1
theorem pe_xk {e : Expr} {te : TE} {pos : Pos} {f : Str} (he : PE X e te) (hb : attributeBase e f X.env (eval e X.env) = eval e X.env := by rfl) : PE X (.Attribute e f pos) (tXk X.K f te) := by
  refine ⟨fun pins s σ H Q I h => ?_⟩
  refine attr_of hb (thn (he.run pins s σ H _ I h) fun u s1 hh => ?_)
  obtain ⟨x, H1, I1, rx, a, C, dd, fs, v, ex, ha, hx, T, hno, l, q⟩ := hh
  subst ex
  obtain rfl : u = Value.ref a := rx
  obtain ⟨oe, vs, he1, hz, hd⟩ := kex_at I1.hok ha
  obtain ⟨mA, hns, hr⟩ := (show ObjOk X.prog X.w H1 s1.heap dd (.xd fs) from I1.hok dd _ hx)
  obtain ⟨od, ho, hl⟩ := lookIn_ns hns
  obtain ⟨u, hu, ru⟩ := RelO.some_of (v := v) (o := mA f) (by rw [← l]; exact hr f)
  have J : PySem.W.InstAt s1.heap a oe C (some od) := ⟨he1, hz.1, by unfold PySem.W.notCls; rw [hd] <;> rfl, by rw [hz.2]; exact ho⟩
  exact HandSPX.exc_get I1.kIn J T.ga T.gg T.exC (PySem.W.findObj_own T.hdC hno rfl (by rw [hl, hu])) (handed_of ru) ⟨v, H1, I1.tok _, ru, q⟩
end
end Cw
end
section
/-! str of a list; defs that must know that no guard runs. -/
namespace Cw
open PySem PySem.Spec PyProof.Rows L2
section
variable {X : Cx}
/-- str of data: a list -/
def rStrD (K : PySem.W.Frag) : List V → Hp → VK → Prop := fun xs H Q => ∃ (a : Addr) (d : PyData), xs = [.ref a] ∧ Dp K H (.ref a) d ∧ d.showable = true ∧ d.hasDict = false ∧ d.shown.length ≤ sizeLine ∧ d.depth ≤ 60 ∧ Q (.str d.shown) H
theorem call_strD (hg : X.A.guards = some []) (hu : X.A.units + 64 < cLine) : CallR X (.type "str") (rStrD X.K) := by
  intro pins s σ H xs us Q I r h
  obtain ⟨a, d, rfl, hd, h1, h2, h3, h4, q⟩ := h
  obtain ⟨u, rfl, ru⟩ : ∃ u, us = [u] ∧ RelV (.ref a) u := by
    cases r with
    | cons p q' =>
      cases q'
      exact ⟨_, rfl, p⟩
  cases (show u = Value.ref a from ru)
  obtain ⟨as, rd⟩ := Dp.reads I d _ _ hd (show RelV (.ref a) (.ref a) from rfl)
  exact str_of_reads rd h1 (PyData.noDict_hsm h2) hg (by omega) (fun _ _ z => z) (fun h' u tk hk => ⟨.str d.shown, H, I.kept (t' := tk) hk, ⟨u, rfl⟩, q⟩) h3
end
/-! ### a def called where no guard runs -/
structure FnG (P : Program) (w : World) (K : PySem.W.Frag) (mg : Str → Option Value) (base : Heap) (CX : CXT) (k : Nat) (f : Addr) (fd : FuncData) (ps : List Str) (sp : Sp) : Prop where
  len : ∀ vs H Q E, sp vs H Q E → vs.length = ps.length
  run : ∀ (A : Around) (outer : List Env) (s : Shared) (H : Hp) (args : Args) (us : List Value) (vs : List V) (Q : VK) (E : XK), A.guards = some [] → Room k A → Env0 P w K mg base A outer s H → BindsTo s fd args (ps.zip us) → Vals vs us → sp vs H Q E →
    codeAny (model P w) A (.call (.ref f) args) (CR CX outer P w H s Q E) s
section
variable {P : Program} {w : World} {K : PySem.W.Frag} {mg : Str → Option Value} {base : Heap}
theorem fnG_of {CX : CXT} {x qual : Str} {st : Stmt} {f : Addr} {fd : FuncData} {N ps : List Str} {k : Nat} {sp : Sp} (F : L2.Fun K x qual st f fd) (S : FnScope N ps (defScope st)) (len : ∀ vs H Q E, sp vs H Q E → vs.length = ps.length)
    (hbody : ∀ (cdv : Value) (A : Around) (outer : List Env) (s : Shared) (H : Hp) (vs : List V) (Q : VK) (E : XK), A.guards = some [] → Room k (A.deeper (envOfC qual (defScope st) s.heap.objs.size f cdv)) → sp vs H Q E →
      ∃ t, PSs (cxOf CX P w K mg base N qual (defScope st) f cdv A outer s H E) (defBody st) t ∧ t { nx := fun _ H' => Q .non H', rt := Q } (start N vs) H) : FnG P w K mg base CX (k + 1) f fd ps sp := by
  obtain ⟨oc, od, kV, doc, pm, an, cdv, ct, osl, rfl, lk, hcd⟩ := F.ex
  refine ⟨len, fun A outer s H args us vs Q E hgd hr e0 hb r hsp => ?_⟩
  have KX : K.In s.heap := e0.mod.kin.keeps fun b o e => (e0.bs b o e).1
  have lim : s.heap.NoLimit := e0.mod.nolimit.keeps fun b o e => (e0.bs b o e).1
  have hkind : ∀ y ∈ ps.zip us, (defScope st).names.lookup y.1 = some .local ∨ ((defScope st).names.lookup y.1 = some .cell ∧ ((cellsFrom (s.heap.objs.size + 1) (defScope st).names []).lookup y.1).isSome = true) := fun y hy =>
    (S.par y.1 (List.of_mem_zip (show (y.1, y.2) ∈ ps.zip us from hy)).1).imp id fun q => ⟨q, PySem.W.cellsFrom_some _ _ _ (.inl q)⟩
  refine codeAny_call_function hr.depth (KX _ _ lk) rfl S.co S.gen rfl (PySem.W.codeRec_of KX hcd) (hb _ _ _ _ (wpAny_newFunctionEnv_cells S.kind hkind fun env he s1 x => ?_))
  subst he
  obtain ⟨t, ht, hq⟩ := hbody cdv A outer s H vs Q E hgd (hr.deeper _) hsp
  have I : Inv (cxOf CX P w K mg base N qual (defScope st) f cdv A outer s H E) [] (start N vs) H s1 := inv_start S hr.hd e0 (len _ _ _ _ hsp) r x
  refine ⟨lim.keeps x.toInCall.keep, codeAny_func (wpAny_mono (ht.run [] s1 (start N vs) H _ I hq) (fun fl s' hs => ?_) fun _ _ z => z)⟩
  cases fl with
  | ret u =>
    obtain ⟨v, σ', H', J, rv, q⟩ := hs
    exact ⟨v, H', J.os, J.bare, J.base, J.hok, rv, q⟩
  | next =>
    obtain ⟨σ', H', J, q⟩ := hs
    exact ⟨V.non, H', J.os, J.bare, J.base, J.hok, rfl, q⟩
  | brk =>
    obtain ⟨_, _, _, q⟩ := hs
    exact q.elim
  | cont =>
    obtain ⟨_, _, _, q⟩ := hs
    exact q.elim
end
section
variable {X : Cx} {CX : CXT} {k : Nat} {f : Addr} {fd : FuncData} {ps : List Str} {sp : Sp} {E : XK} {x : Str} {p pos : Pos} {e : Expr} {es : List Expr} {t : TA}
theorem pe_callGd (F : FnG X.prog X.w X.K X.mg X.base CX k f fd ps sp) (hgd : X.A.guards = some []) (hr : Room k X.A) (hg : Gl X x) (hm : X.mg x = some (.ref f)) (hk : PySem.W.keepIn X.K (.ref f) = true) (hb : Binds X.K fd ps []) (hx : Passes CX X E)
    (ha : PA X (e :: es) t) (hdb : (x == ("__debug__" : Str)) = false := by decide) (he : starEach (e :: es) X.env = (false, eval e X.env) :: starEach es X.env := by rfl) (hpl : (backTo pos (starEach es X.env)).any (·.1) = false := by rfl) :
    PE X (.Call (.Name x p) (e :: es) [] pos) (tCall sp [] E t) := by
  refine ⟨fun pins s σ H Q I h => ?_⟩
  refine wpAny_Call_Name_kw (ld_glob I hg hm ?_ hdb)
  refine PySem.W.callWith_K (h₀ := X.base) I.ok.mod.kin hk (thn (ha.run pos pins s σ H _ I h) fun us s1 ⟨vs, H1, I1, r, q⟩ => ⟨I1.kIn, ?_⟩) he hpl
  have q' : sp vs H1 Q E := by simpa using q
  have hl : (us ++ []).length = ps.length := by rw [List.append_nil, ← r.length]; exact F.len _ _ _ _ q'
  have bt := hb s1 us I1.kIn hl
  rw [List.append_nil] at bt
  refine wpAny_call (codeAny_mono (F.run X.A X.stack s1 H1 ⟨us, []⟩ us vs Q E hgd hr I1.env0 bt r q') fun res s' hq => ?_)
  cases res with
  | error err => exact hx pins σ H1 s1 err s' I1 hq
  | ok fl =>
    cases fl with
    | ret u => exact I1.after hq
    | next => exact hq.elim
    | brk => exact hq.elim
    | cont => exact hq.elim
end
/-! ### the law's end, for such a def -/
/-- the script as it is tracked: frozen, where it is no object of the written part -/
def scriptH (K : PySem.W.Frag) (a : Addr) (o : Obj) (ns : List Int) : Hp := fun b => if b = a ∧ K.lookup a = none then some (.frz o (.lst (ns.map V.int))) else none
theorem law_callG {P : Program} {w : World} {K : PySem.W.Frag} {mg mb : Str → Option Value} {CX : CXT} {k : Nat} {fa a : Addr} {fd : FuncData} {x : Str} {sp : Sp} {s₁ : Shared} {vs : List Value} {ns : List Int}
    (KX : K.In s₁.heap) (hns : s₁.heap.Ns mainGlobals mg) (hb : s₁.heap.Ns builtinsNs mb) (hbb : ∀ x : Str, x ≠ "__name__" → mb x = bootBuiltins x) (hlim : s₁.heap.NoLimit) (hg : s₁.gens = #[])
    (ha : s₁.heap.get? a = some { cls := .type "list", data := .seq vs.toArray }) (hi : IntsAre vs ns) (hl : ns.length ≤ sizeLine) (hr : Room k callerA)
    (F : ∀ base : Heap, K.In base → base.Ns mainGlobals mg → FnG P w K mg base CX k fa fd [x] sp) (hbind : ∀ (s : Shared) (u : Value), BindsTo s fd ⟨[u], []⟩ [(x, u)])
    (hsp : ∀ H : Hp, SqL K H a (ns.map V.int) → sp [.ref a] H (fun v _ => v = .bl true) fun _ _ _ => False)
    (hCX : ∀ H e s', CX [] H s₁ (fun _ _ _ => False) e s' → False) :
    codeAny (model P w) callerA (.call (.ref fa) ⟨[.ref a], []⟩) (fun r s' => r = .ok (.ret (.bool true)) ∧ OldK s₁.heap s'.heap ∧ s'.os = s₁.os ∧ AllBare s'.gens) s₁ := by
  have rv := vals_ints hi
  have lenV := hi.length
  let o : Obj := { cls := .type "list", data := .seq vs.toArray }
  let H : Hp := scriptH K a o ns
  have Hat : ∀ b u, H b = some u → b = a ∧ K.lookup a = none ∧ u = .frz o (.lst (ns.map V.int)) := fun b u e => by
    have e' : (if b = a ∧ K.lookup a = none then some (HO.frz o (.lst (ns.map V.int))) else none) = some u := e
    by_cases c : b = a ∧ K.lookup a = none
    · rw [if_pos c] at e'
      exact ⟨c.1, c.2, (Option.some.inj e').symm⟩
    · rw [if_neg c] at e'
      cases e'
  have hok : HOk P w H s₁.heap := fun b u e => by
    obtain ⟨rfl, _, rfl⟩ := Hat b u e
    exact ⟨ha, by rw [List.length_map]; exact hl, vs, _, rv, ha⟩
  have hS : SqL K H a (ns.map V.int) := by
    cases hk : K.lookup a with
    | none => exact .inl (.inr ⟨o, if_pos ⟨rfl, hk⟩⟩)
    | some u =>
      have e := KX a u hk
      rw [ha] at e
      cases e
      exact .inr ⟨_, vs.toArray, _, hk, rfl, rfl, rfl, by rw [List.size_toArray, lenV]; exact hl, by simpa using rv⟩
  have free : ∀ b u, s₁.heap.get? b = some u → (∀ it n, u.data ≠ .seq it n) → H b = none := fun b u e d => by
    cases q : H b with
    | none => rfl
    | some v =>
      obtain ⟨rfl, _, _⟩ := Hat b v q
      rw [ha] at e
      cases e
      exact absurd rfl (d _ _)
  have nsK : ∀ {b : Addr} {m : Str → Option Value}, s₁.heap.Ns b m → (hidT s₁.heap H).Ns b m := fun {b m} ⟨u, es, ep, e, d, r⟩ => ⟨u, es, ep, hidT_get e (free b u e fun it n z => by rw [d] at z; cases z), d, r⟩
  have hKb : K.In (hidT s₁.heap H) := fun b u e => hidT_get (KX b u e) (by
    cases q : H b with
    | none => rfl
    | some v =>
      obtain ⟨rfl, z, _⟩ := Hat b v q
      rw [z] at e
      cases e)
  have hM : Mod K mg (hidT s₁.heap H) := ⟨hKb, nsK hns, ⟨mb, nsK hb, hbb⟩, let ⟨mc, h1, h2⟩ := hlim; ⟨mc, nsK h1, h2⟩⟩
  have e0 : Env0 P w K mg (hidT s₁.heap H) callerA [] s₁ H := ⟨rfl, hM, fun b u e => of_hidT e, Nat.le_of_eq (hidT_size _ _), trivial, fun b hb => absurd (show b ∈ ([] : List Addr) from hb) (by simp), hok, .of_eq hg⟩
  refine codeAny_mono ((F _ hKb (nsK hns)).run callerA [] s₁ H ⟨[.ref a], []⟩ [.ref a] [.ref a] _ _ rfl hr e0 (hbind s₁ (.ref a)) (.cons rfl .nil) (hsp H hS)) fun r s' h => ?_
  cases r with
  | error e => exact (hCX H e s' h).elim
  | ok fl =>
    cases fl with
    | next => exact h.elim
    | brk => exact h.elim
    | cont => exact h.elim
    | ret u =>
      obtain ⟨v, H', os, bare, un, hok', r', q⟩ := h
      have q' : v = .bl true := q
      subst q'
      obtain rfl : u = Value.bool true := r'
      refine ⟨rfl, OldK.of_keep fun b u e => ?_, os, bare⟩
      cases q : H b with
      | none => exact un.keep b u e q (fun z => absurd (show b ∈ ([] : List Addr) from z) (by simp)) (by simp)
      | some v =>
        obtain ⟨rfl, _, rfl⟩ := Hat b v q
        obtain ⟨e2, _⟩ := hok' b _ (un.frzs b _ _ q)
        rw [ha] at e
        cases e
        exact e2
/-- the law, by facts that the head told -/
theorem walk_ofG {l : PySem.W.OpenLaw} {n k : Nat} {q : Program} {loose : List Str} {XP : (Str → Option Value) → Heap → Prop} {YP : World → Heap → Prop} {d : DefRec} {CX : CXT} {x : Str}
    (hn : l.most = some n) (hn2 : n ≤ sizeLine) (hdf : d.params.defaults = []) (hr : Room k callerA)
    (F : ∀ (w : World) (mg : Str → Option Value) (fa : Addr) (h : Heap), YP w h → h.Ns mainGlobals mg → mg d.name = some (.ref fa) →
      ∃ (K : PySem.W.Frag) (fd : FuncData) (sp : Sp), K.In h ∧ (∀ (s : Shared) (u : Value), BindsTo s fd ⟨[u], []⟩ [(x, u)]) ∧
        (∀ (H : Hp) (a : Addr) (ns : List Int), ns.length ≤ n → SqL K H a (ns.map V.int) → sp [.ref a] H (fun v _ => v = .bl true) fun _ _ _ => False) ∧
        ∀ base : Heap, K.In base → base.Ns mainGlobals mg → FnG l.prog w K mg base CX k fa fd [x] sp)
    (hCX : ∀ (H : Hp) (s : Shared) (e : Value) (s' : Shared), CX [] H s (fun _ _ _ => False) e s' → False) :
    PySem.W.WalkO q loose XP YP l.row.toRowW d [] (fun f vs => PySem.call f vs) := by
  refine Att.attach_call hn hdf fun w s₀ s₁ mg mb fa o pm cd doc a vs ns G Y ho hd hcd hmg hobj hints hlen hg => ?_
  obtain ⟨K, fd, sp, KX, hb, hsp, hF⟩ := F w mg fa _ Y G.T.g hmg
  exact law_callG KX G.T.g G.T.b G.T.builtins G.T.nolimit hg hobj hints (Nat.le_trans hlen hn2) hr hF hb (fun H hS => hsp H a ns hlen hS) fun H e s' => hCX H s₁ e s'
end Cw
end
section
/-! The text by places; what the top has left; short words. -/
namespace Cw
open PySem PySem.Spec PyProof.Rows L2
def top (i : Nat) : Stmt := PySem.Challenge.pw_coatrows_k60_whole_covered_deeds.main.body.getD i (.Pass ⟨0, 0, 0, 0⟩)
abbrev s_checked_regions : Stmt := top 18
abbrev s_is_name : Stmt := top 17
abbrev s_is_region : Stmt := top 19
abbrev s_is_fact : Stmt := top 20
abbrev s_checked_facts : Stmt := top 21
abbrev s_breaking : Stmt := top 22
abbrev s_steps_of : Stmt := top 23
abbrev s_reached : Stmt := top 24
abbrev s_mask_of : Stmt := top 25
abbrev s_clashes : Stmt := top 26
abbrev s_candidates : Stmt := top 27
abbrev s_follows : Stmt := top 30
abbrev s_is_deed : Stmt := top 35
abbrev s_region_of : Stmt := top 36
abbrev s_checked_index : Stmt := top 39
abbrev s_check_known : Stmt := top 40
abbrev s_check_kinds : Stmt := top 42
abbrev s_check_coats : Stmt := top 45
abbrev s_claim_mask : Stmt := top 46
abbrev s_covering : Stmt := top 47
abbrev s_covers : Stmt := top 48
abbrev s_law_mixed : Stmt := top 50
abbrev s_law_pile : Stmt := top 51
abbrev s_law_take : Stmt := top 52
abbrev s_law_order : Stmt := top 53
abbrev s_law_names : Stmt := top 54
abbrev s_law_facts : Stmt := top 55
abbrev s_law_keeps : Stmt := top 56
abbrev s_law_all : Stmt := top 57
abbrev s_law_possible : Stmt := top 58
abbrev s_law_held : Stmt := top 59
abbrev s_law_coats : Stmt := top 60
abbrev s_law_colours : Stmt := top 61
abbrev s_law_covered : Stmt := top 64
abbrev s_law_due : Stmt := top 69
abbrev s_law_refused : Stmt := top 70
abbrev s_law_twice_right : Stmt := top 71
abbrev s_law_many_right : Stmt := top 72
abbrev s_law_doors_right : Stmt := top 73
abbrev s_law : Stmt := top 74
abbrev s_Facts_init : Stmt := inClass (top 28) 0
abbrev s_Row_init : Stmt := inClass (top 37) 0
abbrev s_Row_deeds : Stmt := inClass (top 37) 1
abbrev s_Row_len : Stmt := inClass (top 37) 6
abbrev s_InvalidDeed_init : Stmt := inClass (top 5) 0
abbrev s_InvalidNumber_init : Stmt := inClass (top 6) 0
abbrev s_UnknownRegion_init : Stmt := inClass (top 7) 0
/-! ### scopes -/
theorem sc_is_name : FnScope ["thing", "letter"] ["thing"] (defScope s_is_name) := ⟨rfl, rfl, rfl, by decide +kernel, rfl, by decide +kernel, by decide +kernel⟩
theorem sc_checked_regions : FnScope ["regions", "place", "thing"] ["regions"] (defScope s_checked_regions) := ⟨rfl, rfl, rfl, by decide +kernel, rfl, by decide +kernel, by decide +kernel⟩
theorem sc_is_region : FnScope ["places", "thing"] ["places", "thing"] (defScope s_is_region) := ⟨rfl, rfl, rfl, by decide +kernel, rfl, by decide +kernel, by decide +kernel⟩
theorem sc_is_fact : FnScope ["places", "thing"] ["places", "thing"] (defScope s_is_fact) := ⟨rfl, rfl, rfl, by decide +kernel, rfl, by decide +kernel, by decide +kernel⟩
theorem sc_checked_facts : FnScope ["places", "facts", "place", "thing"] ["places", "facts"] (defScope s_checked_facts) := ⟨rfl, rfl, rfl, by decide +kernel, rfl, by decide +kernel, by decide +kernel⟩
theorem sc_breaking : FnScope ["places", "fact", "kind", "one", "other"] ["places", "fact"] (defScope s_breaking) := ⟨rfl, rfl, rfl, by decide +kernel, rfl, by decide +kernel, by decide +kernel⟩
theorem sc_steps_of : FnScope ["places", "facts", "pairs", "fact", "one", "other", "claim", "here", "later"] ["places", "facts"] (defScope s_steps_of) := ⟨rfl, rfl, rfl, by decide +kernel, rfl, by decide +kernel, by decide +kernel⟩
theorem sc_reached : FnScope ["steps", "claim", "ways", "pile", "place", "here", "later"] ["steps", "claim"] (defScope s_reached) := ⟨rfl, rfl, rfl, by decide +kernel, rfl, by decide +kernel, by decide +kernel⟩
theorem sc_mask_of : FnScope ["claims", "found", "claim"] ["claims"] (defScope s_mask_of) := ⟨rfl, rfl, rfl, by decide +kernel, rfl, by decide +kernel, by decide +kernel⟩
theorem sc_clashes : FnScope ["mask", "both", "claim"] ["mask"] (defScope s_clashes) := ⟨rfl, rfl, rfl, by decide +kernel, rfl, by decide +kernel, by decide +kernel⟩
theorem sc_candidates : FnScope ["names", "found", "one", "kind", "place", "other"] ["names"] (defScope s_candidates) := ⟨rfl, rfl, rfl, by decide +kernel, rfl, by decide +kernel, by decide +kernel⟩
theorem sc_follows : FnScope ["facts", "fact", "one", "other"] ["facts", "fact"] (defScope s_follows) := ⟨rfl, rfl, rfl, by decide +kernel, rfl, by decide +kernel, by decide +kernel⟩
theorem sc_Facts_init : FnScope ["self", "regions", "facts", "claim", "there", "back", "place", "name", "fact"] ["self", "regions", "facts"] (defScope s_Facts_init) := ⟨rfl, rfl, rfl, by decide +kernel, rfl, by decide +kernel, by decide +kernel⟩
theorem sc_is_deed : FnScope ["thing", "one"] ["thing"] (defScope s_is_deed) := ⟨rfl, rfl, rfl, by decide +kernel, rfl, by decide +kernel, by decide +kernel⟩
theorem sc_region_of : FnScope ["deed"] ["deed"] (defScope s_region_of) := ⟨rfl, rfl, rfl, by decide +kernel, rfl, by decide +kernel, by decide +kernel⟩
theorem sc_Row_init : FnScope ["self", "deeds", "index", "thing"] ["self", "deeds"] (defScope s_Row_init) := ⟨rfl, rfl, rfl, by decide +kernel, rfl, by decide +kernel, by decide +kernel⟩
theorem sc_Row_deeds : FnScope ["self"] ["self"] (defScope s_Row_deeds) := ⟨rfl, rfl, rfl, by decide +kernel, rfl, by decide +kernel, by decide +kernel⟩
theorem sc_Row_len : FnScope ["self"] ["self"] (defScope s_Row_len) := ⟨rfl, rfl, rfl, by decide +kernel, rfl, by decide +kernel, by decide +kernel⟩
theorem sc_checked_index : FnScope ["index", "many"] ["index", "many"] (defScope s_checked_index) := ⟨rfl, rfl, rfl, by decide +kernel, rfl, by decide +kernel, by decide +kernel⟩
theorem sc_check_known : FnScope ["places", "row", "deed"] ["places", "row"] (defScope s_check_known) := ⟨rfl, rfl, rfl, by decide +kernel, rfl, by decide +kernel, by decide +kernel⟩
theorem sc_check_kinds : FnScope ["row", "kinds", "index", "deed"] ["row", "kinds"] (defScope s_check_kinds) := ⟨rfl, rfl, rfl, by decide +kernel, rfl, by decide +kernel, by decide +kernel⟩
theorem sc_check_coats : FnScope ["facts", "row"] ["facts", "row"] (defScope s_check_coats) := ⟨rfl, rfl, rfl, by decide +kernel, rfl, by decide +kernel, by decide +kernel⟩
theorem sc_claim_mask : FnScope ["facts", "deed", "inside"] ["facts", "deed", "inside"] (defScope s_claim_mask) := ⟨rfl, rfl, rfl, by decide +kernel, rfl, by decide +kernel, by decide +kernel⟩
theorem sc_covering : FnScope ["facts", "line", "index", "here", "first", "place", "later", "other"] ["facts", "line", "index"] (defScope s_covering) := ⟨rfl, rfl, rfl, by decide +kernel, rfl, by decide +kernel, by decide +kernel⟩
theorem sc_covers : FnScope ["facts", "row", "index"] ["facts", "row", "index"] (defScope s_covers) := ⟨rfl, rfl, rfl, by decide +kernel, rfl, by decide +kernel, by decide +kernel⟩
theorem sc_mixed : FnScope ["_law_cell", "_law_k", "_law_number"] ["_law_cell", "_law_k"] (defScope s_law_mixed) := ⟨rfl, rfl, rfl, by decide +kernel, rfl, by decide +kernel, by decide +kernel⟩
theorem sc_pile : FnScope ["_law_script", "_law_k", "_law_cell", "_law_great"] ["_law_script", "_law_k"] (defScope s_law_pile) := ⟨rfl, rfl, rfl, by decide +kernel, rfl, by decide +kernel, by decide +kernel⟩
theorem sc_take : FnScope ["_law_pile_here", "_law_many", "_law_digit"] ["_law_pile_here", "_law_many"] (defScope s_law_take) := ⟨rfl, rfl, rfl, by decide +kernel, rfl, by decide +kernel, by decide +kernel⟩
theorem sc_order : FnScope ["_law_pile_here", "_law_many", "_law_left_here", "_law_found"] ["_law_pile_here", "_law_many"] (defScope s_law_order) := ⟨rfl, rfl, rfl, by decide +kernel, rfl, by decide +kernel, by decide +kernel⟩
theorem sc_names : FnScope ["_law_pile_here", "_law_many", "_law_letters", "_law_stem", "_law_at", "_law_shift", "_law_step", "_law_plain", "_law_tail", "_law_some", "_law_k", "_law_name"] ["_law_pile_here", "_law_many"] (defScope s_law_names) := ⟨rfl, rfl, rfl, by decide +kernel, rfl, by decide +kernel, by decide +kernel⟩
theorem sc_facts : FnScope ["_law_pile_here", "_law_names_here", "_law_most", "_law_found", "_law_way", "_law_turn", "_law_kind", "_law_one", "_law_other"] ["_law_pile_here", "_law_names_here", "_law_most"] (defScope s_law_facts) := ⟨rfl, rfl, rfl, by decide +kernel, rfl, by decide +kernel, by decide +kernel⟩
theorem sc_keeps : FnScope ["_law_patch", "_law_fact", "_law_kind", "_law_one", "_law_other"] ["_law_patch", "_law_fact"] (defScope s_law_keeps) := ⟨rfl, rfl, rfl, by decide +kernel, rfl, by decide +kernel, by decide +kernel⟩
theorem sc_all : FnScope ["_law_names_here", "_law_found", "_law_name", "_law_patch"] ["_law_names_here"] (defScope s_law_all) := ⟨rfl, rfl, rfl, by decide +kernel, rfl, by decide +kernel, by decide +kernel⟩
theorem sc_possible : FnScope ["_law_names_here", "_law_facts_here", "_law_patch", "_law_fact"] ["_law_names_here", "_law_facts_here"] (defScope s_law_possible) := ⟨rfl, rfl, rfl, by decide +kernel, rfl, by decide +kernel, by decide +kernel⟩
theorem sc_held : FnScope ["_law_pile_here", "_law_names_here", "_law_most", "_law_facts_here", "_law_patches", "_law_fact", "_law_some", "_law_patch"] ["_law_pile_here", "_law_names_here", "_law_most"] (defScope s_law_held) := ⟨rfl, rfl, rfl, by decide +kernel, rfl, by decide +kernel, by decide +kernel⟩
theorem sc_coats : FnScope ["_law_pile_here", "_law_names_here", "_law_colours_here", "_law_most", "_law_found", "_law_turn", "_law_region", "_law_colour"] ["_law_pile_here", "_law_names_here", "_law_colours_here", "_law_most"] (defScope s_law_coats) := ⟨rfl, rfl, rfl, by decide +kernel, rfl, by decide +kernel, by decide +kernel⟩
theorem sc_colours : FnScope ["_law_pile_here", "_law_k"] ["_law_pile_here"] (defScope s_law_colours) := ⟨rfl, rfl, rfl, by decide +kernel, rfl, by decide +kernel, by decide +kernel⟩
theorem sc_covered : FnScope ["_law_patches", "_law_deeds", "_law_k", "_law_patch", "_law_deed"] ["_law_patches", "_law_deeds", "_law_k"] (defScope s_law_covered) := ⟨rfl, rfl, rfl, by decide +kernel, rfl, by decide +kernel, by decide +kernel⟩
theorem sc_due : FnScope ["_law_patches", "_law_deeds", "_law_k", "_law_here", "_law_later", "_law_j", "_law_i", "_law_patch"] ["_law_patches", "_law_deeds", "_law_k"] (defScope s_law_due) := ⟨rfl, rfl, rfl, by decide +kernel, rfl, by decide +kernel, by decide +kernel⟩
theorem sc_refused : FnScope ["_law_facts_here", "_law_row", "_law_index", "_law_kept", "e"] ["_law_facts_here", "_law_row", "_law_index"] (defScope s_law_refused) := ⟨rfl, rfl, rfl, by decide +kernel, rfl, by decide +kernel, by decide +kernel⟩
theorem sc_twice_right : FnScope ["_law_pile_here", "_law_names_here", "_law_facts_here", "_law_row", "_law_some", "_law_orders", "_law_turn", "_law_patches", "_law_made", "_law_k"] ["_law_pile_here", "_law_names_here", "_law_facts_here", "_law_row"] (defScope s_law_twice_right) := ⟨rfl, rfl, rfl, by decide +kernel, rfl, by decide +kernel, by decide +kernel⟩
theorem sc_many_right : FnScope ["_law_pile_here", "_law_names_here", "_law_line", "_law_free", "_law_one", "_law_row", "_law_k", "_law_both", "_law_letter"] ["_law_pile_here"] (defScope s_law_many_right) := ⟨rfl, rfl, rfl, by decide +kernel, rfl, by decide +kernel, by decide +kernel⟩
theorem sc_doors_right : FnScope ["_law_pile_here", "_law_made", "_law_names_here", "_law_deeds", "_law_row", "_law_odd", "_law_bad", "_law_free", "_law_k", "_law_told", "_law_name"] ["_law_pile_here", "_law_made", "_law_names_here", "_law_deeds"] (defScope s_law_doors_right) := ⟨rfl, rfl, rfl, by decide +kernel, rfl, by decide +kernel, by decide +kernel⟩
theorem sc_law : FnScope ["_law_script", "_law_at", "_law_pile_here", "_law_names_here", "_law_facts_here", "_law_patches", "_law_colours_here", "_law_deeds", "_law_made", "_law_row", "_law_k", "_law_due_here", "_law_turn", "_law_found"] ["_law_script"] (defScope s_law) := ⟨rfl, rfl, rfl, by decide +kernel, rfl, by decide +kernel, by decide +kernel⟩
theorem sc_InvalidDeed_init : FnScope ["self", "index"] ["self", "index"] (defScope s_InvalidDeed_init) := ⟨rfl, rfl, rfl, by decide +kernel, rfl, by decide +kernel, by decide +kernel⟩
theorem sc_InvalidNumber_init : FnScope ["self", "number"] ["self", "number"] (defScope s_InvalidNumber_init) := ⟨rfl, rfl, rfl, by decide +kernel, rfl, by decide +kernel, by decide +kernel⟩
theorem sc_UnknownRegion_init : FnScope ["self", "region"] ["self", "region"] (defScope s_UnknownRegion_init) := ⟨rfl, rfl, rfl, by decide +kernel, rfl, by decide +kernel, by decide +kernel⟩
/-! ### what the top has left -/
/-- SIGNS, SIZES at a key -/
def SgAt (K : PySem.W.Frag) (k : Str) (i j : Int) : Prop := ∃ t : Addr, PySem.W.nsIn K (He.ga K "SIGNS") k = some (some (.ref t)) ∧ ∀ H, SqT K H t [.int i, .int j]
def SzAt (K : PySem.W.Frag) (k : Str) (n : Int) : Prop := ∃ tok, PySem.W.nsIn K (He.ga K "SIZES") k = some (some (.int n tok))
/-- built-in names, constants -/
structure Txt (K : PySem.W.Frag) (mg : Str → Option Value) (w : World) : Prop where
  b_isinstance : mg "isinstance" = none
  b_len : mg "len" = none
  b_list : mg "list" = none
  b_range : mg "range" = none
  b_enumerate : mg "enumerate" = none
  b_sorted : mg "sorted" = none
  b_any : mg "any" = none
  b_all : mg "all" = none
  b_tuple : mg "tuple" = none
  b_int : mg "int" = none
  b_abs : mg "abs" = none
  b_str : mg "str" = none
  b_min : mg "min" = none
  b_ValueError : mg "ValueError" = none
  b_bool : mg "bool" = none
  k_LONGEST_NAME : ∃ t, mg "LONGEST_NAME" = some (.int 12 t)
  k_MOST_REGIONS : ∃ t, mg "MOST_REGIONS" = some (.int 24 t)
  k_MOST_FACTS : ∃ t, mg "MOST_FACTS" = some (.int 1200 t)
  k_MOST_DEEDS : ∃ t, mg "MOST_DEEDS" = some (.int 30 t)
  k_LETTERS : ∃ t, mg "LETTERS" = some (.str "abcdefghijklmnopqrstuvwxyz" t)
  g_CoatError : mg "CoatError" = some (.ref (He.ga K "CoatError"))
  g_InvalidDeed : mg "InvalidDeed" = some (.ref (He.ga K "InvalidDeed"))
  g_InvalidNumber : mg "InvalidNumber" = some (.ref (He.ga K "InvalidNumber"))
  g_UnknownRegion : mg "UnknownRegion" = some (.ref (He.ga K "UnknownRegion"))
  g_Facts : mg "Facts" = some (.ref (He.ga K "Facts"))
  g_Row : mg "Row" = some (.ref (He.ga K "Row"))
  g_KINDS : mg "KINDS" = some (.ref (He.ga K "KINDS"))
  g_SIGNS : mg "SIGNS" = some (.ref (He.ga K "SIGNS"))
  g_SIZES : mg "SIZES" = some (.ref (He.ga K "SIZES"))
  g_COATS : mg "COATS" = some (.ref (He.ga K "COATS"))
  t_KINDS : ∀ H, SqT K H (He.ga K "KINDS") [.str "in", .str "apart", .str "cover"]
  t_COATS : ∀ H, SqT K H (He.ga K "COATS") [.str "put", .str "wipe"]
  d_SIGNS : ∃ es n, KDict K w (He.ga K "SIGNS") es n
  d_SIZES : ∃ es n, KDict K w (He.ga K "SIZES") es n
  sg_in : SgAt K "in" 1 0
  sg_apart : SgAt K "apart" 1 1
  sg_cover : SgAt K "cover" 0 0
  sz_put : SzAt K "put" 3
  sz_fill : SzAt K "fill" 3
  sz_wipe : SzAt K "wipe" 2
  sz_turn : SzAt K "turn" 3
  cF : Cls K (He.ga K "Facts")
  cR : Cls K (He.ga K "Row")
  mkF : Mk K (He.ga K "Facts") (He.ma K (He.ga K "Facts") "__init__")
  mkR : Mk K (He.ga K "Row") (He.ma K (He.ga K "Row") "__init__")
  meD : Meth K (He.ga K "Row") "deeds" (He.ma K (He.ga K "Row") "deeds")
  meL : Meth K (He.ga K "Row") "__len__" (He.ma K (He.ga K "Row") "__len__")
  nF_names : NoAttr K (He.ga K "Facts") "names"
  nF_places : NoAttr K (He.ga K "Facts") "places"
  nF_said : NoAttr K (He.ga K "Facts") "said"
  nF_steps : NoAttr K (He.ga K "Facts") "steps"
  nF_masks : NoAttr K (He.ga K "Facts") "masks"
  nF_forced : NoAttr K (He.ga K "Facts") "forced"
  nF_closed : NoAttr K (He.ga K "Facts") "closed"
  nR_line : NoAttr K (He.ga K "Row") "line"
  ox_InvalidDeed : OexC K (He.ga K "InvalidDeed")
  ex_InvalidDeed : ExcC K (He.ga K "InvalidDeed")
  xf_InvalidDeed : XfC K (He.ga K "InvalidDeed")
  no_InvalidDeed : PySem.W.findIn K (.ref (He.ga K "InvalidDeed")) "index" = some none
  in_InvalidDeed : PySem.W.findIn K (.ref (He.ga K "InvalidDeed")) "__init__" = some (some (.ref (He.ma K (He.ga K "InvalidDeed") "__init__")))
  ty_InvalidDeed : PySem.W.typeIn K (.ref (He.ma K (He.ga K "InvalidDeed") "__init__")) = some (.type "function")
  xm_InvalidDeed : PySem.W.exmOne K (.ref (He.ga K "InvalidDeed")) (.ref (He.ga K "CoatError")) = some true
  kv_InvalidDeed : PySem.W.kitOne K (.ref (He.ga K "InvalidDeed")) (.type "ValueError") = some true
  ki_InvalidDeed_InvalidDeed : PySem.W.kitOne K (.ref (He.ga K "InvalidDeed")) (.ref (He.ga K "InvalidDeed")) = some true
  ki_InvalidDeed_InvalidNumber : PySem.W.kitOne K (.ref (He.ga K "InvalidDeed")) (.ref (He.ga K "InvalidNumber")) = some false
  ki_InvalidDeed_UnknownRegion : PySem.W.kitOne K (.ref (He.ga K "InvalidDeed")) (.ref (He.ga K "UnknownRegion")) = some false
  ox_InvalidNumber : OexC K (He.ga K "InvalidNumber")
  ex_InvalidNumber : ExcC K (He.ga K "InvalidNumber")
  xf_InvalidNumber : XfC K (He.ga K "InvalidNumber")
  no_InvalidNumber : PySem.W.findIn K (.ref (He.ga K "InvalidNumber")) "number" = some none
  in_InvalidNumber : PySem.W.findIn K (.ref (He.ga K "InvalidNumber")) "__init__" = some (some (.ref (He.ma K (He.ga K "InvalidNumber") "__init__")))
  ty_InvalidNumber : PySem.W.typeIn K (.ref (He.ma K (He.ga K "InvalidNumber") "__init__")) = some (.type "function")
  xm_InvalidNumber : PySem.W.exmOne K (.ref (He.ga K "InvalidNumber")) (.ref (He.ga K "CoatError")) = some true
  kv_InvalidNumber : PySem.W.kitOne K (.ref (He.ga K "InvalidNumber")) (.type "ValueError") = some true
  ki_InvalidNumber_InvalidDeed : PySem.W.kitOne K (.ref (He.ga K "InvalidNumber")) (.ref (He.ga K "InvalidDeed")) = some false
  ki_InvalidNumber_InvalidNumber : PySem.W.kitOne K (.ref (He.ga K "InvalidNumber")) (.ref (He.ga K "InvalidNumber")) = some true
  ki_InvalidNumber_UnknownRegion : PySem.W.kitOne K (.ref (He.ga K "InvalidNumber")) (.ref (He.ga K "UnknownRegion")) = some false
  ox_UnknownRegion : OexC K (He.ga K "UnknownRegion")
  ex_UnknownRegion : ExcC K (He.ga K "UnknownRegion")
  xf_UnknownRegion : XfC K (He.ga K "UnknownRegion")
  no_UnknownRegion : PySem.W.findIn K (.ref (He.ga K "UnknownRegion")) "region" = some none
  in_UnknownRegion : PySem.W.findIn K (.ref (He.ga K "UnknownRegion")) "__init__" = some (some (.ref (He.ma K (He.ga K "UnknownRegion") "__init__")))
  ty_UnknownRegion : PySem.W.typeIn K (.ref (He.ma K (He.ga K "UnknownRegion") "__init__")) = some (.type "function")
  xm_UnknownRegion : PySem.W.exmOne K (.ref (He.ga K "UnknownRegion")) (.ref (He.ga K "CoatError")) = some true
  kv_UnknownRegion : PySem.W.kitOne K (.ref (He.ga K "UnknownRegion")) (.type "ValueError") = some true
  ki_UnknownRegion_InvalidDeed : PySem.W.kitOne K (.ref (He.ga K "UnknownRegion")) (.ref (He.ga K "InvalidDeed")) = some false
  ki_UnknownRegion_InvalidNumber : PySem.W.kitOne K (.ref (He.ga K "UnknownRegion")) (.ref (He.ga K "InvalidNumber")) = some false
  ki_UnknownRegion_UnknownRegion : PySem.W.kitOne K (.ref (He.ga K "UnknownRegion")) (.ref (He.ga K "UnknownRegion")) = some true
  base : BaseC K (He.ga K "CoatError")
section
variable {X : Cx} {P : Program} {w : World} {K : PySem.W.Frag} {mg : Str → Option Value} {base : Heap}
theorem hu64 {A : Around} {k : Nat} (hr : Room k A) : A.units + 64 < cLine := hr.units
theorem pe_kI {x : Str} {i : Int} {pos : Pos} (h : ∃ t, X.mg x = some (.int i t)) (hg : Gl X x) (hd : (x == ("__debug__" : Str)) = false := by decide) : PE X (.Name x pos) (tC (.int i)) := by
  obtain ⟨t, e⟩ := h
  exact pe_glob hg e ⟨t, rfl⟩ hd
theorem pe_kS {x z : Str} {pos : Pos} (h : ∃ t, X.mg x = some (.str z t)) (hg : Gl X x) (hd : (x == ("__debug__" : Str)) = false := by decide) : PE X (.Name x pos) (tC (.str z)) := by
  obtain ⟨t, e⟩ := h
  exact pe_glob hg e ⟨t, rfl⟩ hd
/-- a def of the module, where it stands -/
structure Dfn (K : PySem.W.Frag) (mg : Str → Option Value) (x : Str) (st : Stmt) (ps : List Str) : Prop where
  ex : ∃ f fd, L2.Fun K x x st f fd ∧ mg x = some (.ref f) ∧ Binds K fd ps []
/-- a method of a class -/
structure Mtd (K : PySem.W.Frag) (C : Addr) (m q : Str) (st : Stmt) (ps : List Str) : Prop where
  ex : ∃ fd, L2.Fun K m q st (He.ma K C m) fd ∧ Binds K fd ps []
theorem cal_of {x : Str} {st : Stmt} {N ps : List Str} {k : Nat} {sp : Sp} (D : Dfn K mg x st ps) (S : FnScope N ps (defScope st)) (len : ∀ vs H Q E, sp vs H Q E → vs.length = ps.length)
    (hbody : ∀ (cdv : Value) (A : Around) (outer : List Env) (s : Shared) (H : Hp) (vs : List V) (Q : VK) (E : XK) (f : Addr), Room k (A.deeper (envOfC x (defScope st) s.heap.objs.size f cdv)) → sp vs H Q E →
      ∃ t, PSs (cxOf CX0 P w K mg base N x (defScope st) f cdv A outer s H E).nox (defBody st) t ∧ t { nx := fun _ H' => Q .non H', rt := Q } (start N vs) H) : C8.Cal P w K mg base (k + 1) x sp [] := by
  obtain ⟨f, fd, F, g, b⟩ := D.ex
  exact ⟨f, fd, ps, [], F.ok S len fun cdv A outer s H vs Q E hr h => hbody cdv A outer s H vs Q E f hr h, g, F.kp, b, .nil⟩
/-- a def that may raise, under its name -/
structure CalX (P : Program) (w : World) (K : PySem.W.Frag) (mg : Str → Option Value) (base : Heap) (k : Nat) (x : Str) (sp : Sp) : Prop where
  ex : ∃ (f : Addr) (fd : FuncData) (ps : List Str), FnOk P w K mg base (L2.CX P w) k f fd ps sp ∧ mg x = some (.ref f) ∧ PySem.W.keepIn K (.ref f) = true ∧ Binds K fd ps []
theorem calX_of {x : Str} {st : Stmt} {N ps : List Str} {k : Nat} {sp : Sp} (D : Dfn K mg x st ps) (S : FnScope N ps (defScope st)) (len : ∀ vs H Q E, sp vs H Q E → vs.length = ps.length)
    (hbody : ∀ (cdv : Value) (A : Around) (outer : List Env) (s : Shared) (H : Hp) (vs : List V) (Q : VK) (E : XK) (f : Addr), Room k (A.deeper (envOfC x (defScope st) s.heap.objs.size f cdv)) → sp vs H Q E →
      ∃ t, PSs (cxOf (L2.CX P w) P w K mg base N x (defScope st) f cdv A outer s H E) (defBody st) t ∧ t { nx := fun _ H' => Q .non H', rt := Q } (start N vs) H) : CalX P w K mg base (k + 1) x sp := by
  obtain ⟨f, fd, F, g, b⟩ := D.ex
  exact ⟨f, fd, ps, F.okX S len fun cdv A outer s H vs Q E hr h => hbody cdv A outer s H vs Q E f hr h, g, F.kp, b⟩
variable {k j : Nat} {x : Str} {sp : Sp} {e : Expr} {es : List Expr} {t : TA} {p pos : Pos} {W : WX}
/-- its call, where what it raises is taken -/
theorem pe_cx (c : CalX X.prog X.w X.K X.mg X.base k x sp) (hr : Room j X.A) (hk : k ≤ j) (hg : Gl X x) (tk : Takes X W) (ha : PA X (e :: es) t)
    (hdb : (x == ("__debug__" : Str)) = false := by decide) (he : starEach (e :: es) X.env = (false, eval e X.env) :: starEach es X.env := by rfl) (hpl : (backTo pos (starEach es X.env)).any (·.1) = false := by rfl) :
    PE X (.Call (.Name x p) (e :: es) [] pos) (tCallS sp (WE W) t) := by
  obtain ⟨f, fd, ps, F, hm, kp, b⟩ := c.ex
  exact pe_callS F (hr.mono hk) hg hm kp b (fun σ => passAt tk σ) ha hdb he hpl
/-- its call, where it raises nothing -/
theorem pe_cx0 (c : CalX X.prog X.w X.K X.mg X.base k x sp) (hr : Room j X.A) (hk : k ≤ j) (hg : Gl X x) (ha : PA X (e :: es) t)
    (hdb : (x == ("__debug__" : Str)) = false := by decide) (he : starEach (e :: es) X.env = (false, eval e X.env) :: starEach es X.env := by rfl) (hpl : (backTo pos (starEach es X.env)).any (·.1) = false := by rfl) :
    PE X (.Call (.Name x p) (e :: es) [] pos) (tCall sp [] E0 t) := by
  obtain ⟨f, fd, ps, F, hm, kp, b⟩ := c.ex
  exact pe_call F (hr.mono hk) hg hm kp b .nil passL ha hdb he hpl
end
end Cw
end
section
namespace Cw
open PySem PySem.Spec PyProof.Rows L2
def dl (x : Str) (st : Stmt) : He.DefD := ⟨(x, none), x, x, defArgs st, defBody st, defScope st, [], []⟩
def dm (c m q : Str) (st : Stmt) : He.DefD := ⟨(c, some m), m, q, defArgs st, defBody st, defScope st, [], []⟩
def fnl0 : List He.DefD := [dl "checked_regions" s_checked_regions,
  dl "is_name" s_is_name,
  dl "is_region" s_is_region,
  dl "is_fact" s_is_fact,
  dl "checked_facts" s_checked_facts,
  dl "breaking" s_breaking,
  dl "steps_of" s_steps_of,
  dl "reached" s_reached,
  dl "mask_of" s_mask_of,
  dl "clashes" s_clashes,
  dl "candidates" s_candidates,
  dl "follows" s_follows,
  dl "is_deed" s_is_deed,
  dl "region_of" s_region_of,
  dl "checked_index" s_checked_index,
  dl "check_known" s_check_known]
def fnl1 : List He.DefD := [dl "check_kinds" s_check_kinds,
  dl "check_coats" s_check_coats,
  dl "claim_mask" s_claim_mask,
  dl "covering" s_covering,
  dl "covers" s_covers,
  dl "_law_mixed" s_law_mixed,
  dl "_law_pile" s_law_pile,
  dl "_law_take" s_law_take,
  dl "_law_order" s_law_order,
  dl "_law_names" s_law_names,
  dl "_law_facts" s_law_facts,
  dl "_law_keeps" s_law_keeps,
  dl "_law_all" s_law_all,
  dl "_law_possible" s_law_possible,
  dl "_law_held" s_law_held,
  dl "_law_coats" s_law_coats]
def fnl2 : List He.DefD := [dl "_law_colours" s_law_colours,
  dl "_law_covered" s_law_covered,
  dl "_law_due" s_law_due,
  dl "_law_refused" s_law_refused,
  dl "_law_twice_right" s_law_twice_right,
  dl "_law_many_right" s_law_many_right,
  dl "_law_doors_right" s_law_doors_right,
  dl "law" s_law,
  dm "Facts" "__init__" "Facts.__init__" s_Facts_init,
  dm "Row" "__init__" "Row.__init__" s_Row_init,
  dm "Row" "deeds" "Row.deeds" s_Row_deeds,
  dm "Row" "__len__" "Row.__len__" s_Row_len,
  dm "InvalidDeed" "__init__" "InvalidDeed.__init__" s_InvalidDeed_init,
  dm "InvalidNumber" "__init__" "InvalidNumber.__init__" s_InvalidNumber_init,
  dm "UnknownRegion" "__init__" "UnknownRegion.__init__" s_UnknownRegion_init]
def fnl : List He.DefD := fnl0 ++ fnl1 ++ fnl2
def fal0 : List He.Fa := [.glo "checked_regions", .glo "is_name", .glo "is_region", .glo "is_fact", .glo "checked_facts", .glo "breaking", .glo "steps_of", .glo "reached", .glo "mask_of", .glo "clashes", .glo "candidates", .glo "follows", .glo "is_deed", .glo "region_of", .glo "checked_index", .glo "check_known", .glo "check_kinds", .glo "check_coats", .glo "claim_mask", .glo "covering"]
def fal1 : List He.Fa := [.glo "covers", .glo "_law_mixed", .glo "_law_pile", .glo "_law_take", .glo "_law_order", .glo "_law_names", .glo "_law_facts", .glo "_law_keeps", .glo "_law_all", .glo "_law_possible", .glo "_law_held", .glo "_law_coats", .glo "_law_colours", .glo "_law_covered", .glo "_law_due", .glo "_law_refused", .glo "_law_twice_right", .glo "_law_many_right", .glo "_law_doors_right", .glo "law"]
def fal2 : List He.Fa := [.free "isinstance", .free "len", .free "list", .free "range", .free "enumerate", .free "sorted", .free "any", .free "all", .free "tuple", .free "int", .free "abs", .free "str", .free "min", .free "ValueError", .free "bool", .glo "CoatError", .glo "InvalidDeed", .glo "InvalidNumber", .glo "UnknownRegion", .glo "Facts"]
def fal3 : List He.Fa := [.glo "Row", .glo "KINDS", .glo "SIGNS", .glo "SIZES", .glo "COATS", .str "LETTERS" "abcdefghijklmnopqrstuvwxyz", .int "LONGEST_NAME" 12, .int "MOST_REGIONS" 24, .int "MOST_FACTS" 1200, .int "MOST_DEEDS" 30, .cls "Facts", .cls "Row", .mkr "Facts", .mkr "Row", .meth "Row" "deeds", .meth "Row" "__len__", .noat "Facts" "names", .noat "Facts" "places", .noat "Facts" "said", .noat "Facts" "steps"]
def fal4 : List He.Fa := [.noat "Facts" "masks", .noat "Facts" "forced", .noat "Facts" "closed", .noat "Row" "line"]
def fal : List He.Fa := fal0 ++ fal1 ++ fal2 ++ fal3 ++ fal4
def tabs : List He.Tab := [(fun K => He.ga K "SIGNS", ["in", "apart", "cover"]), (fun K => He.ga K "SIZES", ["put", "fill", "wipe", "turn"])]
def loose0 : List Str := ["_wall", "CoatError", "InvalidRegion", "InvalidFact", "InvalidDeed", "InvalidNumber", "UnknownRegion", "Contradiction", "TooMany", "LETTERS", "LONGEST_NAME", "MOST_REGIONS", "MOST_FACTS", "KINDS", "SIGNS", "is_name", "checked_regions", "is_region", "is_fact", "checked_facts"]
def loose1 : List Str := ["breaking", "steps_of", "reached", "mask_of", "clashes", "candidates", "Facts", "both_facts", "follows", "told_claims", "MOST_DEEDS", "SIZES", "is_deed", "region_of", "Row", "joined", "checked_index", "check_known", "check_kinds", "COATS"]
def loose2 : List Str := ["check_coats", "claim_mask", "covering", "covers", "_law_mixed", "_law_pile", "_law_take", "_law_order", "_law_names", "_law_facts", "_law_keeps", "_law_all", "_law_possible", "_law_held", "_law_coats", "_law_colours", "_law_left", "_law_alike", "_law_covered", "_law_may_swap"]
def loose3 : List Str := ["_law_is_coat", "_law_stepped", "_law_holds", "_law_due", "_law_refused", "_law_twice_right", "_law_many_right", "_law_doors_right"]
def loose : List Str := loose0 ++ loose1 ++ loose2 ++ loose3
/-- a tuple of the written part -/
def tuB (K : PySem.W.Frag) (t : Addr) (vs : List V) : Bool := match K.lookup t with
  | none => false
  | some ob => decide (ob.cls = .type "tuple") && (match ob.data with
    | .seq its _ => decide (its.size ≤ sizeLine) && He.relAll vs its.toList
    | _ => false)
theorem tuB_ok {K : PySem.W.Frag} {t : Addr} {vs : List V} (e : tuB K t vs = true) (H : Hp) : SqT K H t vs := by
  unfold tuB at e
  split at e
  · cases e
  · rename_i ob q
    obtain ⟨e1, e2⟩ := He.ba e
    split at e2
    · rename_i its n q2
      obtain ⟨e3, e4⟩ := He.ba e2
      exact .inr ⟨ob, its, n, q, of_decide_eq_true e1, q2, of_decide_eq_true e3, He.relAll_ok e4⟩
    · cases e2
def sgB (K : PySem.W.Frag) (k : Str) (i j : Int) : Bool := match PySem.W.nsIn K (He.ga K "SIGNS") k with
  | some (some (.ref t)) => tuB K t [.int i, .int j]
  | _ => false
theorem sgB_ok {K : PySem.W.Frag} {k : Str} {i j : Int} (e : sgB K k i j = true) : SgAt K k i j := by
  unfold sgB at e
  split at e
  · rename_i t q
    exact ⟨t, q, fun H => tuB_ok e H⟩
  · cases e
def szB (K : PySem.W.Frag) (k : Str) (n : Int) : Bool := match PySem.W.nsIn K (He.ga K "SIZES") k with
  | some (some (.int m _)) => decide (m = n)
  | _ => false
theorem szB_ok {K : PySem.W.Frag} {k : Str} {n : Int} (e : szB K k n = true) : SzAt K k n := by
  unfold szB at e
  split at e
  · rename_i m tok q
    rw [of_decide_eq_true e] at q
    exact ⟨tok, q⟩
  · cases e
/-- what is asked of an own exception class -/
structure ExF (K : PySem.W.Frag) (C f : Str) (b1 b2 b3 : Bool) : Prop where
  ox : OexC K (He.ga K C)
  ex : ExcC K (He.ga K C)
  xf : XfC K (He.ga K C)
  no : PySem.W.findIn K (.ref (He.ga K C)) f = some none
  ini : PySem.W.findIn K (.ref (He.ga K C)) "__init__" = some (some (.ref (He.ma K (He.ga K C) "__init__")))
  ty : PySem.W.typeIn K (.ref (He.ma K (He.ga K C) "__init__")) = some (.type "function")
  xm : PySem.W.exmOne K (.ref (He.ga K C)) (.ref (He.ga K "CoatError")) = some true
  kv : PySem.W.kitOne K (.ref (He.ga K C)) (.type "ValueError") = some true
  k1 : PySem.W.kitOne K (.ref (He.ga K C)) (.ref (He.ga K "InvalidDeed")) = some b1
  k2 : PySem.W.kitOne K (.ref (He.ga K C)) (.ref (He.ga K "InvalidNumber")) = some b2
  k3 : PySem.W.kitOne K (.ref (He.ga K C)) (.ref (He.ga K "UnknownRegion")) = some b3
def exFB (K : PySem.W.Frag) (C f : Str) (b1 b2 b3 : Bool) : Bool := oexB K (He.ga K C) && (xfB K (He.ga K C) && ((decide (PySem.W.findIn K (.ref (He.ga K C)) "__class__" = some (some (.builtin "object.__class__"))) &&
  (decide (PySem.W.specialIn K (.builtin "object.__class__") "__get__" = some (some (.builtin "getset_descriptor.__get__"))) && (decide (PySem.W.takesIn K (.builtin "object.__class__") = some true) && decide (PySem.W.mroIn K (He.ga K C) (.type "object") = some true)))) &&
  (decide (PySem.W.findIn K (.ref (He.ga K C)) f = some none) && (decide (PySem.W.findIn K (.ref (He.ga K C)) "__init__" = some (some (.ref (He.ma K (He.ga K C) "__init__")))) && (decide (PySem.W.typeIn K (.ref (He.ma K (He.ga K C) "__init__")) = some (.type "function")) &&
  (decide (PySem.W.exmOne K (.ref (He.ga K C)) (.ref (He.ga K "CoatError")) = some true) && (decide (PySem.W.kitOne K (.ref (He.ga K C)) (.type "ValueError") = some true) && (decide (PySem.W.kitOne K (.ref (He.ga K C)) (.ref (He.ga K "InvalidDeed")) = some b1) &&
  (decide (PySem.W.kitOne K (.ref (He.ga K C)) (.ref (He.ga K "InvalidNumber")) = some b2) && decide (PySem.W.kitOne K (.ref (He.ga K C)) (.ref (He.ga K "UnknownRegion")) = some b3))))))))))
theorem exF_ok {K : PySem.W.Frag} {C f : Str} {b1 b2 b3 : Bool} (e : exFB K C f b1 b2 b3 = true) : ExF K C f b1 b2 b3 := by
  obtain ⟨q1, e⟩ := He.ba e
  obtain ⟨q2, e⟩ := He.ba e
  obtain ⟨q3, e⟩ := He.ba e
  obtain ⟨r1, q3⟩ := He.ba q3
  obtain ⟨r2, q3⟩ := He.ba q3
  obtain ⟨r3, r4⟩ := He.ba q3
  obtain ⟨q4, e⟩ := He.ba e
  obtain ⟨q5, e⟩ := He.ba e
  obtain ⟨q6, e⟩ := He.ba e
  obtain ⟨q7, e⟩ := He.ba e
  obtain ⟨q8, e⟩ := He.ba e
  obtain ⟨q9, e⟩ := He.ba e
  obtain ⟨q10, q11⟩ := He.ba e
  have x := xfB_ok q2
  exact ⟨oexB_ok q1, ⟨x.ga, x.gg, x.exC, x.hdC, of_decide_eq_true r1, of_decide_eq_true r2, of_decide_eq_true r3, of_decide_eq_true r4⟩, x, of_decide_eq_true q4, of_decide_eq_true q5, of_decide_eq_true q6, of_decide_eq_true q7, of_decide_eq_true q8, of_decide_eq_true q9,
    of_decide_eq_true q10, of_decide_eq_true q11⟩
def exB (K : PySem.W.Frag) : Bool := He.tupB K "KINDS" [.str "in", .str "apart", .str "cover"] && (He.tupB K "COATS" [.str "put", .str "wipe"] && (sgB K "in" 1 0 && (sgB K "apart" 1 1 && (sgB K "cover" 0 0 && (szB K "put" 3 && (szB K "fill" 3 && (szB K "wipe" 2 && (szB K "turn" 3 &&
  (exFB K "InvalidDeed" "index" true false false && (exFB K "InvalidNumber" "number" false true false && (exFB K "UnknownRegion" "region" false false true && baseB K (He.ga K "CoatError"))))))))))))
/-! the head's Hook: what the names reach, and the table of statics (a class's own names ask it) -/
def frY (n : Nat) (g : Addr → Option Obj) : PySem.W.Frag := He.frG g (He.asD g n ++ [cStatics])
def obY (n : Nat) (a : List He.Fa) (d : List He.DefD) (t : List He.Tab) (e : PySem.W.Frag → Bool) (g : Addr → Option Obj) : He.AlX := (He.obsT a d t (frY n g), e (frY n g))
theorem saysY {n : Nat} {a : List He.Fa} {d : List He.DefD} {t : List He.Tab} {e : PySem.W.Frag → Bool} {w : World} {h : Heap} (q : obY n a d t e h.get? = He.valX d t w) : He.SaysX a d t [] e w h (frY n h.get?) :=
  { t := congrArg (fun z : He.AlX => z.1) q
    more := congrArg (fun z : He.AlX => z.2) q
    hd := fun _ hp => absurd hp List.not_mem_nil
    out := fun _ hp => absurd hp List.not_mem_nil
    empty := fun _ hp => absurd hp List.not_mem_nil }
def hkY (n : Nat) (a : List He.Fa) (d : List He.DefD) (t : List He.Tab) (e : PySem.W.Frag → Bool) : PySem.W.Hook :=
  { α := He.AlX
    obs := fun s => obY n a d t e s.heap.get?
    val := fun w => He.valX d t w
    says := fun w h => ∃ K, PySem.W.Frag.In K h ∧ He.SaysX a d t [] e w h K
    of := fun _ _ q => ⟨_, He.frG_in, saysY q⟩
    keeps := fun _ _ _ z k => by
      obtain ⟨K, hK, c⟩ := z
      exact ⟨K, PySem.W.Frag.In.keeps hK k, { t := c.t, more := c.more, hd := fun _ hp => absurd hp List.not_mem_nil, out := fun _ hp => absurd hp List.not_mem_nil, empty := fun _ hp => absurd hp List.not_mem_nil }⟩ }
theorem obY_eq {n : Nat} {a : List He.Fa} {d : List He.DefD} {t : List He.Tab} {e : PySem.W.Frag → Bool} {g : Addr → Option Obj} {s : Shared} (q : ∀ b, g b = s.heap.get? b) : obY n a d t e g = (hkY n a d t e).obs s := by
  obtain rfl : g = s.heap.get? := funext q
  rfl
end Cw
end
section
namespace Cw
open PySem PySem.Spec PyProof.Rows L2
abbrev R : PySem.W.OpenRow := PySem.W.OpenLaw.row PySem.Challenge.rw_coatrows_k60_whole_covered_deeds
abbrev hk : PySem.W.Hook := hkY 5 fal fnl tabs exB
def ob (s : PySem.W.SharedT) : He.AlX := obY 5 fal fnl tabs exB (HandSHeadRun.getT s)
theorem ob_eq (s : PySem.W.SharedT) : ob s = hk.obs s.abs := obY_eq (HandSHeadRun.getT_eq s)
def qv : Program := PySem.W.view R.prog [74]
theorem run0 (w : World) : HandSHeadRun.RunEq R qv hk ob 20000 loose (w.withFollow "special-get-raises" false) := by
  intro os
  kernel_rfl
theorem run1 (w : World) : HandSHeadRun.RunEq R qv hk ob 20000 loose (w.withFollow "special-get-raises" true) := by
  intro os
  kernel_rfl
theorem run (w : World) : HandSHeadRun.RunEq R qv hk ob 20000 loose w := PySem.W.byRow2 "special-get-raises" (P := fun w => HandSHeadRun.RunEq R qv hk ob 20000 loose w) run0 run1 w
end Cw
end
section
/-! Heaps and data: short lemmas. -/
namespace Cw
open PySem PySem.Spec PyProof.Rows L2
theorem bt {p : Prop} [Decidable p] (h : p) : V.bl (decide p) = V.bl true := by rw [decide_eq_true h]
theorem bf {p : Prop} [Decidable p] (h : ¬ p) : V.bl (decide p) = V.bl false := by rw [decide_eq_false h]
theorem bnt {p : Prop} [Decidable p] (h : p) : V.bl (!decide p) = V.bl false := by rw [decide_eq_true h]; rfl
theorem bnf {p : Prop} [Decidable p] (h : ¬ p) : V.bl (!decide p) = V.bl true := by rw [decide_eq_false h]; rfl
theorem same_upd {H : Hp} {p : Addr} {o : HO} (h : H p = none) : Same H (upd H p o) := fun b x e => by
  rw [upd_ne (ne_of_none e h)]
  exact e
/-- something new, then another content of it -/
theorem same_mut {H H' : Hp} {p : Addr} {o : HO} (s : Same H H') (h : H p = none) : Same H (upd H' p o) := fun b x e => by
  rw [upd_ne (ne_of_none e h)]
  exact s b x e
theorem Rd.same {H H' : Hp} {a : Addr} {u : HO} (s : Same H H') (h : Rd H a u) : Rd H' a u := by
  rcases h with h | ⟨o, h⟩
  · exact .inl (s _ _ h)
  · exact .inr ⟨o, s _ _ h⟩
theorem sqL_same {K : PySem.W.Frag} {H H' : Hp} {a : Addr} {xs : List V} (s : Same H H') (h : SqL K H a xs) : SqL K H' a xs := h.imp (Rd.same s) id
theorem sqT_same {K : PySem.W.Frag} {H H' : Hp} {a : Addr} {xs : List V} (s : Same H H') (h : SqT K H a xs) : SqT K H' a xs := h.imp (Rd.same s) id
mutual
theorem dp_same {K : PySem.W.Frag} {H H' : Hp} (s : Same H H') : ∀ {d : PyData} {v : V}, Dp K H v d → Dp K H' v d
  | .none, _, h => by cases h; exact .non
  | .bool _, _, h => by cases h; exact .bl _
  | .int _, _, h => by cases h; exact .int _
  | .str _, _, h => by cases h; exact .str _
  | .list ds, _, h => by
    cases h with
    | lst h1 h2 => exact .lst (sqL_same s h1) (dpAll_same s h2)
  | .tuple ds, _, h => by
    cases h with
    | tup h1 h2 => exact .tup (sqT_same s h1) (dpAll_same s h2)
  | .dict _, _, h => by cases h
theorem dpAll_same {K : PySem.W.Frag} {H H' : Hp} (s : Same H H') : ∀ {ds : List PyData} {vs : List V}, DpAll K H vs ds → DpAll K H' vs ds
  | [], _, h => by cases h; exact .nil
  | d :: ds, _, h => by
    cases h with
    | cons h1 h2 => exact .cons (dp_same s h1) (dpAll_same s h2)
end
section
variable {K : PySem.W.Frag} {H : Hp}
theorem dpAll_len : ∀ {vs : List V} {ds : List PyData}, DpAll K H vs ds → vs.length = ds.length
  | [], _, h => by cases h; rfl
  | v :: vs, _, h => by
    cases h with
    | cons _ h2 => exact congrArg (· + 1) (dpAll_len h2)
theorem dpAll_get : ∀ {vs : List V} {ds : List PyData} {i : Nat} {v : V}, DpAll K H vs ds → vs[i]? = some v → ∃ d, ds[i]? = some d ∧ Dp K H v d
  | [], _, _, _, h, e => by simp at e
  | v :: vs, _, 0, x, h, e => by
    cases h with
    | cons h1 h2 =>
      have e' : v = x := by simpa using e
      exact ⟨_, rfl, e' ▸ h1⟩
  | v :: vs, _, i + 1, x, h, e => by
    cases h with
    | cons h1 h2 =>
      obtain ⟨d, e1, e2⟩ := dpAll_get (i := i) (v := x) h2 (by simpa using e)
      exact ⟨d, by simpa using e1, e2⟩
theorem dpAll_at : ∀ {vs : List V} {ds : List PyData} {i : Nat} {d : PyData}, DpAll K H vs ds → ds[i]? = some d → ∃ v, vs[i]? = some v ∧ Dp K H v d
  | _, [], _, _, h, e => by simp at e
  | _, d :: ds, 0, x, h, e => by
    cases h with
    | cons h1 h2 =>
      have e' : d = x := by simpa using e
      exact ⟨_, rfl, e' ▸ h1⟩
  | _, d :: ds, i + 1, x, h, e => by
    cases h with
    | cons h1 h2 =>
      obtain ⟨v, e1, e2⟩ := dpAll_at (i := i) (d := x) h2 (by simpa using e)
      exact ⟨v, by simpa using e1, e2⟩
theorem dpAll_append : ∀ {vs ws : List V} {ds es : List PyData}, DpAll K H vs ds → DpAll K H ws es → DpAll K H (vs ++ ws) (ds ++ es)
  | [], _, _, _, h, k => by cases h; exact k
  | v :: vs, _, _, _, h, k => by
    cases h with
    | cons h1 h2 => exact .cons h1 (dpAll_append h2 k)
theorem dpAll_drop : ∀ (n : Nat) {vs : List V} {ds : List PyData}, DpAll K H vs ds → DpAll K H (vs.drop n) (ds.drop n)
  | 0, _, _, h => h
  | n + 1, _, _, .nil => .nil
  | n + 1, _, _, .cons _ h => dpAll_drop n h
theorem dpAll_take : ∀ (n : Nat) {vs : List V} {ds : List PyData}, DpAll K H vs ds → DpAll K H (vs.take n) (ds.take n)
  | 0, _, _, h => .nil
  | n + 1, _, _, .nil => .nil
  | n + 1, _, _, .cons h1 h => .cons h1 (dpAll_take n h)
theorem dpAll_snoc {vs : List V} {ds : List PyData} {v : V} {d : PyData} (h : DpAll K H vs ds) (k : Dp K H v d) : DpAll K H (vs ++ [v]) (ds ++ [d]) := dpAll_append h (.cons k .nil)
/-- a list | a tuple of texts, of ints -/
theorem dpAll_str : ∀ (l : List Str), DpAll K H (l.map V.str) (l.map PyData.str)
  | [] => .nil
  | x :: r => .cons (.str x) (dpAll_str r)
theorem dpAll_int : ∀ (l : List Int), DpAll K H (l.map V.int) (l.map PyData.int)
  | [] => .nil
  | x :: r => .cons (.int x) (dpAll_int r)
theorem dpAll_strs : ∀ {vs : List V} {l : List Str}, DpAll K H vs (l.map PyData.str) → vs = l.map V.str
  | _, [], h => by cases h; rfl
  | _, x :: r, h => by
    cases h with
    | cons h1 h2 =>
      cases h1
      rw [dpAll_strs h2]
      rfl
abbrev eL (l : List Str) : PyData := .list (l.map PyData.str)
abbrev eT (l : List Str) : PyData := .tuple (l.map PyData.str)
theorem dp_list {a : Addr} {ds : List PyData} (h : Dp K H (.ref a) (.list ds)) : ∃ xs, SqL K H a xs ∧ DpAll K H xs ds := by
  cases h with
  | lst h1 h2 => exact ⟨_, h1, h2⟩
theorem dp_tup {a : Addr} {ds : List PyData} (h : Dp K H (.ref a) (.tuple ds)) : ∃ xs, SqT K H a xs ∧ DpAll K H xs ds := by
  cases h with
  | tup h1 h2 => exact ⟨_, h1, h2⟩
theorem dp_ref_l {v : V} {ds : List PyData} (h : Dp K H v (.list ds)) : ∃ a, v = .ref a := by
  cases h with
  | lst _ _ => exact ⟨_, rfl⟩
theorem dp_ref_t {v : V} {ds : List PyData} (h : Dp K H v (.tuple ds)) : ∃ a, v = .ref a := by
  cases h with
  | tup _ _ => exact ⟨_, rfl⟩
theorem dp_eL {v : V} {l : List Str} (h : Dp K H v (eL l)) : ∃ a, v = .ref a ∧ SqL K H a (l.map V.str) := by
  obtain ⟨a, rfl⟩ := dp_ref_l h
  obtain ⟨xs, h1, h2⟩ := dp_list h
  rw [dpAll_strs h2] at h1
  exact ⟨a, rfl, h1⟩
theorem dp_eT {v : V} {l : List Str} (h : Dp K H v (eT l)) : ∃ a, v = .ref a ∧ SqT K H a (l.map V.str) := by
  obtain ⟨a, rfl⟩ := dp_ref_t h
  obtain ⟨xs, h1, h2⟩ := dp_tup h
  rw [dpAll_strs h2] at h1
  exact ⟨a, rfl, h1⟩
theorem dp_of_eL {a : Addr} {l : List Str} (h : SqL K H a (l.map V.str)) : Dp K H (.ref a) (eL l) := .lst h (dpAll_str l)
theorem dp_of_eT {a : Addr} {l : List Str} (h : SqT K H a (l.map V.str)) : Dp K H (.ref a) (eT l) := .tup h (dpAll_str l)
end
/-! ### the pile: an object that changes, all else stands -/
/-- the heap without p -/
def wo (H : Hp) (p : Addr) : Hp := fun b => if b = p then none else H b
theorem wo_ne {H : Hp} {p b : Addr} (h : b ≠ p) : wo H p b = H b := if_neg h
theorem wo_self {H : Hp} {p : Addr} : wo H p p = none := if_pos rfl
theorem wo_same {H : Hp} {p : Addr} : Same (wo H p) H := fun b o e => by
  by_cases h : b = p
  · rw [h, wo_self] at e
    cases e
  · rw [wo_ne h] at e
    exact e
/-- all but p stands -/
def But (p : Addr) (H H' : Hp) : Prop := Same (wo H p) (wo H' p)
theorem But.refl {p : Addr} {H : Hp} : But p H H := Same.refl _
theorem But.trans {p : Addr} {H H1 H2 : Hp} (a : But p H H1) (b : But p H1 H2) : But p H H2 := Same.trans a b
theorem But.of_same {p : Addr} {H H' : Hp} (s : Same H H') : But p H H' := fun b o e => by
  by_cases h : b = p
  · rw [h, wo_self] at e
    cases e
  · rw [wo_ne h] at e ⊢
    exact s b o e
theorem But.upd {p : Addr} {H : Hp} {o : HO} : But p H (L2.upd H p o) := fun b x e => by
  by_cases h : b = p
  · rw [h, wo_self] at e
    cases e
  · rw [wo_ne h] at e ⊢
    rw [upd_ne h]
    exact e
theorem But.at {p b : Addr} {H H' : Hp} {o : HO} (s : But p H H') (h : b ≠ p) (e : H b = some o) : H' b = some o := by
  have z := s b o (by rw [wo_ne h]; exact e)
  rw [wo_ne h] at z
  exact z
theorem But.new {p b : Addr} {H H' : Hp} (s : But p H H') (hp : b ≠ p) (e : H' b = none) : H b = none := by
  cases q : H b with
  | none => rfl
  | some o =>
    rw [s.at hp q] at e
    cases e
theorem Same.back {H H' : Hp} {p : Addr} (s : Same H H') (h : H' p = none) : H p = none := by
  cases q : H p with
  | none => rfl
  | some o =>
    rw [s p o q] at h
    cases h
/-- the draws' list -/
def Pile (H : Hp) (p : Addr) : Prop := ∃ g c k : Int, H p = some (.lst [.int g, .int c, .int k])
theorem Pile.ne {H : Hp} {p b : Addr} (h : Pile H p) (e : H b = none) : b ≠ p := fun z => by
  obtain ⟨g, c, k, q⟩ := h
  rw [z, q] at e
  cases e
/-- a new object does not touch the pile -/
theorem Pile.same {H H' : Hp} {p : Addr} (h : Pile H p) (s : Same H H') : Pile H' p := by
  obtain ⟨g, c, k, q⟩ := h
  exact ⟨g, c, k, s _ _ q⟩
end Cw
end
section
namespace Cw
open PySem PySem.Spec PyProof.Rows L2
section
variable {P : Program} {w : World} {K : PySem.W.Frag} {mg : Str → Option Value} {base : Heap}
/-- a name: 1 to 12 letters from a to z -/
def Valid (z : Str) : Prop := 1 ≤ z.length ∧ z.length ≤ 12 ∧ ∀ c ∈ z.cps.toList, 97 ≤ c ∧ c ≤ 122
theorem letters_mem {c : Nat} (h : 97 ≤ c ∧ c ≤ 122) : c ∈ (PySem.Str.ofString "abcdefghijklmnopqrstuvwxyz").cps.toList := by
  have : ∀ d : Nat, d < 26 → 97 + d ∈ (PySem.Str.ofString "abcdefghijklmnopqrstuvwxyz").cps.toList := by decide +kernel
  have q := this (c - 97) (by omega)
  rwa [show 97 + (c - 97) = c by omega] at q
def spIsName : Sp := fun vs H Q _ => ∃ z : Str, vs = [.str z] ∧ Valid z ∧ ∀ H', Same H H' → Q (.bl true) H'
theorem ok_is_name (D : Dfn K mg "is_name" s_is_name ["thing"]) (T : Txt K mg w) : C8.Cal P w K mg base 1 "is_name" spIsName [] := by
  refine cal_of D sc_is_name (fun vs H Q E h => ?_) (fun cdv A outer s H vs Q E f hr h => ?_)
  · obtain ⟨z, rfl, _⟩ := h
    rfl
  · obtain ⟨z, rfl, ⟨h1, h2, h3⟩, q⟩ := h
    have nd := sc_is_name.nd
    refine ⟨_, (pss_cons (ps_if (PW.pt (pw_or (pt_not (pt_val (pe_callB call_isi (by rfl) T.b_isinstance (by decide +kernel) (pa_cons (pv 0) (pa_cons (pe_bltn (v := .ty "str") (u := .type "str") rfl T.b_str (by decide +kernel) rfl) pa_nil))))) (pw_or1 (pt_not (pt_chain op_le op_le pe_int (pe_callB call_len_str (by rfl) T.b_len boot_len (pa_cons (pv 0) pa_nil)) (pe_kI T.k_LONGEST_NAME rfl))))))
      (pss_one (ps_ret pe_bl))
      pss_nil)
    (pss_one (ps_ret (pe_callB (cr_all rfl) (by rfl) T.b_all (by decide +kernel) (pa_cons (pe_lc (own := [("letter", 1)]) rfl nd (pi_str (pv 0)) (blkOk_by (by kernel_rfl)) (fun _ _ _ _ _ => (pg_name (i := 1) nd rfl (by first | exact Or.inl rfl | exact Or.inr rfl))) (fun _ _ _ _ _ => pts_nil) (fun _ _ _ _ _ => (pe_cmpR op_in_sign (pv 1) (pe_kS T.k_LETTERS rfl) rfl))) pa_nil))))), ?_⟩
    have hs : z.length ≤ sizeLine := Nat.le_trans h2 (by decide)
    -- the two tests
    refine ⟨.str z, rfl, .str z, .ty "str", _, _, true, rfl, .ty "str", .base (.str z), kit_ty (by decide +kernel), true, rfl, ?_⟩
    refine iteF ⟨.str z, rfl, z, rfl, hs, 1, z.length, rfl, rfl, true, bt (by omega), iteT ⟨z.length, 12, rfl, rfl, true, bt (by omega), ?_⟩⟩
    refine iteF ?_
    -- the list of answers
    refine ⟨.str z, rfl, z, rfl, fun D hD => lc_it walk_str (fun i H' => Same H H' ∧ H' D = some (.lst ((List.replicate i true).map V.bl)) ∧ i ≤ 12) ⟨same_upd hD, upd_same, by omega⟩ (fun _ _ _ _ => trivial) (fun i x H1 H2 hi p y => ?_) (fun H1 p => ?_)⟩
    · obtain ⟨sm, e, hi2⟩ := p
      obtain ⟨rfl, c, hc, rfl⟩ := y
      have hm : c ∈ z.cps.toList := by
        rw [List.mem_iff_getElem?]
        exact ⟨i, by rw [Array.getElem?_toList]; exact hc⟩
      refine ⟨rfl, _, rfl, c, _, rfl, rfl, _, e, ?_, same_mut sm hD, ?_, ?_⟩
      · rw [List.length_map, List.length_replicate]
        exact Nat.lt_of_le_of_lt hi2 (by decide)
      · rw [upd_same, decide_eq_true (letters_mem (h3 c hm)), List.replicate_succ', List.map_append]
        rfl
      · have : z.cps.size ≤ 12 := h2
        omega
    · obtain ⟨sm, e, _⟩ := p
      refine ⟨D, _, rfl, .inl (.inl e), ?_⟩
      have : (List.replicate z.cps.size true).all id = true := by
        rw [List.all_eq_true]
        intro b hb
        rw [List.eq_of_mem_replicate hb]
        rfl
      rw [this]
      exact q H1 sm
end
end Cw
end
section
namespace Cw
open PySem PySem.Spec PyProof.Rows L2
/-- the places of names, as a dict -/
def Plc (H : Hp) (d : Addr) (z : List Str) : Prop := ∃ kvs : List (Key × V), H d = some (.dK kvs) ∧ kvs.length = z.length ∧ ∀ x : Str, valV kvs (.inr x) = if x ∈ z then some (.int (z.idxOf x : Nat)) else none
theorem Plc.same {H H' : Hp} {d : Addr} {z : List Str} (h : Plc H d z) (s : Same H H') : Plc H' d z := by
  obtain ⟨kvs, e, l, q⟩ := h
  exact ⟨kvs, s _ _ e, l, q⟩
theorem Plc.get {H : Hp} {d : Addr} {z : List Str} {x : Str} (h : Plc H d z) (m : x ∈ z) : DGet H d (.str x) (some (.int (z.idxOf x : Nat))) := by
  obtain ⟨kvs, e, l, q⟩ := h
  have := DGet.k (k := (.inr x : Key)) e
  rw [show valV kvs (Sum.inr x) = _ from q x, if_pos m] at this
  exact this
theorem Plc.no {H : Hp} {d : Addr} {z : List Str} {x : Str} (h : Plc H d z) (m : x ∉ z) : DGet H d (.str x) none := by
  obtain ⟨kvs, e, l, q⟩ := h
  have := DGet.k (k := (.inr x : Key)) e
  rw [show valV kvs (Sum.inr x) = _ from q x, if_neg m] at this
  exact this
theorem inV_str {x : Str} : ∀ {z : List Str}, inV (.str x) (z.map V.str) = decide (x ∈ z)
  | [] => rfl
  | y :: r => by
    show (eqV (.str y) (.str x) || inV (.str x) (r.map V.str)) = _
    rw [inV_str (z := r)]
    show ((y == x) || decide (x ∈ r)) = _
    by_cases h : y = x
    · subst h
      simp
    · have : (y == x) = false := by
        rw [beq_eq_false_iff_ne]
        exact h
      rw [this, Bool.false_or]
      have h' : ¬ x = y := fun e => h e.symm
      simp [List.mem_cons, h']
theorem flat_str : ∀ (z : List Str), (z.map V.str).all flatV = true
  | [] => rfl
  | x :: r => by
    show (true && (r.map V.str).all flatV) = true
    rw [flat_str r]
    rfl
theorem cutV_to {xs : List V} {i : Nat} (h : i ≤ xs.length) : cutV xs none (some (i : Int)) = xs.take i := by
  unfold cutV
  rw [HT.sIx_none, HT.sIx_nat, Nat.min_eq_left h]
  simp
theorem cutV_from {xs : List V} {i : Nat} (h : i ≤ xs.length) : cutV xs (some (i : Int)) none = xs.drop i := by
  unfold cutV
  rw [HT.sIx_none, HT.sIx_nat, Nat.min_eq_left h, List.take_of_length_le (by rw [List.length_drop]; omega)]
section
variable {P : Program} {w : World} {K : PySem.W.Frag} {mg : Str → Option Value} {base : Heap}
def spRegs (K : PySem.W.Frag) : Sp := fun vs H Q _ => ∃ (a : Addr) (z : List Str), vs = [.ref a] ∧ SqL K H a (z.map V.str) ∧ 1 ≤ z.length ∧ z.length ≤ 24 ∧ (∀ x ∈ z, Valid x) ∧ z.Nodup ∧
  ∀ p H', H p = none → Same H H' → H' p = some (.lst (z.map V.str)) → Q (.ref p) H'
theorem tyLst {H : Hp} {a : Addr} {xs : List V} (h : SqL K H a xs) : TyX K H (.ref a) (.type "list") := by
  rcases h with (h | ⟨o, h⟩) | ⟨_, _, _, hk, hc, _⟩
  · exact .base (.lst h)
  · exact .base (.frz h)
  · exact .kList hk hc
theorem tyTup {H : Hp} {a : Addr} {xs : List V} (h : SqT K H a xs) : TyX K H (.ref a) (.type "tuple") := by
  rcases h with (h | ⟨o, h⟩) | ⟨_, _, _, hk, hc, _⟩
  · exact .base (.tup h)
  · exact .fTuple h
  · exact .kTuple hk hc
theorem ok_regs (D : Dfn K mg "checked_regions" s_checked_regions ["regions"]) (T : Txt K mg w) (c_is_name : C8.Cal P w K mg base 1 "is_name" spIsName []) : C8.Cal P w K mg base 2 "checked_regions" (spRegs K) [] := by
  refine cal_of D sc_checked_regions (fun vs H Q E h => ?_) (fun cdv A outer s H vs Q E f hr h => ?_)
  · obtain ⟨a, z, rfl, _⟩ := h
    rfl
  · obtain ⟨a, z, rfl, hs, l1, l2, hv, hn, q⟩ := h
    have nd := sc_checked_regions.nd
    refine ⟨_, (pss_cons (ps_if (PW.pt (pw_or (pt_not (pt_val (pe_callB call_isi (by rfl) T.b_isinstance (by decide +kernel) (pa_cons (pv 0) (pa_cons (pe_bltn (v := .ty "list") (u := .type "list") rfl T.b_list (by decide +kernel) rfl) pa_nil))))) (pw_or1 (pt_not (pt_chain op_le op_le pe_int (pe_callB call_len_seq (by rfl) T.b_len boot_len (pa_cons (pv 0) pa_nil)) (pe_kI T.k_MOST_REGIONS rfl))))))
      (pss_one ps_never)
      pss_nil)
    (pss_cons (ps_for PassesOwn.never rfl (pi_enum (by rfl) T.b_enumerate (pa_cons (pv 0) pa_nil)) (pg_tup rfl (pgs_cons (pg_name (i := 1) nd rfl (.inl rfl)) (pgs_cons (pg_name (i := 2) nd rfl (.inl rfl)) pgs_nil)))
      (pss_one (ps_if (PW.pt (pw_or (pt_not (pt_val (C8.pe_c c_is_name hr (by decide) rfl (pa_cons (pv 2) pa_nil)))) (pw_or1 (pt_cmpR op_in_seq (pv 2) (pe_slice sl_list (pv 0) po_none (po_some (pv 1))) rfl))))
        (pss_one ps_never)
        pss_nil)))
    (pss_one (ps_ret (pe_callTy call_list_of (by rfl) T.b_list (by decide +kernel) (pa_cons (pv 0) pa_nil)))))), ?_⟩
    refine ⟨.ref a, rfl, .ref a, .ty "list", _, _, true, rfl, .ty "list", tyLst hs, kit_ty (by decide +kernel), true, rfl, ?_⟩
    refine iteF ⟨.ref a, rfl, a, _, rfl, .inl hs, 1, _, rfl, rfl, true, bt (by rw [List.length_map]; omega), iteT ⟨_, 24, rfl, rfl, true, bt (by rw [List.length_map]; omega), ?_⟩⟩
    refine iteF ?_
    refine ⟨.ref a, rfl, a, _, rfl, hs, for_it (walk_enum (xs := z.map V.str)) (fun i σ H' => Same H H' ∧ σ[0]? = some (some (V.ref a)) ∧ σ.length = 3) ⟨Same.refl _, rfl, rfl⟩ (fun i σ H' _ p => sqL_same p.1 hs) (fun i x σ H1 H2 hi p y => ?_) (fun σ H' p => ?_)⟩
    · obtain ⟨sm, s0, sl⟩ := p
      obtain ⟨t, _, vx, rfl, hnt, rfl, hx1, hx2⟩ := y
      cases hx1
      have hiz : i < z.length := by rw [List.length_map] at hi; exact hi
      have ex : vx = V.str z[i] := by
        replace hx2 : (z.map V.str)[i]? = some vx := hx2
        rw [List.getElem?_map, List.getElem?_eq_getElem hiz] at hx2
        exact (Option.some.inj hx2).symm
      subst ex
      have sm2 := sm.trans (same_upd (o := .tup [.int (i : Nat), .str z[i]]) hnt)
      refine ⟨t, _, rfl, .inl (.inl upd_same), rfl, .int (i : Nat), _, rfl, .str z[i], _, rfl, rfl, ?_⟩
      refine ⟨.str z[i], by simp [gName, sl], z[i], rfl, hv _ (List.getElem_mem hiz), fun H3 sm3 => ⟨true, rfl, iteF ?_⟩⟩
      refine ⟨.str z[i], by simp [gName, sl], .ref a, by simp [gName, s0], .int (i : Nat), by simp [gName, sl], (i : Nat), rfl, a, _, rfl, sqL_same (sm2.trans sm3) hs, fun p hp => ?_⟩
      refine ⟨p, _, rfl, .inl (.inl (.inl upd_same)), rfl, ?_, false, ?_, ?_⟩
      · rw [cutV_to (by rw [List.length_map]; omega), ← List.map_take]
        exact flat_str _
      · rw [cutV_to (by rw [List.length_map]; omega), ← List.map_take]
        show V.bl (inV _ _) = _
        rw [inV_str, decide_eq_false]
        intro hm
        obtain ⟨j, hj, e⟩ := List.mem_take_iff_getElem.mp hm
        exact (List.pairwise_iff_getElem.mp hn) j i (by omega) hiz (by omega) e
      · exact iteF ⟨(sm2.trans sm3).trans (same_upd hp), by simp [gName, s0], by simp [gName, sl]⟩
    · obtain ⟨sm, s0, sl⟩ := p
      exact ⟨.ref a, s0, a, _, rfl, .inl (sqL_same sm hs), fun l hl => q l _ (Same.back sm hl) (sm.trans (same_upd hl)) upd_same⟩
def spIsRegion : Sp := fun vs H Q _ => ∃ (d : Addr) (z : List Str) (x : Str), vs = [.ref d, .str x] ∧ Plc H d z ∧ x ∈ z ∧ Q (.bl true) H
theorem ok_is_region (D : Dfn K mg "is_region" s_is_region ["places", "thing"]) (T : Txt K mg w) : C8.Cal P w K mg base 1 "is_region" spIsRegion [] := by
  refine cal_of D sc_is_region (fun vs H Q E h => ?_) (fun cdv A outer s H vs Q E f hr h => ?_)
  · obtain ⟨d, z, x, rfl, _⟩ := h
    rfl
  · obtain ⟨d, z, x, rfl, hp, hx, q⟩ := h
    have nd := sc_is_region.nd
    refine ⟨_, (pss_one (ps_ret (pe_and (pe_callB call_isi (by rfl) T.b_isinstance (by decide +kernel) (pa_cons (pv 1) (pa_cons (pe_bltn (v := .ty "str") (u := .type "str") rfl T.b_str (by decide +kernel) rfl) pa_nil))) (pe_one (pe_cmp (pc_din (hu_of hr) (pv 1) (pv 0))))))), ?_⟩
    refine ⟨.str x, rfl, .str x, .ty "str", _, _, true, rfl, .ty "str", .base (.str x), kit_ty (by decide +kernel), true, rfl, ?_⟩
    refine iteT ⟨.str x, rfl, .ref d, rfl, d, _, rfl, hp.get hx, q⟩
/-- a fact as data -/
abbrev Fc := Str × Str × Str
def fL (f : Fc) : List Str := [f.1, f.2.1, f.2.2]
def fD (f : Fc) : PyData := eT (fL f)
structure FOk (z : List Str) (f : Fc) : Prop where
  k : f.1 = "in" ∨ f.1 = "apart" ∨ f.1 = "cover"
  a : f.2.1 ∈ z
  b : f.2.2 ∈ z
def spIsFact (K : PySem.W.Frag) : Sp := fun vs H Q _ => ∃ (d t : Addr) (z : List Str) (f : Fc), vs = [.ref d, .ref t] ∧ Plc H d z ∧ SqT K H t ((fL f).map V.str) ∧ FOk z f ∧ Q (.bl true) H
theorem ok_is_fact (D : Dfn K mg "is_fact" s_is_fact ["places", "thing"]) (T : Txt K mg w) (c_is_region : C8.Cal P w K mg base 1 "is_region" spIsRegion []) : C8.Cal P w K mg base 2 "is_fact" (spIsFact K) [] := by
  refine cal_of D sc_is_fact (fun vs H Q E h => ?_) (fun cdv A outer s H vs Q E f hr h => ?_)
  · obtain ⟨d, t, z, x, rfl, _⟩ := h
    rfl
  · obtain ⟨d, t, z, fc, rfl, hp, ht, ok, q⟩ := h
    have nd := sc_is_fact.nd
    refine ⟨_, (pss_cons (ps_if (PW.pt (pw_or (pt_not (pt_val (pe_callB call_isi (by rfl) T.b_isinstance (by decide +kernel) (pa_cons (pv 1) (pa_cons (pe_bltn (v := .ty "tuple") (u := .type "tuple") rfl T.b_tuple (by decide +kernel) rfl) pa_nil))))) (pw_or1 (pt_cmpR op_ne (pe_callB call_len_seq (by rfl) T.b_len boot_len (pa_cons (pv 1) pa_nil)) pe_int (nomark _)))))
      (pss_one (ps_ret pe_bl))
      pss_nil)
    (pss_cons (ps_if (PW.pt (pw_or (pt_not (pt_val (pe_callB call_isi (by rfl) T.b_isinstance (by decide +kernel) (pa_cons (pe_ix ix_tup (pv 1) pe_int (fun _ _ => rfl)) (pa_cons (pe_bltn (v := .ty "str") (u := .type "str") rfl T.b_str (by decide +kernel) rfl) pa_nil))))) (pw_or1 (pt_cmpR op_notIn_seq (pe_ix ix_tup (pv 1) pe_int (fun _ _ => rfl)) (pe_glob (v := .ref _) rfl T.g_KINDS rfl) rfl))))
      (pss_one (ps_ret pe_bl))
      pss_nil)
    (pss_one (ps_ret (pe_and (C8.pe_c c_is_region hr (by decide) rfl (pa_cons (pv 0) (pa_cons (pe_ix ix_tup (pv 1) pe_int (fun _ _ => rfl)) pa_nil))) (pe_one (C8.pe_c c_is_region hr (by decide) rfl (pa_cons (pv 0) (pa_cons (pe_ix ix_tup (pv 1) pe_int (fun _ _ => rfl)) pa_nil))))))))), ?_⟩
    refine ⟨.ref t, rfl, .ref t, .ty "tuple", _, _, true, rfl, .ty "tuple", tyTup ht, kit_ty (by decide +kernel), true, rfl, ?_⟩
    refine iteF ⟨.ref t, rfl, t, _, rfl, .inr ht, rfl, false, rfl, iteF ?_⟩
    refine ⟨.ref t, rfl, t, _, 0, _, rfl, rfl, ht, rfl, .str fc.1, .ty "str", _, _, true, rfl, .ty "str", .base (.str _), kit_ty (by decide +kernel), true, rfl, ?_⟩
    refine iteF ⟨.ref t, rfl, t, _, 0, _, rfl, rfl, ht, rfl, _, _, rfl, .inr (T.t_KINDS H), rfl, rfl, false, ?_, iteF ?_⟩
    · show V.bl (!inV (.str fc.1) [V.str "in", .str "apart", .str "cover"]) = _
      rcases ok.k with e | e | e <;> rw [e] <;> rfl
    · refine ⟨.ref d, rfl, .ref t, rfl, t, _, 1, _, rfl, rfl, ht, rfl, d, z, fc.2.1, rfl, hp, ok.a, true, rfl, ?_⟩
      refine iteT ⟨.ref d, rfl, .ref t, rfl, t, _, 2, _, rfl, rfl, ht, rfl, d, z, fc.2.2, rfl, hp, ok.b, q⟩
def spFacts (K : PySem.W.Frag) : Sp := fun vs H Q _ => ∃ (d a : Addr) (z : List Str) (xs : List V) (fs : List Fc), vs = [.ref d, .ref a] ∧ Plc H d z ∧ SqL K H a xs ∧ DpAll K H xs (fs.map fD) ∧ fs.length ≤ 1200 ∧ (∀ f ∈ fs, FOk z f) ∧
  ∀ p H', H p = none → Same H H' → H' p = some (.lst xs) → Q (.ref p) H'
theorem ok_facts (D : Dfn K mg "checked_facts" s_checked_facts ["places", "facts"]) (T : Txt K mg w) (c_is_fact : C8.Cal P w K mg base 2 "is_fact" (spIsFact K) []) : C8.Cal P w K mg base 3 "checked_facts" (spFacts K) [] := by
  refine cal_of D sc_checked_facts (fun vs H Q E h => ?_) (fun cdv A outer s H vs Q E f hr h => ?_)
  · obtain ⟨d, t, z, x, _, rfl, _⟩ := h
    rfl
  · obtain ⟨d, a, z, xs, fs, rfl, hp, hs, hd, hl, ok, q⟩ := h
    have nd := sc_checked_facts.nd
    have hlx : xs.length = fs.length := by rw [dpAll_len hd, List.length_map]
    refine ⟨_, (pss_cons (ps_if (PW.pt (pw_or (pt_not (pt_val (pe_callB call_isi (by rfl) T.b_isinstance (by decide +kernel) (pa_cons (pv 1) (pa_cons (pe_bltn (v := .ty "list") (u := .type "list") rfl T.b_list (by decide +kernel) rfl) pa_nil))))) (pw_or1 (pt_cmpR op_gt (pe_callB call_len_seq (by rfl) T.b_len boot_len (pa_cons (pv 1) pa_nil)) (pe_kI T.k_MOST_FACTS rfl) (nomark _)))))
      (pss_one ps_never)
      pss_nil)
    (pss_cons (ps_for PassesOwn.never rfl (pi_enum (by rfl) T.b_enumerate (pa_cons (pv 1) pa_nil)) (pg_tup rfl (pgs_cons (pg_name (i := 2) nd rfl (.inl rfl)) (pgs_cons (pg_name (i := 3) nd rfl (.inl rfl)) pgs_nil)))
      (pss_one (ps_if (pt_not (pt_val (C8.pe_c c_is_fact hr (by decide) rfl (pa_cons (pv 0) (pa_cons (pv 3) pa_nil)))))
        (pss_one ps_never)
        pss_nil)))
    (pss_one (ps_ret (pe_callTy call_list_of (by rfl) T.b_list (by decide +kernel) (pa_cons (pv 1) pa_nil)))))), ?_⟩
    refine ⟨.ref a, rfl, .ref a, .ty "list", _, _, true, rfl, .ty "list", tyLst hs, kit_ty (by decide +kernel), true, rfl, ?_⟩
    refine iteF ⟨.ref a, rfl, a, _, rfl, .inl hs, _, 1200, rfl, rfl, false, bf (by omega), iteF ?_⟩
    refine ⟨.ref a, rfl, a, _, rfl, hs, for_it (walk_enum (xs := xs)) (fun i σ H' => Same H H' ∧ σ[0]? = some (some (V.ref d)) ∧ σ[1]? = some (some (V.ref a)) ∧ σ.length = 4) ⟨Same.refl _, rfl, rfl, rfl⟩ (fun i σ H' _ p => sqL_same p.1 hs) (fun i x σ H1 H2 hi p y => ?_) (fun σ H' p => ?_)⟩
    · obtain ⟨sm, s0, s1, sl⟩ := p
      obtain ⟨t, _, vx, rfl, hnt, rfl, hx1, hx2⟩ := y
      cases hx1
      obtain ⟨dd, hdd, hv⟩ := dpAll_get hd hx2
      have hif : i < fs.length := by omega
      have : dd = fD fs[i] := by
        rw [List.getElem?_map, List.getElem?_eq_getElem hif] at hdd
        exact (Option.some.inj hdd).symm
      subst this
      have sm2 := sm.trans (same_upd (o := .tup [.int (i : Nat), vx]) hnt)
      obtain ⟨b, rfl, hb⟩ := dp_eT (dp_same sm2 hv)
      refine ⟨t, _, rfl, .inl (.inl upd_same), rfl, .int (i : Nat), _, rfl, _, _, rfl, rfl, ?_⟩
      refine ⟨.ref d, by simp [gName, s0], .ref b, by simp [gName, sl], d, b, z, fs[i], rfl, hp.same sm2, hb, ok _ (List.getElem_mem hif), true, rfl, iteF ?_⟩
      exact ⟨sm2, by simp [gName, s0], by simp [gName, s1], by simp [gName, sl]⟩
    · obtain ⟨sm, s0, s1, sl⟩ := p
      exact ⟨.ref a, s1, a, _, rfl, .inl (sqL_same sm hs), fun l hl => q l _ (Same.back sm hl) (sm.trans (same_upd hl)) upd_same⟩
end
end Cw
end
section
namespace Cw
open PySem PySem.Spec PyProof.Rows L2
/-! ### bits -/
theorem nOr (a b : Nat) : Builtin.bitOr (a : Int) (b : Int) = ((a ||| b : Nat) : Int) := by
  rw [Bits.bitOr_pp (by omega) (by omega)]
  rfl
theorem nAnd (a b : Nat) : Builtin.bitAnd (a : Int) (b : Int) = ((a &&& b : Nat) : Int) := by
  rw [PyProof.Rows.bitAnd_pp (by omega) (by omega)]
  rfl
theorem nShr (a b : Nat) : (a : Int) / (2 : Int) ^ ((b : Nat) : Int).toNat = ((a >>> b : Nat) : Int) := by
  rw [Int.toNat_natCast, Nat.shiftRight_eq_div_pow]
  norm_cast
theorem nShr1 (a : Nat) : (a : Int) / (2 : Int) ^ (1 : Int).toNat = ((a >>> 1 : Nat) : Int) := nShr a 1
/-- x >> c & 1 == 1 -/
theorem bit_eq (m c : Nat) : decide (V.int (Builtin.bitAnd ((m : Int) / (2 : Int) ^ ((c : Nat) : Int).toNat) 1) = V.int 1) = m.testBit c := by
  rw [nShr, show (1 : Int) = ((1 : Nat) : Int) from rfl, nAnd, Nat.testBit]
  rw [Nat.and_comm]
  have h : 1 &&& m >>> c = 0 ∨ 1 &&& m >>> c = 1 := by
    rw [Nat.one_and_eq_mod_two]
    omega
  rcases h with h | h <;> rw [h] <;> rfl
/-- the bits of numbers -/
def bitsOf (cs : List Nat) : Nat := cs.foldl (fun m c => m ||| 2 ^ c) 0
theorem bits_fold (cs : List Nat) : ∀ (m i : Nat), (cs.foldl (fun m c => m ||| 2 ^ c) m).testBit i = (m.testBit i || decide (i ∈ cs)) := by
  induction cs with
  | nil => intro m i; simp
  | cons c r ih =>
    intro m i
    rw [List.foldl_cons, ih, Nat.testBit_or, Nat.testBit_two_pow]
    by_cases h : c = i
    · subst h
      simp
    · have h' : ¬ i = c := fun e => h e.symm
      simp [h, h', List.mem_cons]
theorem bitsOf_bit (cs : List Nat) (i : Nat) : (bitsOf cs).testBit i = decide (i ∈ cs) := by
  unfold bitsOf
  rw [bits_fold, Nat.zero_testBit, Bool.false_or]
theorem bitsOf_lt {cs : List Nat} {n : Nat} (h : ∀ c ∈ cs, c < n) : bitsOf cs < 2 ^ n := by
  apply Nat.lt_pow_two_of_testBit
  intro i hi
  rw [bitsOf_bit, decide_eq_false]
  intro m
  exact absurd (h i m) (by omega)
theorem bitsOf_snoc (cs : List Nat) (c : Nat) : bitsOf (cs ++ [c]) = bitsOf cs ||| 2 ^ c := by
  unfold bitsOf
  rw [List.foldl_append]
  rfl
/-- a claim and its contrary -/
def clsh (m : Nat) : Bool := (List.range 32).any fun c => m.testBit (2 * c) && m.testBit (2 * c + 1)
theorem rg2 : ∀ n : Fin 65, RgC 0 (n.val : Int) 2 ((n.val + 1) / 2) := by
  unfold RgC
  decide +kernel
theorem clsh_eq {m n : Nat} (hm : m < 2 ^ n) (hn : n ≤ 64) : (((List.range ((n + 1) / 2)).map fun (c : Nat) => (m &&& m >>> 1).testBit (2 * c)).any id) = clsh m := by
  unfold clsh
  rw [List.any_map]
  have e : ∀ c, (id ∘ fun (c : Nat) => (m &&& m >>> 1).testBit (2 * c)) c = (m.testBit (2 * c) && m.testBit (2 * c + 1)) := fun c => by
    show (m &&& m >>> 1).testBit (2 * c) = _
    rw [Nat.testBit_and, Nat.testBit_shiftRight, Nat.add_comm 1]
  rw [show (id ∘ fun (c : Nat) => (m &&& m >>> 1).testBit (2 * c)) = fun c => (m.testBit (2 * c) && m.testBit (2 * c + 1)) from funext e]
  rw [Bool.eq_iff_iff, List.any_eq_true, List.any_eq_true]
  constructor
  · rintro ⟨c, hc, h⟩
    exact ⟨c, List.mem_range.mpr (by have := List.mem_range.mp hc; omega), h⟩
  · rintro ⟨c, hc, h⟩
    refine ⟨c, List.mem_range.mpr ?_, h⟩
    obtain ⟨h1, h2⟩ := Bool.and_eq_true_iff.mp h
    have : 2 * c + 1 < n := by
      rcases Nat.lt_or_ge (2 * c + 1) n with q | q
      · exact q
      · rw [Nat.testBit_lt_two_pow (Nat.lt_of_lt_of_le hm (Nat.pow_le_pow_right (by omega) q))] at h2
        cases h2
    omega
theorem intBits_le {m n : Nat} (h : m < 2 ^ n) : Builtin.Int.intBits (m : Int) ≤ n := PySem.intBits_le_iff.mpr (by rw [Int.natAbs_natCast]; exact h)
theorem intBits_lt {m : Nat} : m < 2 ^ Builtin.Int.intBits (m : Int) := by
  have := PySem.intBits_le_iff.mp (Nat.le_refl (Builtin.Int.intBits (m : Int)))
  rwa [Int.natAbs_natCast] at this
section
variable {P : Program} {w : World} {K : PySem.W.Frag} {mg : Str → Option Value} {base : Heap}
def spMaskOf (K : PySem.W.Frag) : Sp := fun vs H Q _ => ∃ (a : Addr) (cs : List Nat), vs = [.ref a] ∧ SqL K H a (cs.map fun c => V.int (c : Nat)) ∧ (∀ c ∈ cs, c < 64) ∧ Q (.int (bitsOf cs : Nat)) H
theorem ok_mask_of (D : Dfn K mg "mask_of" s_mask_of ["claims"]) (T : Txt K mg w) : C8.Cal P w K mg base 1 "mask_of" (spMaskOf K) [] := by
  refine cal_of D sc_mask_of (fun vs H Q E h => ?_) (fun cdv A outer s H vs Q E f hr h => ?_)
  · obtain ⟨a, cs, rfl, _⟩ := h
    rfl
  · obtain ⟨a, cs, rfl, hs, hc, q⟩ := h
    have nd := sc_mask_of.nd
    refine ⟨_, (pss_cons (ps_set (i := 1) nd rfl (.inl rfl) pe_int)
    (pss_cons (ps_for PassesOwn.never rfl (pi_list (pv 0)) (pg_name (i := 2) nd rfl (.inl rfl))
      (pss_one (ps_set (i := 1) nd rfl (.inl rfl) (pe_op op_or (pv 1) (pe_op op_shl pe_int (pv 2))))))
    (pss_one (ps_ret (pv 1))))), ?_⟩
    refine ⟨.ref a, rfl, a, rfl, ⟨_, hs⟩, for_it (walk_list (xs := cs.map fun c => V.int (c : Nat))) (fun i σ H' => H' = H ∧ σ[1]? = some (some (V.int (bitsOf (cs.take i) : Nat))) ∧ σ.length = 3) ⟨rfl, rfl, rfl⟩ (fun i σ H' _ p => p.1 ▸ hs) (fun i x σ H1 H2 hi p y => ?_) (fun σ H' p => ?_)⟩
    · obtain ⟨rfl, s1, sl⟩ := p
      obtain ⟨rfl, hx⟩ := y
      have hi' : i < cs.length := by rw [List.length_map] at hi; exact hi
      have ex : x = V.int ((cs[i] : Nat) : Int) := by
        rw [List.getElem?_map, List.getElem?_eq_getElem hi'] at hx
        exact (Option.some.inj hx).symm
      subst ex
      have hci := hc _ (List.getElem_mem hi')
      refine ⟨.int (bitsOf (cs.take i) : Nat), by simp [gName, s1], .int (cs[i] : Nat), by simp [gName, sl], 1, (cs[i] : Nat), rfl, rfl, ⟨by omega, by omega, by decide⟩, _, _, rfl, rfl, rfl, ?_, by simp [gName, sl]⟩
      show ((σ.set 2 (some (V.int ((cs[i] : Nat) : Int)))).set 1 (some (V.int (Builtin.bitOr ((bitsOf (cs.take i) : Nat) : Int) (1 * 2 ^ ((cs[i] : Nat) : Int).toNat)))))[1]? = _
      rw [List.getElem?_set_self (by rw [List.length_set, sl]; decide), Int.toNat_natCast, Int.one_mul, show ((2 : Int) ^ cs[i]) = ((2 ^ cs[i] : Nat) : Int) by norm_cast, nOr, ← bitsOf_snoc, List.take_append_getElem hi']
    · obtain ⟨rfl, s1, sl⟩ := p
      rw [List.length_map, List.take_length] at s1
      exact ⟨_, s1, q⟩
def spClashes : Sp := fun vs H Q _ => ∃ m : Nat, vs = [.int (m : Nat)] ∧ m < 2 ^ 64 ∧ ∀ H', Same H H' → Q (.bl (clsh m)) H'
theorem ok_clashes (D : Dfn K mg "clashes" s_clashes ["mask"]) (T : Txt K mg w) : C8.Cal P w K mg base 1 "clashes" spClashes [] := by
  refine cal_of D sc_clashes (fun vs H Q E h => ?_) (fun cdv A outer s H vs Q E f hr h => ?_)
  · obtain ⟨m, rfl, _⟩ := h
    rfl
  · obtain ⟨m, rfl, hm, q⟩ := h
    have nd := sc_clashes.nd
    refine ⟨_, (pss_cons (ps_set (i := 1) nd rfl (.inr rfl) (pe_op op_and (pv 0) (pe_op op_shr (pv 0) pe_int)))
    (pss_one (ps_ret (pe_callB (cr_any rfl) (by rfl) T.b_any (by decide +kernel) (pa_cons (pe_lc (own := [("claim", 2)]) rfl nd (pi_range3 rfl T.b_range (pa_cons pe_int (pa_cons (pe_bits (pv 0)) (pa_cons pe_int pa_nil)))) (blkOk_by (by kernel_rfl)) (fun _ _ _ _ _ => (pg_name (i := 2) nd rfl (by first | exact Or.inl rfl | exact Or.inr rfl))) (fun _ _ _ _ _ => pts_nil) (fun _ _ _ _ _ => (pe_cmpR op_eq (pe_op op_and (pe_op op_shr (pv 1) (pv 2)) pe_int) pe_int (nomark _)))) pa_nil))))), ?_⟩
    have hb := intBits_le hm
    refine ⟨_, rfl, _, rfl, _, 1, rfl, rfl, (show (0 : Int) ≤ 1 by decide), _, _, rfl, rfl, ?_⟩
    dsimp only
    rw [nShr1, nAnd]
    refine ⟨.int (m : Nat), rfl, (m : Nat), rfl, 0, _, 2, _, rfl, rg2 ⟨_, Nat.lt_succ_of_le hb⟩, fun D hD => lc_it walk_rangeC (fun i H' => Same H H' ∧ H' D = some (.lst (((List.range i).map fun (c : Nat) => (m &&& m >>> 1).testBit (2 * c)).map V.bl)) ∧ i ≤ 40) ⟨same_upd hD, upd_same, by omega⟩ (fun _ _ _ _ => trivial) (fun i x H1 H2 hi p y => ?_) (fun H1 p => ?_)⟩
    · obtain ⟨sm, e, hi2⟩ := p
      obtain ⟨rfl, rfl⟩ := y
      replace hi : i < (Builtin.Int.intBits (m : Int) + 1) / 2 := hi
      refine ⟨rfl, _, rfl, _, rfl, ((m &&& m >>> 1 : Nat) : Int), _, rfl, rfl, by omega, _, 1, rfl, rfl, rfl, _, e, ?_, same_mut sm hD, ?_, by omega⟩
      · rw [List.length_map, List.length_map, List.length_range]
        exact Nat.lt_of_le_of_lt hi2 (by decide)
      · rw [upd_same, List.range_succ, List.map_append, List.map_append]
        rw [show (0 : Int) + (i : Int) * 2 = ((2 * i : Nat) : Int) by omega, bit_eq]
        rfl
    · obtain ⟨sm, e, _⟩ := p
      refine ⟨D, _, rfl, .inl (.inl e), ?_⟩
      rw [clsh_eq (intBits_lt (m := m)) hb]
      exact q H1 sm
end
end Cw
end
section
namespace Cw
open PySem PySem.Spec PyProof.Rows L2
/-! ### tuples stand, whatever lists do -/
def Fx (H H' : Hp) : Prop := ∀ b xs, Rd H b (.tup xs) → Rd H' b (.tup xs)
theorem Fx.refl {H : Hp} : Fx H H := fun _ _ h => h
theorem Fx.trans {H H1 H2 : Hp} (a : Fx H H1) (b : Fx H1 H2) : Fx H H2 := fun x xs h => b x xs (a x xs h)
theorem Fx.of_same {H H' : Hp} (s : Same H H') : Fx H H' := fun _ _ h => Rd.same s h
theorem Fx.put {H : Hp} {p : Addr} {o : HO} (h : ∀ xs, ¬ Rd H p (.tup xs)) : Fx H (upd H p o) := fun b xs q => by
  have hb : b ≠ p := fun e => h xs (e ▸ q)
  unfold Rd
  rw [upd_ne hb]
  exact q
theorem Fx.lst {H : Hp} {p : Addr} {o : HO} {zs : List V} (h : H p = some (.lst zs)) : Fx H (upd H p o) := .put fun xs q => by
  rcases q with q | ⟨_, q⟩ <;> rw [h] at q <;> cases q
theorem sqT_fx {K : PySem.W.Frag} {H H' : Hp} {a : Addr} {xs : List V} (s : Fx H H') (h : SqT K H a xs) : SqT K H' a xs := h.imp (s a xs) id
theorem dpAll_fx {K : PySem.W.Frag} {H H' : Hp} (s : Fx H H') : ∀ {ds : List PyData} {vs : List V}, (∀ d ∈ ds, ∃ l, d = eT l) → DpAll K H vs ds → DpAll K H' vs ds
  | [], _, _, h => by cases h; exact .nil
  | d :: ds, _, k, h => by
    cases h with
    | cons h1 h2 =>
      refine .cons ?_ (dpAll_fx s (fun e he => k e (List.mem_cons_of_mem _ he)) h2)
      obtain ⟨l, rfl⟩ := k d List.mem_cons_self
      obtain ⟨a, rfl, q⟩ := dp_eT h1
      exact dp_of_eT (sqT_fx s q)
theorem eTs (ls : List (List Str)) : ∀ d ∈ ls.map eT, ∃ l, d = eT l := fun d hd => by
  obtain ⟨l, _, e⟩ := List.mem_map.mp hd
  exact ⟨l, e.symm⟩
theorem fDs (fs : List Fc) : ∀ d ∈ fs.map fD, ∃ l, d = eT l := fun d hd => by
  obtain ⟨l, _, e⟩ := List.mem_map.mp hd
  exact ⟨_, e.symm⟩
/-! ### facts as claims -/
def sgn (k : Str) : Nat × Nat := if k = "in" then (1, 0) else if k = "apart" then (1, 1) else (0, 0)
def br1 (z : List Str) (f : Fc) : Nat := 2 * z.idxOf f.2.1 + (sgn f.1).1
def br2 (z : List Str) (f : Fc) : Nat := 2 * z.idxOf f.2.2 + (sgn f.1).2
theorem sgn_lt (k : Str) : (sgn k).1 < 2 ∧ (sgn k).2 < 2 := by
  unfold sgn
  split
  · decide
  · split <;> decide
theorem br_lt {z : List Str} {f : Fc} (ok : FOk z f) : br1 z f < 2 * z.length ∧ br2 z f < 2 * z.length := by
  have h1 := List.idxOf_lt_length_of_mem ok.a
  have h2 := List.idxOf_lt_length_of_mem ok.b
  have h3 := sgn_lt f.1
  unfold br1 br2
  omega
section
variable {P : Program} {w : World} {K : PySem.W.Frag} {mg : Str → Option Value} {base : Heap}
def spBreaking (K : PySem.W.Frag) : Sp := fun vs H Q _ => ∃ (d t : Addr) (z : List Str) (f : Fc), vs = [.ref d, .ref t] ∧ Plc H d z ∧ SqT K H t ((fL f).map V.str) ∧ FOk z f ∧
  ∀ p, H p = none → Q (.ref p) (upd H p (.tup [.int (br1 z f : Nat), .int (br2 z f : Nat)]))
theorem sgAt (T : Txt K mg w) {k : Str} (h : k = "in" ∨ k = "apart" ∨ k = "cover") : SgAt K k ((sgn k).1 : Nat) ((sgn k).2 : Nat) := by
  rcases h with rfl | rfl | rfl
  · exact T.sg_in
  · exact T.sg_apart
  · exact T.sg_cover
theorem kdct (T : Txt K mg w) {k : Str} {i j : Int} (h : SgAt K k i j) : ∃ t : Addr, KDct K w (He.ga K "SIGNS") k (.ref t) ∧ ∀ H, SqT K H t [.int i, .int j] := by
  obtain ⟨t, e, q⟩ := h
  obtain ⟨es, n, D⟩ := T.d_SIGNS
  exact ⟨t, ⟨es, n, _, D.at_, D.lit, e, rfl⟩, q⟩
theorem ok_breaking (D : Dfn K mg "breaking" s_breaking ["places", "fact"]) (T : Txt K mg w) : C8.Cal P w K mg base 1 "breaking" (spBreaking K) [] := by
  refine cal_of D sc_breaking (fun vs H Q E h => ?_) (fun cdv A outer s H vs Q E f hr h => ?_)
  · obtain ⟨d, t, z, x, rfl, _⟩ := h
    rfl
  · obtain ⟨d, t, z, fc, rfl, hp, ht, ok, q⟩ := h
    have nd := sc_breaking.nd
    refine ⟨_, (pss_cons (ps_asg (pv 1) (pg_tup rfl (pgs_cons (pg_name (i := 2) nd rfl (.inl rfl)) (pgs_cons (pg_name (i := 3) nd rfl (.inl rfl)) (pgs_cons (pg_name (i := 4) nd rfl (.inl rfl)) pgs_nil)))))
    (pss_one (ps_ret (pe_tup (pa_cons (pe_op op_add (pe_op op_mul pe_int (pe_dget (hu_of hr) (pv 0) (pv 3) (fun _ _ => rfl))) (pe_ix ix_tup (pe_ix ix_kdict (pe_glob (v := .ref _) rfl T.g_SIGNS rfl) (pv 2) (fun _ _ => rfl)) pe_int (fun _ _ => rfl))) (pa_cons (pe_op op_add (pe_op op_mul pe_int (pe_dget (hu_of hr) (pv 0) (pv 4) (fun _ _ => rfl))) (pe_ix ix_tup (pe_ix ix_kdict (pe_glob (v := .ref _) rfl T.g_SIGNS rfl) (pv 2) (fun _ _ => rfl)) pe_int (fun _ _ => rfl))) pa_nil)))))), ?_⟩
    obtain ⟨tt, kd, ht2⟩ := kdct T (sgAt T ok.k)
    refine ⟨.ref t, rfl, t, _, rfl, ht, rfl, _, _, rfl, _, _, rfl, _, _, rfl, rfl, ?_⟩
    have l1 : (2 * (z.idxOf fc.2.1 : Int)) = ((2 * z.idxOf fc.2.1 : Nat) : Int) := by omega
    refine ⟨.ref d, rfl, .str fc.2.1, rfl, d, _, rfl, hp.get ok.a, 2, _, rfl, rfl, .inl ⟨by decide, by decide⟩, ?_⟩
    refine ⟨.str fc.1, rfl, _, _, _, rfl, rfl, kd, tt, _, 0, _, rfl, rfl, ht2 H, rfl, _, _, rfl, rfl, ?_⟩
    refine ⟨.ref d, rfl, .str fc.2.2, rfl, d, _, rfl, hp.get ok.b, 2, _, rfl, rfl, .inl ⟨by decide, by decide⟩, ?_⟩
    refine ⟨.str fc.1, rfl, _, _, _, rfl, rfl, kd, tt, _, 1, _, rfl, rfl, ht2 H, rfl, _, _, rfl, rfl, ?_⟩
    refine ⟨(show 2 ≤ sizeLine by decide), fun p hp2 => ?_⟩
    exact q p hp2
/-- a deed as it may stand in a row -/
def DeedOk (l : List Str) : Prop := ∃ (k : Str) (r : List Str), l = k :: r ∧ ((k = "put" ∨ k = "fill" ∨ k = "turn") ∧ r.length = 2 ∨ k = "wipe" ∧ r.length = 1) ∧ ∀ x ∈ r, Valid x
def spIsDeed (K : PySem.W.Frag) : Sp := fun vs H Q _ => ∃ (t : Addr) (l : List Str), vs = [.ref t] ∧ SqT K H t (l.map V.str) ∧ DeedOk l ∧ ∀ H', Same H H' → Q (.bl true) H'
theorem ok_is_deed (D : Dfn K mg "is_deed" s_is_deed ["thing"]) (T : Txt K mg w) (c_is_name : C8.Cal P w K mg base 1 "is_name" spIsName []) : C8.Cal P w K mg base 2 "is_deed" (spIsDeed K) [] := by
  refine cal_of D sc_is_deed (fun vs H Q E h => ?_) (fun cdv A outer s H vs Q E f hr h => ?_)
  · obtain ⟨t, l, rfl, _⟩ := h
    rfl
  · obtain ⟨t, l, rfl, ht, ⟨k, r, rfl, hk, hv⟩, q⟩ := h
    have nd := sc_is_deed.nd
    refine ⟨_, (pss_cons (ps_if (PW.pt (pw_or (pt_not (pt_val (pe_callB call_isi (by rfl) T.b_isinstance (by decide +kernel) (pa_cons (pv 0) (pa_cons (pe_bltn (v := .ty "tuple") (u := .type "tuple") rfl T.b_tuple (by decide +kernel) rfl) pa_nil))))) (pw_or (pt_cmpR op_eq (pe_callB call_len_seq (by rfl) T.b_len boot_len (pa_cons (pv 0) pa_nil)) pe_int (nomark _)) (pw_or1 (pt_not (pt_val (pe_callB call_isi (by rfl) T.b_isinstance (by decide +kernel) (pa_cons (pe_ix ix_tup (pv 0) pe_int (fun _ _ => rfl)) (pa_cons (pe_bltn (v := .ty "str") (u := .type "str") rfl T.b_str (by decide +kernel) rfl) pa_nil)))))))))
      (pss_one (ps_ret pe_bl))
      pss_nil)
    (pss_cons (ps_if (pt_cmpR op_ne (pe_kget (pe_glob (v := .ref _) rfl T.g_SIZES rfl) (pe_ix ix_tup (pv 0) pe_int (fun _ _ => rfl)) ⟨rfl, rfl, rfl, rfl⟩) (pe_callB call_len_seq (by rfl) T.b_len boot_len (pa_cons (pv 0) pa_nil)) (nomark _))
      (pss_one (ps_ret pe_bl))
      pss_nil)
    (pss_one (ps_ret (pe_callB (cr_all rfl) (by rfl) T.b_all (by decide +kernel) (pa_cons (pe_lc (own := [("one", 1)]) rfl nd (pi_tup (pe_slice sl_tup (pv 0) (po_some pe_int) po_none)) (blkOk_by (by kernel_rfl)) (fun _ _ _ _ _ => (pg_name (i := 1) nd rfl (by first | exact Or.inl rfl | exact Or.inr rfl))) (fun _ _ _ _ _ => pts_nil) (fun _ _ _ _ _ => (C8.pe_c c_is_name hr (by decide) rfl (pa_cons (pv 1) pa_nil)))) pa_nil)))))), ?_⟩
    have hz : ∃ n : Nat, SzAt K k n ∧ r.length + 1 = n ∧ r.length ≤ 2 ∧ 1 ≤ r.length := by
      rcases hk with ⟨rfl | rfl | rfl, h⟩ | ⟨rfl, h⟩
      · exact ⟨3, T.sz_put, by omega, by omega, by omega⟩
      · exact ⟨3, T.sz_fill, by omega, by omega, by omega⟩
      · exact ⟨3, T.sz_turn, by omega, by omega, by omega⟩
      · exact ⟨2, T.sz_wipe, by omega, by omega, by omega⟩
    obtain ⟨n, ⟨tok, hn⟩, hl, h2, h1⟩ := hz
    refine ⟨.ref t, rfl, .ref t, .ty "tuple", _, _, true, rfl, .ty "tuple", tyTup ht, kit_ty (by decide +kernel), true, rfl, ?_⟩
    refine iteF ⟨.ref t, rfl, t, _, rfl, .inr ht, rfl, false, bf (fun e => ?_), iteF ?_⟩
    · have e2 : ((List.map V.str (k :: r)).length : Int) = 0 := V.int.inj e
      rw [List.length_map, List.length_cons] at e2
      omega
    refine ⟨.ref t, rfl, t, _, 0, _, rfl, rfl, ht, atI_nat (j := 0) rfl, .str k, .ty "str", _, _, true, rfl, .ty "str", .base (.str _), kit_ty (by decide +kernel), true, rfl, ?_⟩
    refine iteF ?_
    refine ⟨_, rfl, T.d_SIZES, .ref t, rfl, t, _, 0, _, rfl, rfl, ht, atI_nat (j := 0) rfl, k, _, .int n, rfl, hn, ⟨_, rfl⟩, .ref t, rfl, t, _, rfl, .inr ht, rfl, false, bnt ?_, iteF ?_⟩
    · rw [List.length_map, List.length_cons, hl]
    have hlr : (r.map V.str).length = r.length := List.length_map ..
    refine ⟨.ref t, rfl, 1, rfl, t, _, rfl, ht, (fun z => ?_), fun p hp => ?_⟩
    · rw [show (1 : Int) = ((1 : Nat) : Int) from rfl, HT.sIx_nat] at z
      rw [List.length_map, List.length_cons] at z
      omega
    have ec : cutV ((k :: r).map V.str) (some (1 : Int)) none = r.map V.str := by
      rw [show (some (1 : Int)) = some ((1 : Nat) : Int) from rfl, cutV_from (by rw [List.length_map, List.length_cons]; omega)]
      rfl
    rw [ec]
    refine ⟨p, rfl, ⟨_, .inl (.inl upd_same)⟩, fun D hD => lc_it (walk_tup (xs := r.map V.str)) (fun i H' => Same (upd H p (.tup (r.map V.str))) H' ∧ H' D = some (.lst ((List.replicate i true).map V.bl)) ∧ i ≤ 12) ⟨same_upd hD, upd_same, by omega⟩ (fun i H' _ q => sqT_same q.1 (.inl (.inl upd_same))) (fun i x H1 H2 hi p y => ?_) (fun H1 p => ?_)⟩
    · obtain ⟨sm, e, hi2⟩ := p
      obtain ⟨rfl, hx⟩ := y
      have hi' : i < r.length := by rw [List.length_map] at hi; exact hi
      have ex : x = V.str r[i] := by
        rw [List.getElem?_map, List.getElem?_eq_getElem hi'] at hx
        exact (Option.some.inj hx).symm
      subst ex
      refine ⟨rfl, _, rfl, r[i], rfl, hv _ (List.getElem_mem hi'), fun H3 sm3 => ⟨_, sm3 _ _ e, ?_, same_mut (sm.trans sm3) hD, ?_, ?_⟩⟩
      · rw [List.length_map, List.length_replicate]
        exact Nat.lt_of_le_of_lt hi2 (by decide)
      · rw [upd_same, List.replicate_succ', List.map_append]
        rfl
      · omega
    · obtain ⟨sm, e, _⟩ := p
      refine ⟨D, _, rfl, .inl (.inl e), ?_⟩
      have : (List.replicate (r.map V.str).length true).all id = true := by
        rw [List.all_eq_true]
        intro b hb
        rw [List.eq_of_mem_replicate hb]
        rfl
      rw [this]
      exact q H1 ((same_upd hp).trans sm)
/-- the region of a deed that is no turn -/
def reg (l : List Str) : Str := l.getLast?.getD Str.empty
def spRegionOf (K : PySem.W.Frag) : Sp := fun vs H Q _ => ∃ (t : Addr) (k : Str) (r : List Str), vs = [.ref t] ∧ SqT K H t ((k :: r).map V.str) ∧ k ≠ "turn" ∧ Q (.str (reg (k :: r))) H
theorem atI_end {k : Str} {r : List Str} : atI ((k :: r).map V.str) (-1) = some (.str (reg (k :: r))) := by
  obtain ⟨ys, e⟩ : ∃ ys, k :: r = ys ++ [reg (k :: r)] := by
    unfold reg
    rw [List.getLast?_eq_some_getLast (List.cons_ne_nil k r)]
    exact ⟨_, (List.dropLast_concat_getLast (List.cons_ne_nil k r)).symm⟩
  conv => lhs; rw [e]
  rw [List.map_append]
  exact atI_last _ _
theorem ok_region_of (D : Dfn K mg "region_of" s_region_of ["deed"]) (T : Txt K mg w) : C8.Cal P w K mg base 1 "region_of" (spRegionOf K) [] := by
  refine cal_of D sc_region_of (fun vs H Q E h => ?_) (fun cdv A outer s H vs Q E f hr h => ?_)
  · obtain ⟨t, k, r, rfl, _⟩ := h
    rfl
  · obtain ⟨t, k, r, rfl, ht, hk, q⟩ := h
    have nd := sc_region_of.nd
    refine ⟨_, (pss_cons (ps_if (pt_cmpR op_eq (pe_ix ix_tup (pv 0) pe_int (fun _ _ => rfl)) pe_str (nomark _))
      (pss_one (ps_ret pe_non))
      pss_nil)
    (pss_one (ps_ret (pe_ix ix_tup (pv 0) (pe_un un_neg pe_int) (fun _ _ => rfl))))), ?_⟩
    refine ⟨.ref t, rfl, t, _, 0, _, rfl, rfl, ht, atI_nat (j := 0) rfl, rfl, false, bf (fun e => hk (V.str.inj e)), iteF ?_⟩
    exact ⟨.ref t, rfl, 1, rfl, t, _, -1, _, rfl, rfl, ht, atI_end, q⟩
end
end Cw
end
section
/-! Rules whose reading names the frag itself, so that it may stand outside a comprehension's block. -/
namespace Cw
open PySem PySem.Spec PyProof.Rows L2
section
variable {X : Cx} {K : PySem.W.Frag} (hK : X.K = K)
include hK
def rLenS (K : PySem.W.Frag) : List V → Hp → VK → Prop := fun xs H Q => ∃ p ys, xs = [V.ref p] ∧ (SqL K H p ys ∨ SqT K H p ys) ∧ Q (V.int ys.length) H
def rListOf (K : PySem.W.Frag) : List V → Hp → VK → Prop := fun xs H Q => ∃ p ys, xs = [V.ref p] ∧ (SqL K H p ys ∨ SqT K H p ys) ∧ ∀ (l : Addr), H l = none → Q (V.ref l) (upd H l (HO.lst ys))
theorem ix_listK : IxR X (rIxL K) := hK ▸ ix_list
theorem ix_tupK : IxR X (rIxT K) := hK ▸ ix_tup
theorem ix_kdictK : IxR X (rIxD K X.w) := hK ▸ ix_kdict
theorem call_lenK : CallR X (.builtin "len") (rLenS K) := hK ▸ call_len_seq
theorem call_listK : CallR X (.type "list") (rListOf K) := hK ▸ call_list_of
theorem call_isiK : CallR X (.builtin "isinstance") (rIsi K) := hK ▸ call_isi
theorem op_inK : OpR X (compareOp .In) (rIn K false) := hK ▸ op_in_seq
theorem op_notInK : OpR X (compareOp .NotIn) (rIn K true) := hK ▸ op_notIn_seq
theorem sl_listK : SlR X (rSlL K) := hK ▸ sl_list
theorem sl_tupK : SlR X (rSlT K) := hK ▸ sl_tup
theorem pe_fldK {e : Expr} {f : Str} {pos : Pos} {ta : TE} (h : PE X e ta) (hb : attributeBase e f X.env (eval e X.env) = eval e X.env) : PE X (.Attribute e f pos) (tFld K ta f) := hK ▸ pe_fld h hb
theorem pg_tupK {pos : Pos} {es : List Expr} {k : Nat} {t : TGs} {n : Nat} (hc : X.calm = true) (h : PGs X es t)
    (hn : (assignEach es X.env).length = n := by rfl) (hst : (assignEach es X.env).findIdx? (·.1) = none := by rfl) : PG X (.Tuple es k pos) (gTup K n t) := hK ▸ pg_tup hc h hn hst
theorem cr_anyK (hc : X.calm = true) : CallR X (.builtin "any") (rAny K) := hK ▸ cr_any hc
theorem cr_allK (hc : X.calm = true) : CallR X (.builtin "all") (rAll K) := hK ▸ cr_all hc
theorem cr_sortedK : CallR X (.builtin "sorted") (rSortedI K) := hK ▸ cr_sortedI
theorem op_eqDK (hu : X.A.units + 64 < cLine) : OpR X (compareOp .Eq) (rEqD K) := hK ▸ op_eqD hu
theorem op_neDK (hu : X.A.units + 64 < cLine) : OpR X (compareOp .NotEq) (rNeD K) := hK ▸ op_neD hu
theorem pi_enumK {e : Expr} {ta : TA} {p pos tpos : Pos} {elts : List Expr} {kk : Nat} (hg : Gl X "enumerate") (hm : X.mg "enumerate" = none) (ha : PA X [e] ta) (hs : starEach [e] X.env = [(false, eval e X.env)] := by rfl) :
    PI X (.Tuple elts kk tpos) (.Call (.Name "enumerate" p) [e] [] pos) (iEnum K ta) := hK ▸ pi_enum hg hm ha hs
theorem pi_listK {tg l : Expr} {tl : TE} (h : PE X l tl) : PI X tg l (iList K tl) := hK ▸ pi_list h
theorem pi_tupK {tg l : Expr} {tl : TE} (h : PE X l tl) : PI X tg l (iTup K tl) := hK ▸ pi_tup h
end
end Cw
end
section
/-! enumerate(tuple). -/
namespace Cw
open PySem PySem.Spec PyProof.Rows L2
set_option maxHeartbeats 1000000 in
theorem meets_enum1 {v : Value} {o : Obj} {H : Heap → Prop} (B : Begins v o H) :
    Meets (Builtin.«enumerate.__new__» ⟨[.type "enumerate", v], []⟩) (fun _ R s => H s.heap ∧
      R (.ok (.ret (.ref (s.heap.push o).objs.size))) { s with heap := (s.heap.push o).push { cls := .type "enumerate", data := .fields #[.none, .bool false, .ref s.heap.objs.size, rawInt 0, .none, .none] } }) :=
  .of_wp fun prog w A R s h => by
    obtain ⟨hp, g, d, tk, os⟩ := s; obtain ⟨h1, h⟩ := h
    have hsub := sub_enumerate
    have q1 : ∀ {A' : Around} {E : Value → Shared → Prop} {Q : Value → Shared → Prop}, Q (.ref hp.objs.size) ⟨hp.push o, g, d, tk, os⟩ → wpAny (model prog w) A' (pyIter v) Q E ⟨hp, g, d, tk, os⟩ :=
      fun q => B.iter prog w _ _ ⟨hp, g, d, tk, os⟩ _ h1 q
    wp_walk using q1
    refine wpAny_stack_any fun st => wpAny_pure ?_
    split
    · rename_i c _ _ _ _ _
      cases (c == Value.type "enumerate")
      · wp_walk using q1
        exact ⟨_, rfl, h⟩
      · wp_walk using q1
        exact ⟨_, rfl, h⟩
    · wp_walk using q1
      exact ⟨_, rfl, h⟩
theorem call_enum1 {prog : Program} {w : World} {A : Around} {E : Value → Shared → Prop} {s : Shared} {v : Value} {o : Obj} {H : Heap → Prop} {Q : Value → Shared → Prop} (B : Begins v o H) (h1 : H s.heap)
    (h : ∀ h', IsEnum h' (s.heap.objs.size + 1) s.heap.objs.size 0 .none → h'.get? s.heap.objs.size = some o → h'.objs.size = s.heap.objs.size + 2 →
      (∀ b o, s.heap.get? b = some o → h'.get? b = some o) → Q (.ref (s.heap.objs.size + 1)) { s with heap := h' }) :
    wpAny (model prog w) A (call (.type "enumerate") [v]) Q E s := by
  refine callType_new F.called_enumerate (by decide) (F.typeCall_enumerate_1 _) (F.newCall_enumerate_1 _) (fun obj => F.args_object_init_2 obj _) F.entry_enumerate_new
    (meets_enum1 B) ⟨h1, ?_⟩
  have hz : (s.heap.push o).objs.size = s.heap.objs.size + 1 := Heap.size_push ..
  show _ ∧ _
  rw [hz]
  have he : IsEnum ((s.heap.push o).push { cls := .type "enumerate", data := .fields #[.none, .bool false, .ref s.heap.objs.size, rawInt 0, .none, .none] }) (s.heap.objs.size + 1) s.heap.objs.size 0 .none := by
    have := Heap.get?_push_size (s.heap.push o) (o := { cls := .type "enumerate", data := .fields #[.none, .bool false, .ref s.heap.objs.size, rawInt 0, .none, .none] }) rfl
    rw [hz] at this; exact this
  refine ⟨⟨_, he, rfl⟩, h _ he (Heap.get?_push_of_some _ (Heap.get?_push_size _ B.free)) (by rw [Heap.size_push, hz]) fun b o x => Heap.get?_push_of_some _ (Heap.get?_push_of_some _ x)⟩
theorem enumT_end {prog : Program} {w : World} {A : Around} {E : Value → Shared → Prop} {s : Shared} {e it t : Addr} {i : Nat} {items : Array Value} {c : Int} {old : Value} {Q : Option Value → Shared → Prop} (hh : A.in1.handled = none)
    (he : IsEnum s.heap e it c old) (hit : s.heap.IsTupleIter it t i) (ht : s.heap.IsTuple t items) (hx : items[i]? = none)
    (hQ : ∀ h', Heap.ExtBut it s.heap h' → Q none { s with heap := h' }) : wpAny (model prog w) A (pyNext (.ref e)) Q E s := by
  have hT : s.TypeIs (.ref e) "enumerate" := ⟨_, he, rfl⟩
  unfold pyNext
  refine wpAny_bind (wpAny_attempt (wpAny_callSpecial?_slot (name := Str.ofString "__next__") hT F.slot_enumerate_next
    (wpAny_call_entry F.slot_enumerate_next hT F.entry_enumerate_next ?_ (F.args_enumerate_next_1 _))))
  show wpAny _ _ (field (.ref e) 2 >>= _) _ _ _
  refine wpAny_bind (wpAny_field he rfl (x := .ref it) rfl ?_)
  refine wpAny_bind (wpAny_nextOf_tuple_end hh hit ht hx fun h' x he' hx' => ?_)
  obtain ⟨o, ho, hc⟩ := hx'
  refine wpAny_bind (wpAny_isInstance (T := "StopIteration") (b := true) ⟨o, ho, hc⟩ isSubtype_stop ?_)
  exact wpAny_pure (hQ _ he')
/-- the tuple at a, each item in a new pair -/
def Itet (K : PySem.W.Frag) (a : Addr) : It :=
  ⟨fun i H => ∃ (xs : List V) (x : V), SqT K H a xs ∧ xs[i]? = some x, fun i H v H' => ∃ T x, v = .ref T ∧ H T = none ∧ H' = upd H T (.tup [.int (i : Nat), x]) ∧ ∀ xs, SqT K H a xs → xs[i]? = some x, fun i H => ∃ xs : List V, SqT K H a xs ∧ xs.length ≤ i⟩
theorem turn_enumT {P : Program} {w : World} {K : PySem.W.Frag} {elts : List Expr} {kk : Nat} {tpos : Pos} (a e it : Addr) :
    Turn P w K (.Tuple elts kk tpos) (Itet K a) [e, it] e (fun i h => (∃ old, IsEnum h e it ((i : Nat) : Int) old) ∧ h.IsTupleIter it a i ∧ e ≠ it ∧ a ≠ it ∧ a ≠ e) where
  mem := by simp
  obj := fun i h st b hb => by
    obtain ⟨⟨old, he⟩, ⟨o, ho, hc, hd⟩, _⟩ := st
    have e' : b = e ∨ b = it := by simpa using hb
    rcases e' with z | z
    · rw [z]; exact ⟨_, he, fun v q => nomatch q⟩
    · rw [z]; exact ⟨o, ho, fun v q => by rw [hd] at q; cases q⟩
  keep := fun i h h' st k => let ⟨⟨old, he⟩, hi, hne⟩ := st; ⟨⟨old, k e (by simp) _ he⟩, hi.at fun o q => k it (by simp) o q, hne⟩
  item := by
    intro X hP hw hK hc i pins s σ H E I hf st hg
    subst hP hw hK
    obtain ⟨⟨old, he⟩, hit, hne, hai, hae⟩ := st
    obtain ⟨xs, x, hq, hx⟩ := hg
    obtain ⟨its, rv, p, hz⟩ := I.tuple hq
    obtain ⟨u, hu, ru⟩ := rv.get hx
    have hel : e < s.heap.objs.size := Heap.lt_size he
    have hil : it < s.heap.objs.size := by obtain ⟨_, q, _⟩ := hit; exact Heap.lt_size q
    have D := Draws.tuple (prog := X.prog) (w := X.w) (A := X.A.in1) (I.ok.hd hc) it a hai its.toArray
    have hlt : i < its.toArray.size := by
      have := (List.getElem?_eq_some_iff.mp hu).1
      simpa using this
    refine wpAny_pyNext_enum_itemD D he ⟨hit, p⟩ hlt hne (by simp [hne, hae.symm]) fun u2 h' tk hu2 ho st' hT hsz hk => ?_
    have eu : u2 = u := by
      have h1 : its.toArray[i]? = some u := by simpa using hu
      exact Option.some.inj (hu2.symm.trans h1)
    subst eu
    refine ⟨_, rfl, wpAny_letOwnedTupleGo_enum (s := { s with heap := h', toks := tk + 1 }) ho fun h'' he' sb => ?_⟩
    have hT2 : h''.get? s.heap.objs.size = some { cls := .type "tuple", data := .seq #[.int i tk, u2] } := (sb.2 _ (Nat.ne_of_gt hel)).trans hT
    have new : ObjOk X.prog X.w (upd H s.heap.objs.size (.tup [.int (i : Nat), x])) h'' s.heap.objs.size (.tup [.int (i : Nat), x]) :=
      ⟨by show 2 ≤ sizeLine; decide, [.int i tk, u2], .cons ⟨_, rfl⟩ (.cons ru .nil), ⟨_, hT2, rfl, _, rfl⟩⟩
    have I1 : Inv X pins σ (upd H s.heap.objs.size (.tup [.int (i : Nat), x])) { s with heap := h'', toks := tk + 1 } :=
      I.turnedNew (ch := [e, it]) (fun b ob hb q => (sb.2 b (fun z => hb (by simp [z]))).trans (hk b ob (fun z => hb (by simp [z])) (fun z => hb (by simp [z])) q)) hf (Nat.le_refl _) new
    refine ⟨.ref s.heap.objs.size, _, I1, rfl, ⟨_, x, rfl, I.hok.fresh (Nat.le_refl _), rfl, fun ys hy => by rw [I.tuple_inj hy hq]; exact hx⟩, ⟨⟨u2, ?_⟩, st'.1.at fun o q => (sb.2 it (Ne.symm hne)).trans q, hne, hai, hae⟩, fun b hb => ?_⟩
    · have e1 : ((i + 1 : Nat) : Int) = (i : Int) + 1 := by omega
      rw [e1]; exact he'
    · have hb' : b < s.heap.objs.size := by
        have e' : b = e ∨ b = it := by simpa using hb
        rcases e' with z | z
        · rw [z]; exact hel
        · rw [z]; exact hil
      rw [upd_ne (Nat.ne_of_lt hb')]
      exact (hf b hb).1
  done := by
    intro X hP hw hK hc i pins s σ H E I hf st hg
    subst hP hw hK
    obtain ⟨⟨old, he⟩, hit, hne, hai, hae⟩ := st
    obtain ⟨xs, hq, hx⟩ := hg
    obtain ⟨its, rv, p, hz⟩ := I.tuple hq
    obtain ⟨f0, f1, f2, f3, f4, f5⟩ := hf it (by simp)
    have hl := rv.length
    exact enumT_end (I.ok.hd hc) he hit p (by simp; omega) fun h' eb => ⟨rfl, I.turned (t' := s.toks) (fun b o hb q => eb b o hb q) f0 f1 f3 f4 f5⟩
  self := fun A i s Q E st h => let ⟨⟨_, he⟩, _⟩ := st; wpAny_pyIter_enum he h
def iEnumT (K : PySem.W.Frag) (ta : TA) : TI := fun σ H R => ta σ H fun vs H1 => ∃ a xs, vs = [.ref a] ∧ SqT K H1 a xs ∧ R (Itet K a) H1
theorem pi_enumT {X : Cx} {e : Expr} {ta : TA} {p pos tpos : Pos} {elts : List Expr} {kk : Nat} (hg : Gl X "enumerate") (hm : X.mg "enumerate" = none) (ha : PA X [e] ta) (hs : starEach [e] X.env = [(false, eval e X.env)] := by rfl) :
    PI X (.Tuple elts kk tpos) (.Call (.Name "enumerate" p) [e] [] pos) (iEnumT X.K ta) := by
  refine ⟨fun pins s σ H R I h => ?_⟩
  refine Call_ (ld_blt I hg hm boot_enumerate (PyProof.Rows.callWith_type1 (thn (ha.run pos pins s σ H _ I h) fun us s1 ⟨vs, H1, I1, r1, q1⟩ => ?_) hs rfl))
  obtain ⟨a, xs, ex, hq, q⟩ := q1
  subst ex
  cases r1 with
  | cons r rr =>
    cases rr
    cases r
    obtain ⟨its, rv, p', hz⟩ := I1.tuple hq
    have hal : a < s1.heap.objs.size := by obtain ⟨o, e, _⟩ := p'; exact Heap.lt_size e
    refine call_enum1 (begins_tuple a its.toArray) p' fun h' he hit hsz hk => wpAny_pyIter_enum he ?_
    have I2 : Inv X pins σ H1 { s1 with heap := h' } := I1.kept (t' := s1.toks) hk
    refine ⟨s1.heap.objs.size + 1, [s1.heap.objs.size + 1, s1.heap.objs.size], _, _, H1, rfl, I2, turn_enumT a (s1.heap.objs.size + 1) s1.heap.objs.size, ⟨⟨.none, he⟩, ⟨_, hit, rfl, rfl⟩, Nat.succ_ne_self _, Nat.ne_of_lt hal, Nat.ne_of_lt (Nat.lt_succ_of_lt hal)⟩, fun b hb => ?_, q⟩
    have e' : b = s1.heap.objs.size + 1 ∨ b = s1.heap.objs.size := by simpa using hb
    have hle : s1.heap.objs.size ≤ b := by
      rcases e' with z | z
      · rw [z]; exact Nat.le_add_right _ _
      · rw [z]; exact Nat.le_refl _
    exact I1.fpOk hle (I1.hok.fresh hle)
theorem walk_enumT {K : PySem.W.Frag} {a : Addr} {xs : List V} : Walk (Itet K a) xs.length (fun H => SqT K H a xs) (YPair (fun i => some (.int (i : Nat))) (fun i => xs[i]?)) := by
  refine ⟨fun i _ hi q => ⟨xs, xs[i], q, by simp [hi]⟩, fun _ q => ⟨xs, q, Nat.le_refl _⟩, fun i H v H' _ q y => ?_⟩
  obtain ⟨T, x, h1, h2, h3, h4⟩ := y
  exact ⟨T, .int (i : Nat), x, h1, h2, h3, rfl, h4 xs q⟩
end Cw
end
section
namespace Cw
open PySem PySem.Spec PyProof.Rows L2
theorem wo_upd {H : Hp} {p : Addr} {o : HO} : wo (upd H p o) p = wo H p := by
  funext b
  by_cases h : b = p
  · rw [h, wo_self, wo_self]
  · rw [wo_ne h, wo_ne h, upd_ne h]
theorem wo_none {H : Hp} {p : Addr} (h : H p = none) : wo H p = H := by
  funext b
  by_cases e : b = p
  · rw [e, wo_self, h]
  · exact wo_ne e
theorem same_lock {H H3 : Hp} {p : Addr} {u x : HO} (h : H p = some u) (s : Same (upd H p x) H3) : Same H (upd H3 p u) := fun b o e => by
  by_cases hb : b = p
  · subst hb
    rw [upd_same, ← h, e]
  · rw [upd_ne hb]
    exact s b o (by rw [upd_ne hb]; exact e)
theorem sqL_wo {K : PySem.W.Frag} {H : Hp} {a p : Addr} {xs : List V} (h : SqL K H a xs) (hne : a ≠ p) : SqL K (wo H p) a xs := by
  rcases h with (h | ⟨o, h⟩) | h
  · exact .inl (.inl (by rw [wo_ne hne]; exact h))
  · exact .inl (.inr ⟨o, by rw [wo_ne hne]; exact h⟩)
  · exact .inr h
section
variable {κ : Type} [DecidableEq κ]
theorem valV_mem {kvs : List (κ × V)} {k : κ} : (valV kvs k).isSome = true ↔ k ∈ kvs.map (·.1) := by
  constructor
  · intro h
    obtain ⟨v, e⟩ := Option.isSome_iff_exists.mp h
    exact valV_in e
  · intro h
    cases q : valV kvs k with
    | none => exact absurd h (valV_not q)
    | some _ => rfl
theorem mem_putK {kvs : List (κ × V)} {k j : κ} {v : V} : j ∈ (putK kvs k v).map (·.1) ↔ j = k ∨ j ∈ kvs.map (·.1) := by
  rw [← valV_mem, valV_put, ← valV_mem]
  by_cases h : j = k
  · rw [if_pos h]
    simp [h]
  · rw [if_neg h]
    simp [h]
end
theorem nXor1 (b : Nat) : Builtin.bitXor (b : Int) 1 = ((b ^^^ 1 : Nat) : Int) := by
  rw [Bits.bitXor_pp (by omega) (by omega)]
  rfl
/-! ### the steps -/
def edges (z : List Str) (fs : List Fc) : List (Nat × Nat) := fs.flatMap fun f => [(br1 z f, br2 z f ^^^ 1), (br2 z f, br1 z f ^^^ 1)]
def kk (e : Nat × Nat) : List Key := [.inl (e.1 : Int), .inl (e.2 : Int)]
theorem kk_inj {a b : Nat × Nat} (h : kk a = kk b) : a = b := by
  unfold kk at h
  have h1 := Sum.inl.inj (List.cons.inj h).1
  have h2 := Sum.inl.inj (List.cons.inj (List.cons.inj h).2).1
  exact Prod.ext (by omega) (by omega)
theorem edges_snoc (z : List Str) (fs : List Fc) (f : Fc) : edges z (fs ++ [f]) = edges z fs ++ [(br1 z f, br2 z f ^^^ 1), (br2 z f, br1 z f ^^^ 1)] := by
  unfold edges
  rw [List.flatMap_append]
  rfl
def dL (l : List Nat) : PyData := .list (l.map fun (x : Nat) => PyData.int (x : Int))
theorem dpAll_nat {K : PySem.W.Frag} {H : Hp} : ∀ (l : List Nat), DpAll K H (l.map fun (x : Nat) => V.int (x : Int)) (l.map fun (x : Nat) => PyData.int (x : Int))
  | [] => .nil
  | x :: r => .cons (.int _) (dpAll_nat r)
theorem dpAll_nats {K : PySem.W.Frag} {H : Hp} : ∀ {vs : List V} {l : List Nat}, DpAll K H vs (l.map fun (x : Nat) => PyData.int (x : Int)) → vs = l.map fun (x : Nat) => V.int (x : Int)
  | _, [], h => by cases h; rfl
  | _, x :: r, h => by
    cases h with
    | cons h1 h2 =>
      cases h1
      rw [dpAll_nats h2]
      rfl
theorem dp_dL {K : PySem.W.Frag} {H : Hp} {v : V} {l : List Nat} (h : Dp K H v (dL l)) : ∃ a, v = .ref a ∧ SqL K H a (l.map fun (x : Nat) => V.int (x : Int)) := by
  obtain ⟨a, rfl⟩ := dp_ref_l h
  obtain ⟨xs, h1, h2⟩ := dp_list h
  rw [dpAll_nats h2] at h1
  exact ⟨a, rfl, h1⟩
/-- ints that are numbers -/
theorem nats_of_perm {l : List Nat} {ns : List Int} (h : ns.Perm (l.map fun (x : Nat) => (x : Int))) : ∃ l' : List Nat, ns = l'.map (fun (x : Nat) => (x : Int)) ∧ l'.Perm l := by
  refine ⟨ns.map Int.toNat, ?_, ?_⟩
  · rw [List.map_map]
    conv => lhs; rw [← List.map_id ns]
    apply List.map_congr_left
    intro x hx
    obtain ⟨y, _, e⟩ := List.mem_map.mp (h.mem_iff.mp hx)
    rw [← e]
    rfl
  · have := h.map Int.toNat
    rw [List.map_map] at this
    have e : l.map (Int.toNat ∘ fun (x : Nat) => (x : Int)) = l := by
      conv => rhs; rw [← List.map_id l]
      apply List.map_congr_left
      intro x _
      rfl
    rwa [e] at this
section
variable {P : Program} {w : World} {K : PySem.W.Frag} {mg : Str → Option Value} {base : Heap}
def spSteps (K : PySem.W.Frag) : Sp := fun vs H Q _ => ∃ (d a : Addr) (z : List Str) (xs : List V) (fs : List Fc), vs = [.ref d, .ref a] ∧ Plc H d z ∧ SqL K H a xs ∧ DpAll K H xs (fs.map fD) ∧ (∀ f ∈ fs, FOk z f) ∧ fs.length ≤ 1200 ∧ z.length ≤ 24 ∧
  ∀ (p : Addr) (H' : Hp) (ys : List V) (Ls : List (List Nat)), H p = none → Same H H' → H' p = some (.lst ys) → DpAll K H' ys (Ls.map dL) → Ls.length = 2 * z.length → (∀ c L, Ls[c]? = some L → ∀ x, x ∈ L ↔ (c, x) ∈ edges z fs) → Q (.ref p) H'
theorem ok_steps (D : Dfn K mg "steps_of" s_steps_of ["places", "facts"]) (T : Txt K mg w) (c_breaking : C8.Cal P w K mg base 1 "breaking" (spBreaking K) []) : C8.Cal P w K mg base 2 "steps_of" (spSteps K) [] := by
  refine cal_of D sc_steps_of (fun vs H Q E h => ?_) (fun cdv A outer s H vs Q E f hr h => ?_)
  · obtain ⟨d, a, z, xs, fs, rfl, _⟩ := h
    rfl
  · obtain ⟨d, a, z, xs, fs, rfl, hp, hs, hd, ok, hl, hz, q⟩ := h
    have nd := sc_steps_of.nd
    have hlx : xs.length = fs.length := by rw [dpAll_len hd, List.length_map]
    refine ⟨_, (pss_cons (ps_set (i := 2) nd rfl (.inr rfl) pe_dnewT)
    (pss_cons (ps_for PassesOwn.never rfl (pi_list (pv 1)) (pg_name (i := 3) nd rfl (.inl rfl))
      (pss_cons (ps_asg (C8.pe_c c_breaking hr (by decide) rfl (pa_cons (pv 0) (pa_cons (pv 3) pa_nil))) (pg_tup rfl (pgs_cons (pg_name (i := 4) nd rfl (.inl rfl)) (pgs_cons (pg_name (i := 5) nd rfl (.inl rfl)) pgs_nil))))
      (pss_cons (ps_dput (hu_of hr) (pv 2) (pe_tup (pa_cons (pv 4) (pa_cons (pe_op op_xor (pv 5) pe_int) pa_nil))) pe_bl rfl)
      (pss_one (ps_dput (hu_of hr) (pv 2) (pe_tup (pa_cons (pv 5) (pa_cons (pe_op op_xor (pv 4) pe_int) pa_nil))) pe_bl rfl)))))
    (pss_one (ps_ret (pe_lc (own := [("claim", 6)]) rfl nd (pi_range1 rfl T.b_range (pa_cons (pe_op op_mul pe_int (pe_callB call_lenD (by rfl) T.b_len boot_len (pa_cons (pv 0) pa_nil))) pa_nil)) (blkOk_by (by kernel_rfl)) (fun _ _ _ _ _ => (pg_name (i := 6) nd rfl (by first | exact Or.inl rfl | exact Or.inr rfl))) (fun _ _ _ _ _ => pts_nil) (fun _ _ _ _ _ => (pe_callB (id := "sorted") (cr_sortedK (K := K) rfl) (by rfl) T.b_sorted (by decide +kernel) (pa_cons (pe_lock (pe_lc (own := [("here", 7), ("later", 8)]) rfl nd (pi_keys (pv 2)) (blkOk_by (by kernel_rfl)) (fun _ _ _ _ _ => (pg_tupK (K := K) (n := 2) rfl rfl (pgs_cons (pg_name (i := 7) nd rfl (by first | exact Or.inl rfl | exact Or.inr rfl)) (pgs_cons (pg_name (i := 8) nd rfl (by first | exact Or.inl rfl | exact Or.inr rfl)) pgs_nil)))) (fun _ _ _ _ _ => (pts_one (pt_cmpR op_eq (pv 7) (pv 6) (nomark _)))) (fun _ _ _ _ _ => (pv 8)))) pa_nil)))))))), ?_⟩
    refine fun p hp0 => ⟨.ref a, rfl, a, rfl, ⟨xs, sqL_same (same_upd hp0) hs⟩, for_it (walk_list (xs := xs)) (fun i σ H' => Same H H' ∧ (∃ x y u, σ = [some (V.ref d), some (V.ref a), some (V.ref p), x, y, u, none, none, none]) ∧
      ∃ kvs, H' p = some (.dT kvs) ∧ kvs.length ≤ 2 * i ∧ ∀ k, k ∈ kvs.map (·.1) ↔ k ∈ (edges z (fs.take i)).map kk) ⟨same_upd hp0, ⟨_, _, _, rfl⟩, [], upd_same, by simp, fun k => by simp [edges]⟩ (fun i σ H' _ p => sqL_same p.1 hs) (fun i x σ H1 H2 hi pv y => ?_) (fun σ H1 pv => ?_)⟩
    · obtain ⟨sm, ⟨x1, x2, x3, rfl⟩, kvs, hk, hkl, hkm⟩ := pv
      obtain ⟨rfl, hx⟩ := y
      obtain ⟨dd, hdd, hv⟩ := dpAll_get hd hx
      have hif : i < fs.length := by omega
      have : dd = fD fs[i] := by
        rw [List.getElem?_map, List.getElem?_eq_getElem hif] at hdd
        exact (Option.some.inj hdd).symm
      subst this
      obtain ⟨b, rfl, hb⟩ := dp_eT (dp_same sm hv)
      refine ⟨.ref d, rfl, .ref b, rfl, d, b, z, fs[i], rfl, hp.same sm, hb, ok _ (List.getElem_mem hif), fun t ht => ?_⟩
      refine ⟨t, _, rfl, .inl (.inl upd_same), rfl, _, _, rfl, _, _, rfl, rfl, ?_⟩
      have hpt : p ≠ t := ne_of_none hk ht
      refine ⟨.ref p, rfl, _, rfl, _, rfl, _, 1, rfl, rfl, (show 2 ≤ sizeLine by decide), fun t2 ht2 => ?_⟩
      dsimp only
      rw [nXor1]
      have hpt2 : p ≠ t2 := by
        intro e
        subst e
        rw [upd_ne hpt, hk] at ht2
        cases ht2
      have ek1 : (upd (upd H2 t (.tup [.int (br1 z fs[i] : Nat), .int (br2 z fs[i] : Nat)])) t2 (.tup [.int (br1 z fs[i] : Nat), .int ((br2 z fs[i] ^^^ 1 : Nat) : Int)])) p = some (.dT kvs) := by
        rw [upd_ne hpt2, upd_ne hpt, hk]
      refine ⟨p, _, rfl, DPut.t (k := kk (br1 z fs[i], br2 z fs[i] ^^^ 1)) ek1 upd_same (by rw [sizeLine_eq]; omega), ?_⟩
      refine ⟨.ref p, rfl, _, rfl, _, rfl, _, 1, rfl, rfl, (show 2 ≤ sizeLine by decide), fun t3 ht3 => ?_⟩
      dsimp only
      rw [nXor1]
      have hpt3 : p ≠ t3 := by
        intro e
        subst e
        rw [upd_same] at ht3
        cases ht3
      have hl1 := length_putK kvs (kk (br1 z fs[i], br2 z fs[i] ^^^ 1)) (.bl true)
      refine ⟨p, _, rfl, DPut.t (kvs := putK kvs (kk (br1 z fs[i], br2 z fs[i] ^^^ 1)) (.bl true)) (k := kk (br2 z fs[i], br1 z fs[i] ^^^ 1)) (by rw [upd_ne hpt3, upd_same]) upd_same (by rw [sizeLine_eq]; omega), ?_⟩
      refine ⟨?_, ⟨_, _, _, rfl⟩, _, upd_same, ?_, fun k => ?_⟩
      · have s1 : Same H (upd (upd H2 t (.tup [.int (br1 z fs[i] : Nat), .int (br2 z fs[i] : Nat)])) t2 (.tup [.int (br1 z fs[i] : Nat), .int ((br2 z fs[i] ^^^ 1 : Nat) : Int)])) := (sm.trans (same_upd ht)).trans (same_upd ht2)
        exact same_mut ((same_mut s1 hp0).trans (same_upd ht3)) hp0
      · have hl2 := length_putK (putK kvs (kk (br1 z fs[i], br2 z fs[i] ^^^ 1)) (.bl true)) (kk (br2 z fs[i], br1 z fs[i] ^^^ 1)) (.bl true)
        omega
      · rw [mem_putK, mem_putK, hkm k, ← List.take_append_getElem hif, edges_snoc, List.map_append, List.mem_append]
        simp only [List.map_cons, List.map_nil, List.mem_cons, List.not_mem_nil, or_false]
        constructor
        · rintro (h | h | h)
          · exact .inr (.inr h)
          · exact .inr (.inl h)
          · exact .inl h
        · rintro (h | h | h)
          · exact .inr (.inr h)
          · exact .inr (.inl h)
          · exact .inl h
    · obtain ⟨sm, ⟨x1, x2, x3, rfl⟩, kvs, hk, hkl, hkm⟩ := pv
      rw [hlx, List.take_length] at hkm
      obtain ⟨pk, hpk, hpl, hpv⟩ := hp.same sm
      refine ⟨.ref d, rfl, d, pk, rfl, hpk, 2, _, rfl, rfl, .inl ⟨by decide, by decide⟩, _, rfl, ?_, ?_, fun D2 hD => ?_⟩
      · omega
      · omega
      have en : (2 * (pk.length : Int)).toNat = 2 * z.length := by omega
      dsimp only
      rw [en]
      refine lc_it (walk_range (lo := 0) (n := 2 * z.length)) (fun i H' => Same H1 H' ∧ ∃ (ys : List V) (Ls : List (List Nat)), H' D2 = some (.lst ys) ∧ DpAll K (wo H' D2) ys (Ls.map dL) ∧ Ls.length = i ∧ ∀ c L, Ls[c]? = some L → ∀ x, x ∈ L ↔ (c, x) ∈ edges z fs)
        ⟨same_upd hD, [], [], upd_same, .nil, rfl, fun c L e => by simp at e⟩ (fun _ _ _ _ => trivial) (fun i x H2 H3 hi pv y => ?_) (fun H2 pv => ?_)
      · obtain ⟨sm2, ys, Ls, hy, hda, hLl, hLs⟩ := pv
        obtain ⟨rfl, rfl⟩ := y
        have hp3 : H3 p = some (.dT kvs) := sm2 _ _ hk
        refine ⟨rfl, p, _, hp3, trivial, fun od => ⟨.ref p, rfl, p, od, rfl, .inr ⟨kvs, upd_same, fun E2 hE => ?_⟩⟩⟩
        refine lc_it (walk_keysT (d := p) (o := od) (kvs := kvs)) (fun j H' => Same (upd H3 p (.frz od (.dT kvs))) H' ∧ ∃ L : List Nat, H' E2 = some (.lst (L.map fun (x : Nat) => V.int (x : Int))) ∧ L.length ≤ j ∧ ∀ x, x ∈ L ↔ kk (i, x) ∈ (kvs.take j).map (·.1))
          ⟨same_upd hE, [], upd_same, Nat.le_refl _, fun x => by simp⟩ (fun j H' _ q => q.1 _ _ upd_same) (fun j x H4 H5 hj pv y => ?_) (fun H4 pv => ?_)
        · obtain ⟨sm4, L, hL, hLl2, hLm⟩ := pv
          obtain ⟨rfl, k, v, t, hkv, rfl, ht⟩ := y
          have hmem : k ∈ (edges z fs).map kk := (hkm k).mp (List.mem_map.mpr ⟨(k, v), List.mem_of_getElem? hkv, rfl⟩)
          obtain ⟨⟨e1, e2⟩, he, rfl⟩ := List.mem_map.mp hmem
          have etk : (kvs.take (j + 1)).map (·.1) = (kvs.take j).map (·.1) ++ [kk (e1, e2)] := by
            rw [List.take_add_one, List.map_append, hkv]
            rfl
          refine ⟨t, _, rfl, .inl (.inl ht), rfl, _, _, rfl, _, _, rfl, rfl, rfl, _, rfl, .int (i : Nat), ?_, rfl, decide (e1 = i), ?_, ?_⟩
          · show some (some (V.int (0 + (i : Nat) : Int))) = _
            rw [Int.zero_add]
          · show V.bl (decide (V.int (e1 : Int) = V.int (i : Int))) = _
            congr 1
            apply decide_eq_decide.mpr
            constructor
            · intro h
              have := V.int.inj h
              omega
            · intro h
              rw [h]
          · by_cases h : e1 = i
            · rw [decide_eq_true h]
              subst h
              refine ⟨_, rfl, _, hL, ?_, same_mut sm4 hE, L ++ [e2], ?_, ?_, fun x => ?_⟩
              · rw [List.length_map, sizeLine_eq]
                omega
              · rw [upd_same, List.map_append]
                rfl
              · rw [List.length_append]
                exact Nat.succ_le_succ hLl2
              · rw [etk, List.mem_append, List.mem_append, hLm]
                apply or_congr_right
                rw [List.mem_singleton, List.mem_singleton]
                constructor
                · intro h
                  rw [h]
                · intro h
                  exact (Prod.mk.inj (kk_inj h)).2
            · rw [decide_eq_false h]
              refine ⟨sm4, L, hL, by omega, fun x => ?_⟩
              rw [etk, List.mem_append, hLm, List.mem_singleton]
              constructor
              · intro h
                exact .inl h
              · rintro (h2 | h2)
                · exact h2
                · exact absurd (Prod.mk.inj (kk_inj h2)).1.symm h
        · obtain ⟨sm4, L, hL, hLl2, hLm⟩ := pv
          rw [List.take_length] at hLm
          have h4p : H4 p = some (.frz od (.dT kvs)) := sm4 _ _ upd_same
          have s5 : Same H3 (upd H4 p (.dT kvs)) := same_lock hp3 sm4
          have hpE : E2 ≠ p := by
            intro e
            rw [e, upd_same] at hE
            cases hE
          refine ⟨h4p, E2, L.map fun (x : Nat) => (x : Int), rfl, .inl (.inl ?_), fun ns q0 hperm hsort hq0 => ?_⟩
          · rw [upd_ne hpE, hL, List.map_map]
            rfl
          · obtain ⟨L', rfl, hpL⟩ := nats_of_perm hperm
            have s6 : Same H3 (upd (upd H4 p (.dT kvs)) q0 (.lst ((L'.map fun (x : Nat) => (x : Int)).map V.int))) := s5.trans (same_upd hq0)
            have hqD : q0 ≠ D2 := by
              intro e
              rw [e, s5 _ _ hy] at hq0
              cases hq0
            refine ⟨ys, s6 _ _ hy, ?_, same_mut (sm2.trans s6) hD, ys ++ [.ref q0], Ls ++ [L'], upd_same, ?_, ?_, ?_⟩
            · rw [dpAll_len hda, List.length_map, hLl, sizeLine_eq]
              omega
            · rw [List.map_append, wo_upd]
              refine dpAll_snoc (dpAll_same (But.of_same s6) hda) ?_
              refine .lst (xs := L'.map fun (x : Nat) => V.int (x : Int)) (.inl (.inl ?_)) (dpAll_nat L')
              rw [wo_ne hqD, upd_same, List.map_map]
              rfl
            · rw [List.length_append, hLl]
              rfl
            · intro c L0 hc x
              by_cases hci : c < Ls.length
              · rw [List.getElem?_append_left hci] at hc
                exact hLs c L0 hc x
              · rw [List.getElem?_append_right (by omega)] at hc
                have e0 : c - Ls.length = 0 := by
                  rcases Nat.eq_zero_or_pos (c - Ls.length) with h | h
                  · exact h
                  · rw [List.getElem?_eq_none (by simp; omega)] at hc
                    cases hc
                rw [e0] at hc
                have eL : L' = L0 := by simpa using hc
                have eci : c = i := by omega
                subst eL
                subst eci
                rw [hpL.mem_iff, hLm, hkm]
                constructor
                · intro h
                  obtain ⟨e, he, heq⟩ := List.mem_map.mp h
                  rw [← kk_inj heq]
                  exact he
                · intro h
                  exact List.mem_map.mpr ⟨_, h, rfl⟩
      · obtain ⟨sm2, ys, Ls, hy, hda, hLl, hLs⟩ := pv
        exact q D2 H2 ys Ls (Same.back sm hD) (sm.trans sm2) hy (dpAll_same wo_same hda) hLl hLs
end
end Cw
end
section
namespace Cw
open PySem PySem.Spec PyProof.Rows L2
/-! ### what a claim leads to -/
inductive Reach (E : Nat → Nat → Prop) (c : Nat) : Nat → Prop
  | refl : Reach E c c
  | step {x y : Nat} : Reach E c x → E x y → Reach E c y
def stepR (Ls : List (List Nat)) (x y : Nat) : Prop := ∃ L, Ls[x]? = some L ∧ y ∈ L
theorem nodup_len : ∀ (n : Nat) (l : List Nat), l.Nodup → (∀ x ∈ l, x < n) → l.length ≤ n
  | 0, [], _, _ => Nat.le_refl _
  | 0, x :: r, _, h => absurd (h x List.mem_cons_self) (by omega)
  | n + 1, l, hn, h => by
    by_cases hm : n ∈ l
    · have h1 := nodup_len n (l.erase n) (hn.erase n) (fun x hx => by
        have h2 := h x (List.mem_of_mem_erase hx)
        have h3 : x ≠ n := fun e => by
          subst e
          exact (List.Nodup.not_mem_erase hn) hx
        omega)
      rw [List.length_erase_of_mem hm] at h1
      omega
    · have h1 := nodup_len n l hn (fun x hx => by
        have h2 := h x hx
        have h3 : x ≠ n := fun e => hm (e ▸ hx)
        omega)
      omega
def kc (x : Nat) : Key := .inl (x : Int)
theorem kc_inj {a b : Nat} (h : kc a = kc b) : a = b := by
  have := Sum.inl.inj h
  omega
theorem mem_kc {x : Nat} {cs : List Nat} : kc x ∈ cs.map kc ↔ x ∈ cs := by
  constructor
  · intro h
    obtain ⟨y, hy, e⟩ := List.mem_map.mp h
    rw [← kc_inj e]
    exact hy
  · intro h
    exact List.mem_map.mpr ⟨x, h, rfl⟩
theorem valV_at {kvs : List (Key × V)} {k : Key} (h : k ∈ kvs.map (·.1)) : ∃ v, valV kvs k = some v ∧ (k, v) ∈ kvs := by
  obtain ⟨v, e⟩ := Option.isSome_iff_exists.mp (valV_mem.mpr h)
  refine ⟨v, e, ?_⟩
  unfold valV at e
  obtain ⟨p, hp, e2⟩ := Option.map_eq_some_iff.mp e
  have h1 := List.mem_of_find?_eq_some hp
  have h2 : p.1 = k := of_decide_eq_true (List.find?_some (p := fun kv : Key × V => decide (kv.1 = k)) hp)
  obtain ⟨p1, p2⟩ := p
  simp only at e2 h2
  rw [← h2, ← e2]
  exact h1
/-- where reached stands -/
def RI (H : Hp) (wd pl : Addr) (Ls : List (List Nat)) (c : Nat) (cs : List Nat) (H' : Hp) : Prop := Same H H' ∧ cs.Nodup ∧ (∀ x ∈ cs, x < Ls.length) ∧ (∀ x ∈ cs, Reach (stepR Ls) c x) ∧ c ∈ cs ∧ H' pl = some (.lst (cs.map fun (x : Nat) => V.int (x : Int))) ∧
  ∃ kvs : List (Key × V), H' wd = some (.dK kvs) ∧ kvs.map (·.1) = cs.map kc ∧ ∀ kv ∈ kvs, ∃ q ys, kv.2 = .ref q ∧ q ≠ pl ∧ H' q = some (.lst ys) ∧ ys.length ≤ kvs.length
section
variable {P : Program} {w : World} {K : PySem.W.Frag} {mg : Str → Option Value} {base : Heap}
def spReached (K : PySem.W.Frag) : Sp := fun vs H Q _ => ∃ (st : Addr) (c : Nat) (xs : List V) (Ls : List (List Nat)), vs = [.ref st, .int (c : Nat)] ∧ SqL K H st xs ∧ DpAll K H xs (Ls.map dL) ∧ (∀ L ∈ Ls, ∀ x ∈ L, x < Ls.length) ∧ c < Ls.length ∧ Ls.length ≤ 64 ∧
  ∀ (p : Addr) (H' : Hp) (kvs : List (Key × V)) (cs : List Nat), H p = none → Same H H' → H' p = some (.dK kvs) → kvs.map (·.1) = cs.map kc → (∀ x, x ∈ cs ↔ Reach (stepR Ls) c x) → (∀ x ∈ cs, x < Ls.length) → Q (.ref p) H'
theorem ok_reached (D : Dfn K mg "reached" s_reached ["steps", "claim"]) (T : Txt K mg w) : C8.Cal P w K mg base 1 "reached" (spReached K) [] := by
  refine cal_of D sc_reached (fun vs H Q E h => ?_) (fun cdv A outer s H vs Q E f hr h => ?_)
  · obtain ⟨st, c, xs, Ls, rfl, _⟩ := h
    rfl
  · obtain ⟨st, c, xs, Ls, rfl, hs, hd, hL, hc, hn, q⟩ := h
    have nd := sc_reached.nd
    have hlx : xs.length = Ls.length := by rw [dpAll_len hd, List.length_map]
    refine ⟨_, (pss_cons (ps_set (i := 2) nd rfl (.inl rfl) (pe_disp (pps_cons (pv 1) (pe_lst (pa_cons (pv 1) pa_nil)) pps_nil) rfl rfl (by simp) (by decide)))
    (pss_cons (ps_set (i := 3) nd rfl (.inl rfl) (pe_lst (pa_cons (pv 1) pa_nil)))
    (pss_cons (ps_set (i := 4) nd rfl (.inl rfl) pe_int)
    (pss_cons (ps_while PassesOwn.never (pt_cmpR op_lt (pv 4) (pe_callB call_len_seq (by rfl) T.b_len boot_len (pa_cons (pv 3) pa_nil)) (nomark _))
      (pss_cons (ps_set (i := 5) nd rfl (.inl rfl) (pe_ix ix_list (pv 3) (pv 4) (fun _ _ => rfl)))
      (pss_cons (ps_set (i := 4) nd rfl (.inl rfl) (pe_op op_add (pv 4) pe_int))
      (pss_one (ps_for PassesOwn.never rfl (pi_list (pe_ix ix_list (pv 0) (pv 5) (fun _ _ => rfl))) (pg_name (i := 6) nd rfl (.inl rfl))
        (pss_one (ps_if (pt_cmp (pc_dnotin (hu_of hr) (pv 6) (pv 2)))
          (pss_cons (ps_dput (hu_of hr) (pv 2) (pv 6) (pe_op op_cat (pe_dget (hu_of hr) (pv 2) (pv 5) (fun _ _ => rfl)) (pe_lst (pa_cons (pv 6) pa_nil))) rfl)
          (pss_one (ps_expr (pe_bm PySem.F.plainAttrs_list PySem.F.slot_list_append PySem.F.type_list_append mt_append (pv 3) (pa_cons (pv 6) pa_nil)))))
          pss_nil)))))))
    (pss_one (ps_ret (pv 2))))))), ?_⟩
    refine fun wd hwd => ⟨.int (c : Nat), rfl, .int (c : Nat), rfl, (show 1 ≤ sizeLine by decide), fun q1 hq1 => ⟨?_, [(kc c, .ref q1)], rfl, (show 1 ≤ 15 by decide), ?_⟩⟩
    · rw [upd_ne (show wd ≠ q1 from fun e => by rw [e, upd_same] at hq1; cases hq1), upd_same]
    refine ⟨.int (c : Nat), rfl, (show 1 ≤ sizeLine by decide), fun pl hpl => ?_⟩
    have hw1 : wd ≠ q1 := fun e => by rw [e, upd_same] at hq1; cases hq1
    have hw2 : wd ≠ pl := fun e => by rw [e, upd_same] at hpl; cases hpl
    have h12 : q1 ≠ pl := fun e => by rw [e, upd_ne hw2.symm, upd_same] at hpl; cases hpl
    have hplH : H pl = none := by
      rw [upd_ne hw2.symm, upd_ne h12.symm, upd_ne hw2.symm] at hpl
      exact hpl
    refine ⟨fun m σ H' => ∃ (cs : List Nat) (pc : Nat) (x y : Option V), RI H wd pl Ls c cs H' ∧ σ = [some (V.ref st), some (V.int (c : Nat)), some (V.ref wd), some (V.ref pl), some (V.int (pc : Nat)), x, y] ∧ pc ≤ cs.length ∧ m + pc = Ls.length ∧
      ∀ j a, j < pc → cs[j]? = some a → ∀ b, stepR Ls a b → b ∈ cs, ⟨Ls.length, [c], 0, none, none, ⟨?_, by simp, by simpa using hc, by simpa using Reach.refl, by simp, upd_same, [(kc c, .ref q1)], ?_, rfl, ?_⟩, rfl, by simp, rfl, fun j a hj => by omega⟩, ?_⟩
    · refine Same.trans ?_ (same_upd hpl)
      exact same_mut ((same_upd hwd).trans (same_upd hq1)) hwd
    · rw [upd_ne hw2, upd_same]
      rfl
    · intro kv hkv
      rw [List.mem_singleton] at hkv
      subst hkv
      exact ⟨q1, _, rfl, h12, by rw [upd_ne h12, upd_ne hw1.symm, upd_same], by simp⟩
    rintro m σ H1 ⟨cs, pc, x, y, ri, rfl, hpc, hm, hdone⟩
    have ri0 := ri
    obtain ⟨sm, hnd, hlt, hre, hcc, hp, kvs, hk, hkm, hkv⟩ := ri
    refine ⟨.int (pc : Nat), rfl, .ref pl, rfl, pl, _, rfl, .inl (.inl (.inl hp)), _, _, rfl, rfl, decide (pc < cs.length), ?_, ?_⟩
    · dsimp only
      congr 1
      apply decide_eq_decide.mpr
      rw [List.length_map]
      omega
    by_cases hlt2 : pc < cs.length
    · rw [decide_eq_true hlt2]
      refine iteT ?_
      have hcl := nodup_len Ls.length cs hnd hlt
      refine ⟨_, fun σ' H' h => ⟨m - 1, by omega, h⟩, ?_⟩
      have hat : cs[pc]? = some cs[pc] := List.getElem?_eq_getElem hlt2
      have hle : cs[pc] < Ls.length := hlt _ (List.getElem_mem hlt2)
      have hLat : Ls[cs[pc]]? = some Ls[cs[pc]] := List.getElem?_eq_getElem hle
      obtain ⟨vx, hvx, hdp⟩ := dpAll_at hd (i := cs[pc]) (d := dL Ls[cs[pc]]) (by rw [List.getElem?_map, hLat]; rfl)
      obtain ⟨la, rfl, hla⟩ := dp_dL hdp
      refine ⟨.ref pl, rfl, .int (pc : Nat), rfl, pl, _, (pc : Nat), .int (cs[pc] : Nat), rfl, rfl, .inl (.inl hp), atI_nat (by rw [List.getElem?_map, hat]; rfl), ?_⟩
      refine ⟨.int (pc : Nat), rfl, _, 1, rfl, rfl, ?_⟩
      refine ⟨.ref st, rfl, .int (cs[pc] : Nat), rfl, st, xs, (cs[pc] : Nat), .ref la, rfl, rfl, sqL_same sm hs, atI_nat hvx, la, rfl, ⟨_, sqL_same sm hla⟩, ?_⟩
      refine for_it (walk_list (xs := Ls[cs[pc]].map fun (x : Nat) => V.int (x : Int))) (fun i σ H' => ∃ (ds : List Nat) (y : Option V), RI H wd pl Ls c (cs ++ ds) H' ∧ σ = [some (V.ref st), some (V.int (c : Nat)), some (V.ref wd), some (V.ref pl), some (V.int ((pc : Int) + 1)), some (V.int (cs[pc] : Nat)), y] ∧ ∀ b ∈ Ls[cs[pc]].take i, b ∈ cs ++ ds)
        ⟨[], y, by rw [List.append_nil]; exact ri0, rfl, fun b hb => by simp at hb⟩ (fun i σ H' _ p => by obtain ⟨ds, y, r, _⟩ := p; exact sqL_same r.1 hla) (fun i v σ H2 H3 hi p yv => ?_) (fun σ H2 p => ?_)
      · obtain ⟨ds, y, ri2, rfl, hb⟩ := p
        obtain ⟨rfl, hv⟩ := yv
        have hi' : i < Ls[cs[pc]].length := by rw [List.length_map] at hi; exact hi
        have ev : v = V.int ((Ls[cs[pc]][i] : Nat) : Int) := by
          rw [List.getElem?_map, List.getElem?_eq_getElem hi'] at hv
          exact (Option.some.inj hv).symm
        subst ev
        generalize hb2 : Ls[cs[pc]][i] = b at *
        have hbm : b ∈ Ls[cs[pc]] := hb2 ▸ List.getElem_mem hi'
        have etk : Ls[cs[pc]].take (i + 1) = Ls[cs[pc]].take i ++ [b] := by rw [← List.take_append_getElem hi', hb2]
        have ri3 := ri2
        obtain ⟨sm2, hnd2, hlt3, hre2, hcc2, hp2, kvs2, hk2, hkm2, hkv2⟩ := ri2
        refine ⟨.int (b : Nat), rfl, .ref wd, rfl, wd, _, rfl, DGet.k (k := kc b) hk2, decide (b ∉ cs ++ ds), ?_, ?_⟩
        · have e : (valV kvs2 (kc b)).isSome = decide (b ∈ cs ++ ds) := by
            rw [Bool.eq_iff_iff, valV_mem, hkm2, mem_kc, decide_eq_true_iff]
          show V.bl (!(valV kvs2 (kc b)).isSome) = _
          rw [e]
          simp
        by_cases hin : b ∈ cs ++ ds
        · rw [decide_eq_false (not_not_intro hin)]
          refine iteF ⟨ds, _, ri3, rfl, fun b' hb' => ?_⟩
          rw [etk, List.mem_append, List.mem_singleton] at hb'
          rcases hb' with h | rfl
          · exact hb b' h
          · exact hin
        · rw [decide_eq_true hin]
          refine iteT ?_
          obtain ⟨vq, hvq, hvm⟩ := valV_at (kvs := kvs2) (k := kc cs[pc]) (by rw [hkm2, mem_kc]; exact List.mem_append_left _ (List.getElem_mem hlt2))
          obtain ⟨qa, ys, eq, hqp, hqa, hyl⟩ := hkv2 _ hvm
          simp only at eq
          subst eq
          have hl2 : kvs2.length = (cs ++ ds).length := by rw [← List.length_map (f := (·.1)), hkm2, List.length_map]
          have hl3 := nodup_len Ls.length (cs ++ ds) hnd2 hlt3
          have hbn : valV kvs2 (kc b) = none := by
            cases e : valV kvs2 (kc b) with
            | none => rfl
            | some _ => exact absurd (mem_kc.mp (hkm2 ▸ valV_in e)) hin
          refine ⟨.ref wd, rfl, .int (cs[pc] : Nat), rfl, wd, .ref qa, rfl, ?_, .int (b : Nat), rfl, (show 1 ≤ sizeLine by decide), fun p1 hp1 => ?_⟩
          · have := DGet.k (k := kc cs[pc]) hk2
            rw [hvq] at this
            exact this
          have hqa1 : qa ≠ p1 := ne_of_none hqa hp1
          refine ⟨qa, p1, ys, _, rfl, rfl, by rw [upd_ne hqa1]; exact hqa, upd_same, ?_, fun p2 hp2n => ?_⟩
          · rw [sizeLine_eq]
            show ys.length + 1 ≤ _
            omega
          have s3 := (same_upd (o := .lst [.int (b : Nat)]) hp1).trans (same_upd (o := .lst (ys ++ [.int (b : Nat)])) hp2n)
          have hwd3 : (upd (upd H3 p1 (.lst [.int (b : Nat)])) p2 (.lst (ys ++ [.int (b : Nat)]))) wd = some (.dK kvs2) := s3 _ _ hk2
          have hpl3 := s3 _ _ hp2
          have hp2p : p2 ≠ pl := fun e => by rw [e, upd_ne (ne_of_none hp2 hp1), hp2] at hp2n; cases hp2n
          have hp2w : p2 ≠ wd := fun e => by rw [e, upd_ne (ne_of_none hk2 hp1), hk2] at hp2n; cases hp2n
          have hwp : wd ≠ pl := hw2
          refine ⟨.ref wd, rfl, .int (b : Nat), rfl, wd, _, rfl, DPut.k (k := kc b) hwd3 (by rw [sizeLine_eq]; omega), ?_⟩
          refine ⟨.ref pl, rfl, ?_, .int (b : Nat), rfl, pl, _, _, rfl, rfl, by rw [upd_ne hwp.symm]; exact hpl3, ?_, ?_⟩
          · exact .inl ⟨rfl, _, .inl (.inl (by rw [upd_ne hwp.symm]; exact hpl3))⟩
          · rw [List.length_map, sizeLine_eq]
            omega
          refine ⟨ds ++ [b], _, ⟨?_, ?_, ?_, ?_, ?_, ?_, kvs2 ++ [(kc b, .ref p2)], ?_, ?_, ?_⟩, rfl, ?_⟩
          · exact same_mut (same_mut (sm2.trans s3) hwd) hplH
          · rw [← List.append_assoc]
            exact nd_snoc hnd2 hin
          · intro x hx
            rw [← List.append_assoc, List.mem_append, List.mem_singleton] at hx
            rcases hx with h | rfl
            · exact hlt3 x h
            · exact hL _ (List.getElem_mem hle) _ hbm
          · intro x hx
            rw [← List.append_assoc, List.mem_append, List.mem_singleton] at hx
            rcases hx with h | rfl
            · exact hre2 x h
            · exact .step (hre _ (List.getElem_mem hlt2)) ⟨_, hLat, hbm⟩
          · exact List.mem_append_left _ hcc
          · rw [upd_same, ← List.append_assoc, List.map_append (l₁ := cs ++ ds)]
            rfl
          · rw [upd_ne hwp, upd_same, putK_new _ hbn]
          · rw [List.map_append, hkm2, ← List.append_assoc, List.map_append (l₁ := cs ++ ds)]
            rfl
          · intro kv hkv
            rw [List.mem_append, List.mem_singleton] at hkv
            rcases hkv with h | rfl
            · obtain ⟨q', ys', e1, e2, e3, e4⟩ := hkv2 kv h
              refine ⟨q', ys', e1, e2, ?_, by rw [List.length_append]; omega⟩
              rw [upd_ne e2, upd_ne (ne_of e3 hk2 (by simp))]
              exact s3 _ _ e3
            · refine ⟨p2, _, rfl, hp2p, by rw [upd_ne hp2p, upd_ne hp2w, upd_same], ?_⟩
              rw [List.length_append, List.length_append]
              exact Nat.succ_le_succ hyl
          · intro b' hb'
            rw [etk, List.mem_append, List.mem_singleton] at hb'
            rw [← List.append_assoc, List.mem_append]
            rcases hb' with h | rfl
            · exact .inl (hb b' h)
            · exact .inr List.mem_cons_self
      · obtain ⟨ds, y, ri2, rfl, hb⟩ := p
        rw [List.length_map, List.take_length] at hb
        refine ⟨cs ++ ds, pc + 1, _, y, ri2, rfl, by rw [List.length_append]; omega, by omega, fun j a hj hja b hab => ?_⟩
        rw [List.getElem?_append_left (by omega)] at hja
        by_cases hjp : j < pc
        · exact List.mem_append_left _ (hdone j a hjp hja b hab)
        · have : j = pc := by omega
          subst this
          rw [hat] at hja
          have ea := Option.some.inj hja
          subst ea
          obtain ⟨L, h1, h2⟩ := hab
          rw [hLat] at h1
          have e1 := Option.some.inj h1
          subst e1
          exact hb b h2
    · rw [decide_eq_false hlt2]
      refine iteF ⟨.ref wd, rfl, q wd H1 kvs cs hwd sm hk hkm (fun x => ⟨hre x, fun h => ?_⟩) hlt⟩
      induction h with
      | refl => exact hcc
      | step h1 h2 ih =>
        obtain ⟨j, hj, e⟩ := List.mem_iff_getElem.mp ih
        exact hdone j _ (by omega) (List.getElem?_eq_getElem hj) _ (e.symm ▸ h2)
end
end Cw
end
section
namespace Cw
open PySem PySem.Spec PyProof.Rows L2
/-! ### all but instances stands -/
def Ix (H H' : Hp) : Prop := ∀ b o, H b = some o → (∀ C dx fl, o ≠ .ins C dx fl) → H' b = some o
theorem Ix.of_same {H H' : Hp} (s : Same H H') : Ix H H' := fun b o e _ => s b o e
theorem Ix.of_but {H H' : Hp} {x C dx : Addr} {fl : List (Str × V)} (hx : H x = some (.ins C dx fl)) (s : But x H H') : Ix H H' := fun b o e n => s.at (fun z => by
  subst z
  rw [hx] at e
  exact n _ _ _ (Option.some.inj e).symm) e
theorem Rd.ix {H H' : Hp} {a : Addr} {u : HO} (s : Ix H H') (h : Rd H a u) (n : ∀ C dx fl, u ≠ .ins C dx fl) : Rd H' a u := by
  rcases h with h | ⟨o, h⟩
  · exact .inl (s _ _ h n)
  · exact .inr ⟨o, s _ _ h (fun _ _ _ z => by cases z)⟩
theorem sqL_ix {K : PySem.W.Frag} {H H' : Hp} {a : Addr} {xs : List V} (s : Ix H H') (h : SqL K H a xs) : SqL K H' a xs := h.imp (fun h => Rd.ix s h (fun _ _ _ z => by cases z)) id
theorem sqT_ix {K : PySem.W.Frag} {H H' : Hp} {a : Addr} {xs : List V} (s : Ix H H') (h : SqT K H a xs) : SqT K H' a xs := h.imp (fun h => Rd.ix s h (fun _ _ _ z => by cases z)) id
theorem Plc.ix {H H' : Hp} {d : Addr} {z : List Str} (h : Plc H d z) (s : Ix H H') : Plc H' d z := by
  obtain ⟨kvs, e, l, q⟩ := h
  exact ⟨kvs, s _ _ e (fun _ _ _ z => by cases z), l, q⟩
mutual
theorem dp_ix {K : PySem.W.Frag} {H H' : Hp} (s : Ix H H') : ∀ {d : PyData} {v : V}, Dp K H v d → Dp K H' v d
  | .none, _, h => by cases h; exact .non
  | .bool _, _, h => by cases h; exact .bl _
  | .int _, _, h => by cases h; exact .int _
  | .str _, _, h => by cases h; exact .str _
  | .list ds, _, h => by
    cases h with
    | lst h1 h2 => exact .lst (sqL_ix s h1) (dpAll_ix s h2)
  | .tuple ds, _, h => by
    cases h with
    | tup h1 h2 => exact .tup (sqT_ix s h1) (dpAll_ix s h2)
  | .dict _, _, h => by cases h
theorem dpAll_ix {K : PySem.W.Frag} {H H' : Hp} (s : Ix H H') : ∀ {ds : List PyData} {vs : List V}, DpAll K H vs ds → DpAll K H' vs ds
  | [], _, h => by cases h; exact .nil
  | d :: ds, _, h => by
    cases h with
    | cons h1 h2 => exact .cons (dp_ix s h1) (dpAll_ix s h2)
end
theorem lkS {f : Str} {v : V} {fl : List (Str × V)} : (putF f v fl).lookup f = some v := by
  rw [lookup_putF, if_pos rfl]
theorem lkN {f g : Str} {v : V} {fl : List (Str × V)} (h : g ≠ f) : (putF f v fl).lookup g = fl.lookup g := by
  rw [lookup_putF, if_neg h]
/-- a dict comprehension over a walk -/
theorem dc_it {J : It} {n : Nat} {G : Hp → Prop} {Y : Nat → Hp → V → Hp → Prop} (w : Walk J n G Y) {g : TG} {tt : TT} {tk tv : TE} {vs : List Nat} {σ : L2.St} {H1 : Hp} {D : Addr} {Qd : Hp → Prop} (Pv : Nat → Hp → Prop) (h0 : Pv 0 (upd H1 D (.dK []))) (hG : ∀ i H, i ≤ n → Pv i H → G H)
    (hs : ∀ i x H H', i < n → Pv i H → Y i H x H' → g x (wipe σ vs) H' fun σ2 H2 => wipe σ2 vs = wipe σ vs ∧ tt σ2 H2 fun b H3 =>
      if b = true then tk σ2 H3 fun y H4 => tv σ2 H4 fun z H5 => ∃ kvs k, y = kV k ∧ H5 D = some (.dK kvs) ∧ kvs.length < sizeLine ∧ Pv (i + 1) (upd H5 D (.dK (putK kvs k z))) else Pv (i + 1) H3) (hd : ∀ H, Pv n H → Qd H) :
    ∃ W : Nat → Nat → Hp → Prop, (∃ m, W 0 m (upd H1 D (.dK []))) ∧ ∀ i m H, W i m H →
      (J.stop i H ∧ Qd H) ∨ (J.go i H ∧ ∃ Nx : Hp → Prop, (∀ H', Nx H' → ∃ m', m' < m ∧ W (i + 1) m' H') ∧ ∀ x H', J.yld i H x H' → g x (wipe σ vs) H' fun σ2 H2 => wipe σ2 vs = wipe σ vs ∧ tt σ2 H2 fun b H3 =>
        if b = true then tk σ2 H3 fun y H4 => tv σ2 H4 fun z H5 => ∃ kvs k, y = kV k ∧ H5 D = some (.dK kvs) ∧ kvs.length < sizeLine ∧ Nx (upd H5 D (.dK (putK kvs k z))) else Nx H3) := by
  refine ⟨fun i m H => m = n - i ∧ i ≤ n ∧ Pv i H, ⟨n, by simp, Nat.zero_le _, h0⟩, ?_⟩
  rintro i m H ⟨rfl, hi, p⟩
  have q := hG i H hi p
  by_cases hlt : i < n
  · refine .inr ⟨w.goes i H hlt q, Pv (i + 1), fun H' p' => ⟨n - (i + 1), by omega, rfl, hlt, p'⟩, fun x H' y => hs i x H H' hlt p (w.yields i H x H' hlt q y)⟩
  · have e : i = n := by omega
    subst e
    exact .inl ⟨w.stops H q, hd H p⟩
/-- an instance of Facts over the names z, with these masks -/
def Fcts (K : PySem.W.Frag) (H : Hp) (a : Addr) (z : List Str) (Ms : List Nat) : Prop := ∃ (dx : Addr) (fl : List (Str × V)) (pl ms : Addr), H a = some (.ins (He.ga K "Facts") dx fl) ∧ fl.lookup ("places" : Str) = some (.ref pl) ∧ Plc H pl z ∧ fl.lookup ("masks" : Str) = some (.ref ms) ∧
  SqL K H ms (Ms.map fun (m : Nat) => V.int (m : Int)) ∧ Ms.length = 2 * z.length ∧ ∀ m ∈ Ms, m < 2 ^ 48
theorem Fcts.same {K : PySem.W.Frag} {H H' : Hp} {a : Addr} {z : List Str} {Ms : List Nat} (h : Fcts K H a z Ms) (s : Same H H') : Fcts K H' a z Ms := by
  obtain ⟨dx, fl, pl, ms, h1, h2, h3, h4, h5, h6, h7⟩ := h
  exact ⟨dx, fl, pl, ms, s _ _ h1, h2, h3.same s, h4, sqL_same s h5, h6, h7⟩
section
variable {P : Program} {w : World} {K : PySem.W.Frag} {mg : Str → Option Value} {base : Heap}
def spFollows (K : PySem.W.Frag) : Sp := fun vs H Q _ => ∃ (a t : Addr) (z : List Str) (Ms : List Nat) (f : Fc), vs = [.ref a, .ref t] ∧ Fcts K H a z Ms ∧ SqT K H t ((fL f).map V.str) ∧ FOk z f ∧ ∀ b H', Same H H' → Q (.bl b) H'
theorem ok_follows (D : Dfn K mg "follows" s_follows ["facts", "fact"]) (T : Txt K mg w) (c_breaking : C8.Cal P w K mg base 1 "breaking" (spBreaking K) []) (c_clashes : C8.Cal P w K mg base 1 "clashes" spClashes []) : C8.Cal P w K mg base 2 "follows" (spFollows K) [] := by
  refine cal_of D sc_follows (fun vs H Q E h => ?_) (fun cdv A outer s H vs Q E f hr h => ?_)
  · obtain ⟨a, t, z, Ms, fc, rfl, _⟩ := h
    rfl
  · obtain ⟨a, t, z, Ms, fc, rfl, ⟨dx, fl, pl, ms, ha, hl1, hpl, hl2, hms, hml, hmb⟩, ht, ok, q⟩ := h
    have nd := sc_follows.nd
    refine ⟨_, (pss_cons (ps_asg (C8.pe_c c_breaking hr (by decide) rfl (pa_cons (pe_fld (pv 0) rfl) (pa_cons (pv 1) pa_nil))) (pg_tup (n := 2) rfl (pgs_cons (pg_name (i := 2) nd rfl (.inl rfl)) (pgs_cons (pg_name (i := 3) nd rfl (.inl rfl)) pgs_nil))))
    (pss_one (ps_ret (C8.pe_c c_clashes hr (by decide) rfl (pa_cons (pe_op op_or (pe_ix ix_list (pe_fld (pv 0) rfl) (pv 2) (fun _ _ => rfl)) (pe_ix ix_list (pe_fld (pv 0) rfl) (pv 3) (fun _ _ => rfl))) pa_nil))))), ?_⟩
    have hb := br_lt ok
    refine ⟨.ref a, rfl, a, _, dx, fl, _, rfl, ha, T.cF, T.nF_places, hl1, .ref t, rfl, pl, t, z, fc, rfl, hpl, ht, ok, fun p hp => ?_⟩
    have sm : Same H (upd H p (.tup [.int (br1 z fc : Nat), .int (br2 z fc : Nat)])) := same_upd hp
    refine ⟨p, _, rfl, .inl (.inl upd_same), rfl, _, _, rfl, _, _, rfl, rfl, ?_⟩
    have e1 : Ms[br1 z fc]? = some Ms[br1 z fc] := List.getElem?_eq_getElem (by omega)
    have e2 : Ms[br2 z fc]? = some Ms[br2 z fc] := List.getElem?_eq_getElem (by omega)
    refine ⟨.ref a, rfl, a, _, dx, fl, _, rfl, sm _ _ ha, T.cF, T.nF_masks, hl2, .int (br1 z fc : Nat), rfl, ms, _, _, .int (Ms[br1 z fc] : Nat), rfl, rfl, sqL_same sm hms, atI_nat (by rw [List.getElem?_map, e1]; rfl), ?_⟩
    refine ⟨.ref a, rfl, a, _, dx, fl, _, rfl, sm _ _ ha, T.cF, T.nF_masks, hl2, .int (br2 z fc : Nat), rfl, ms, _, _, .int (Ms[br2 z fc] : Nat), rfl, rfl, sqL_same sm hms, atI_nat (by rw [List.getElem?_map, e2]; rfl), ?_⟩
    refine ⟨_, _, rfl, rfl, ?_⟩
    dsimp only
    rw [nOr]
    have l1 := hmb _ (List.getElem_mem (h := show br1 z fc < Ms.length by omega))
    have l2 := hmb _ (List.getElem_mem (h := show br2 z fc < Ms.length by omega))
    exact ⟨_, rfl, Nat.lt_of_lt_of_le (Nat.or_lt_two_pow l1 l2) (by decide), fun H' s' => q _ _ (sm.trans s')⟩
def spCands (K : PySem.W.Frag) : Sp := fun vs H Q _ => ∃ (a : Addr) (z : List Str), vs = [.ref a] ∧ SqL K H a (z.map V.str) ∧ z.length ≤ 24 ∧
  ∀ (p : Addr) (H' : Hp) (xs : List V) (fs : List Fc), H p = none → Same H H' → H' p = some (.lst xs) → DpAll K H' xs (fs.map fD) → (∀ f ∈ fs, FOk z f) → xs.length ≤ 2000 → Q (.ref p) H'
/-- where a list of facts grows -/
def CI (K : PySem.W.Frag) (H : Hp) (p : Addr) (z : List Str) (n : Nat) (H' : Hp) : Prop := Same H H' ∧ ∃ (xs : List V) (fs : List Fc), H' p = some (.lst xs) ∧ DpAll K H' xs (fs.map fD) ∧ (∀ f ∈ fs, FOk z f) ∧ xs.length ≤ n
theorem CI.more {H H1 : Hp} {p D t : Addr} {z : List Str} {n i : Nat} {k a b : Str} (hD : H D = none) (ci : CI K H D z i H1) (ht : H1 t = none) (ok : FOk z (k, a, b)) :
    ∃ acc, (upd H1 t (.tup [.str k, .str a, .str b])) D = some (.lst acc) ∧ acc.length ≤ i ∧ CI K H D z (i + 1) (upd (upd H1 t (.tup [.str k, .str a, .str b])) D (.lst (acc ++ [.ref t]))) := by
  obtain ⟨sm, xs, fs, hx, hd, hf, hl⟩ := ci
  have sm2 := same_upd (o := .tup [.str k, .str a, .str b]) ht
  refine ⟨xs, sm2 _ _ hx, hl, same_mut (sm.trans sm2) hD, xs ++ [.ref t], fs ++ [(k, a, b)], upd_same, ?_, ?_, ?_⟩
  · have fx : Fx (upd H1 t (.tup [.str k, .str a, .str b])) (upd (upd H1 t (.tup [.str k, .str a, .str b])) D (.lst (xs ++ [.ref t]))) := .lst (sm2 _ _ hx)
    rw [List.map_append]
    refine dpAll_snoc (dpAll_fx fx (fDs fs) (dpAll_same sm2 hd)) (dp_of_eT (l := fL (k, a, b)) (sqT_fx fx (.inl (.inl upd_same))))
  · intro f hf2
    rw [List.mem_append, List.mem_singleton] at hf2
    rcases hf2 with h | rfl
    · exact hf f h
    · exact ok
  · rw [List.length_append]
    exact Nat.succ_le_succ hl
theorem CI.ext {H H1 : Hp} {p b : Addr} {z : List Str} {n m : Nat} (hp : H p = none) (ci : CI K H p z n H1) {H2 : Hp} (ci2 : CI K H1 b z m H2) (hb : H1 b = none) :
    ∃ xs zs, H2 p = some (.lst xs) ∧ H2 b = some (.lst zs) ∧ xs.length ≤ n ∧ zs.length ≤ m ∧ CI K H p z (n + m) (upd H2 p (.lst (xs ++ zs))) := by
  obtain ⟨sm, xs, fs, hx, hd, hf, hl⟩ := ci
  obtain ⟨sm2, zs, gs, hz, hg, hgf, hzl⟩ := ci2
  have fx : Fx H2 (upd H2 p (.lst (xs ++ zs))) := .lst (sm2 _ _ hx)
  refine ⟨xs, zs, sm2 _ _ hx, hz, hl, hzl, same_mut (sm.trans sm2) hp, xs ++ zs, fs ++ gs, upd_same, ?_, ?_, ?_⟩
  · rw [List.map_append]
    exact dpAll_append (dpAll_fx fx (fDs fs) (dpAll_same sm2 hd)) (dpAll_fx fx (fDs gs) hg)
  · intro f hf2
    rw [List.mem_append] at hf2
    rcases hf2 with h | h
    · exact hf f h
    · exact hgf f h
  · rw [List.length_append]
    omega
theorem CI.le {H H1 : Hp} {p : Addr} {z : List Str} {n m : Nat} (ci : CI K H p z n H1) (h : n ≤ m) : CI K H p z m H1 := by
  obtain ⟨sm, xs, fs, hx, hd, hf, hl⟩ := ci
  exact ⟨sm, xs, fs, hx, hd, hf, by omega⟩
theorem CI.same {H H1 H2 : Hp} {p : Addr} {z : List Str} {n : Nat} (ci : CI K H p z n H1) (s : Same H1 H2) : CI K H p z n H2 := by
  obtain ⟨sm, xs, fs, hx, hd, hf, hl⟩ := ci
  exact ⟨sm.trans s, xs, fs, s _ _ hx, dpAll_same s hd, hf, hl⟩
theorem ok_cands (D : Dfn K mg "candidates" s_candidates ["names"]) (T : Txt K mg w) : C8.Cal P w K mg base 1 "candidates" (spCands K) [] := by
  refine cal_of D sc_candidates (fun vs H Q E h => ?_) (fun cdv A outer s H vs Q E f hr h => ?_)
  · obtain ⟨a, z, rfl, _⟩ := h
    rfl
  · obtain ⟨a, z, rfl, hs, hz, q⟩ := h
    have nd := sc_candidates.nd
    refine ⟨_, (pss_cons (ps_set (i := 1) nd rfl (.inl rfl) (pe_lst pa_nil))
    (pss_cons (ps_for PassesOwn.never rfl (pi_list (pv 0)) (pg_name (i := 2) nd rfl (.inr rfl))
      (pss_one (ps_expr (pe_bm PySem.F.plainAttrs_list PySem.F.slot_list_extend PySem.F.type_list_extend mt_extend (pv 1) (pa_cons (pe_lc (own := [("other", 5)]) rfl nd (pi_list (pv 0)) (blkOk_by (by kernel_rfl)) (fun _ _ _ _ _ => (pg_name (i := 5) nd rfl (by first | exact Or.inl rfl | exact Or.inr rfl))) (fun _ _ _ _ _ => (pts_one (pt_cmpR op_ne (pv 5) (pv 2) (nomark _)))) (fun _ _ _ _ _ => (pe_tup (pa_cons pe_str (pa_cons (pv 2) (pa_cons (pv 5) pa_nil)))))) pa_nil)))))
    (pss_cons (ps_for PassesOwn.never rfl (pi_tup (pe_tup (pa_cons pe_str (pa_cons pe_str pa_nil)))) (pg_name (i := 3) nd rfl (.inr rfl))
      (pss_one (ps_for PassesOwn.never rfl (pi_enum (by rfl) T.b_enumerate (pa_cons (pv 0) pa_nil)) (pg_tup (n := 2) rfl (pgs_cons (pg_name (i := 4) nd rfl (.inl rfl)) (pgs_cons (pg_name (i := 2) nd rfl (.inr rfl)) pgs_nil)))
        (pss_one (ps_expr (pe_bm PySem.F.plainAttrs_list PySem.F.slot_list_extend PySem.F.type_list_extend mt_extend (pv 1) (pa_cons (pe_lc (own := [("other", 5)]) rfl nd (pi_list (pe_slice sl_list (pv 0) (po_some (pv 4)) po_none)) (blkOk_by (by kernel_rfl)) (fun _ _ _ _ _ => (pg_name (i := 5) nd rfl (by first | exact Or.inl rfl | exact Or.inr rfl))) (fun _ _ _ _ _ => pts_nil) (fun _ _ _ _ _ => (pe_tup (pa_cons (pv 3) (pa_cons (pv 2) (pa_cons (pv 5) pa_nil)))))) pa_nil)))))))
    (pss_one (ps_ret (pv 1)))))), ?_⟩
    refine ⟨(show 0 ≤ sizeLine by decide), fun p hp => ?_⟩
    have hgz : ∀ {i : Nat} {v : V}, (z.map V.str)[i]? = some v → ∃ x, v = .str x ∧ x ∈ z := fun {i v} e => by
      rw [List.getElem?_map] at e
      obtain ⟨x, h1, h2⟩ := Option.map_eq_some_iff.mp e
      exact ⟨x, h2.symm, List.mem_of_getElem? h1⟩
    have hzl : (z.map V.str).length = z.length := List.length_map ..
    refine ⟨.ref a, rfl, a, rfl, ⟨_, sqL_same (same_upd hp) hs⟩, for_it (walk_list (xs := z.map V.str)) (fun i σ H' => CI K H p z (24 * i) H' ∧ ∃ x y, σ = [some (V.ref a), some (V.ref p), x, none, none, y]) ⟨⟨same_upd hp, [], [], upd_same, .nil, (fun _ h => absurd h List.not_mem_nil), by simp⟩, _, _, rfl⟩ (fun i σ H' _ p => sqL_same p.1.1 hs) (fun i v σ H1 H2 hi pv yv => ?_) (fun σ H1 pv => ?_)⟩
    · obtain ⟨ci, x, y, rfl⟩ := pv
      obtain ⟨rfl, hv⟩ := yv
      obtain ⟨one, rfl, hone⟩ := hgz hv
      refine ⟨.ref p, rfl, .inl ⟨rfl, ?_⟩, .ref a, rfl, a, rfl, ⟨_, sqL_same ci.1 hs⟩, fun D2 hD => ?_⟩
      · obtain ⟨_, xs, _, hx, _⟩ := ci
        exact ⟨xs, .inl (.inl hx)⟩
      refine lc_it (walk_list (xs := z.map V.str)) (fun j H' => CI K H2 D2 z j H') ⟨same_upd hD, [], [], upd_same, .nil, (fun _ h => absurd h List.not_mem_nil), by simp⟩ (fun j H' _ p => sqL_same (ci.1.trans p.1) hs) (fun j v2 H3 H4 hj ci2 yv2 => ?_) (fun H3 ci2 => ?_)
      · obtain ⟨rfl, hv2⟩ := yv2
        obtain ⟨other, rfl, hother⟩ := hgz hv2
        refine ⟨rfl, .str other, rfl, .str one, rfl, rfl, !decide (V.str other = V.str one), rfl, ?_⟩
        by_cases he : V.str other = V.str one
        · rw [decide_eq_true he]
          exact ci2.le (by omega)
        · rw [decide_eq_false he]
          refine ⟨_, rfl, _, rfl, (show 3 ≤ sizeLine by decide), fun t ht => ?_⟩
          obtain ⟨acc, e1, e2, e3⟩ := ci2.more (p := p) (n := 0) hD ht (k := "in") (a := one) (b := other) ⟨.inl rfl, hone, hother⟩
          exact ⟨acc, e1, by rw [sizeLine_eq]; omega, e3⟩
      · obtain ⟨xs, zs, e1, e2, e3, e4, e5⟩ := ci.ext hp ci2 hD
        refine ⟨p, D2, xs, zs, rfl, rfl, e1, e2, by rw [sizeLine_eq]; omega, e5.le (by omega), _, _, rfl⟩
    · obtain ⟨ci, x, y, rfl⟩ := pv
      refine ⟨(show 2 ≤ sizeLine by decide), fun tk htk => ⟨tk, rfl, ⟨_, .inl (.inl upd_same)⟩, for_it (walk_tup (xs := [V.str "apart", V.str "cover"])) (fun i σ H' => CI K H p z (24 * z.length + 24 * z.length * i) H' ∧ H' tk = some (.tup [V.str "apart", V.str "cover"]) ∧ ∃ x y u v, σ = [some (V.ref a), some (V.ref p), x, y, u, v]) ⟨?_, upd_same, _, _, _, _, rfl⟩ (fun i σ H' _ p => .inl (.inl p.2.1)) (fun i v σ H2 H3 hi pv yv => ?_) (fun σ H1 pv => ?_)⟩⟩
      · rw [hzl] at ci
        exact (ci.same (same_upd htk)).le (by omega)
      · obtain ⟨ci, hkt, x, y, u, u2, rfl⟩ := pv
        obtain ⟨rfl, hv⟩ := yv
        obtain ⟨kd, rfl, hkd⟩ : ∃ kd : Str, v = .str kd ∧ (kd = "apart" ∨ kd = "cover") := by
          rcases i with _ | _ | i
          · exact ⟨"apart", (Option.some.inj hv).symm, .inl rfl⟩
          · exact ⟨"cover", (Option.some.inj hv).symm, .inr rfl⟩
          · simp at hv
        refine ⟨.ref a, rfl, a, _, rfl, sqL_same ci.1 hs, for_it (walk_enum (xs := z.map V.str)) (fun j σ H' => CI K H p z (24 * z.length + 24 * z.length * i + 24 * j) H' ∧ H' tk = some (.tup [V.str "apart", V.str "cover"]) ∧ ∃ x u v, σ = [some (V.ref a), some (V.ref p), x, some (V.str kd), u, v]) ⟨ci, hkt, _, _, _, rfl⟩ (fun i σ H' _ p => sqL_same p.1.1 hs) (fun j v σ H4 H5 hj pv yv => ?_) (fun σ H4 pv => ?_)⟩
        · obtain ⟨ci, hkt, x, u, u2, rfl⟩ := pv
          obtain ⟨t, _, vx, rfl, hnt, rfl, hx1, hx2⟩ := yv
          cases hx1
          obtain ⟨one, rfl, hone⟩ := hgz hx2
          rw [hzl] at hj
          have ci5 := ci.same (same_upd (o := .tup [.int (j : Nat), .str one]) hnt)
          have hkt5 : (upd H4 t (.tup [.int (j : Nat), .str one])) tk = some (.tup [V.str "apart", V.str "cover"]) := same_upd hnt _ _ hkt
          refine ⟨t, _, rfl, .inl (.inl upd_same), rfl, .int (j : Nat), _, rfl, .str one, _, rfl, rfl, ?_⟩
          refine ⟨.ref p, rfl, .inl ⟨rfl, ?_⟩, .ref a, rfl, .int (j : Nat), rfl, (j : Nat), rfl, a, _, rfl, sqL_same ci5.1 hs, fun sl hsl => ?_⟩
          · obtain ⟨_, xs, _, hx, _⟩ := ci5
            exact ⟨xs, .inl (.inl hx)⟩
          have ecut : cutV (z.map V.str) (some ((j : Nat) : Int)) none = (z.drop j).map V.str := by
            rw [cutV_from (by rw [hzl]; omega), List.map_drop]
          rw [ecut]
          have ci6 := ci5.same (same_upd (o := .lst ((z.drop j).map V.str)) hsl)
          have hkt6 := same_upd (o := .lst ((z.drop j).map V.str)) hsl _ _ hkt5
          have hsl6 : (upd (upd H4 t (.tup [.int (j : Nat), .str one])) sl (.lst ((z.drop j).map V.str))) sl = some (.lst ((z.drop j).map V.str)) := upd_same
          generalize upd (upd H4 t (.tup [.int (j : Nat), .str one])) sl (.lst ((z.drop j).map V.str)) = H6 at *
          refine ⟨sl, rfl, ⟨_, .inl (.inl hsl6)⟩, fun D2 hD => ?_⟩
          refine lc_it (walk_list (xs := (z.drop j).map V.str)) (fun j2 H' => CI K H6 D2 z j2 H') ⟨same_upd hD, [], [], upd_same, .nil, (fun _ h => absurd h List.not_mem_nil), by simp⟩ (fun j H' _ p => .inl (.inl (p.1 _ _ hsl6))) (fun j2 v2 H7 H8 hj2 ci2 yv2 => ?_) (fun H7 ci2 => ?_)
          · obtain ⟨rfl, hv2⟩ := yv2
            rw [List.getElem?_map] at hv2
            obtain ⟨other, ho1, ho2⟩ := Option.map_eq_some_iff.mp hv2
            subst ho2
            have hother : other ∈ z := List.mem_of_mem_drop (List.mem_of_getElem? ho1)
            refine ⟨rfl, .str kd, rfl, _, rfl, _, rfl, (show 3 ≤ sizeLine by decide), fun t2 ht2 => ?_⟩
            rw [List.length_map, List.length_drop] at hj2
            obtain ⟨acc, e1, e2, e3⟩ := ci2.more (p := p) (n := 0) hD ht2 (k := kd) (a := one) (b := other) ⟨hkd.elim (fun h => .inr (.inl h)) (fun h => .inr (.inr h)), hone, hother⟩
            exact ⟨acc, e1, by rw [sizeLine_eq]; omega, e3⟩
          · have hle : ((z.drop j).map V.str).length ≤ 24 := by
              rw [List.length_map, List.length_drop]
              omega
            obtain ⟨xs, zs, e1, e2, e3, e4, e5⟩ := ci6.ext hp ci2 hD
            have hpk : tk ≠ p := by
              obtain ⟨_, xs0, _, hx0, _⟩ := ci
              exact ne_of hkt hx0 (by simp)
            refine ⟨p, D2, xs, zs, rfl, rfl, e1, e2, ?_, e5.le (by omega), ?_, _, _, _, rfl⟩
            · rw [sizeLine_eq]
              have : 24 * z.length * i ≤ 24 * 24 * 2 := Nat.mul_le_mul (Nat.mul_le_mul_left _ hz) (by simp at hi; omega)
              omega
            · rw [upd_ne hpk]
              exact ci2.1 _ _ hkt6
        · obtain ⟨ci, hkt, x, u, u2, rfl⟩ := pv
          rw [hzl] at ci
          refine ⟨ci.le (by rw [Nat.mul_add]; omega), hkt, _, _, _, _, rfl⟩
      · obtain ⟨⟨sm, xs, fs, hx, hd, hf, hl⟩, hkt, x, y, u, v, rfl⟩ := pv
        refine ⟨.ref p, rfl, q p H1 xs fs hp sm hx hd hf ?_⟩
        have : 24 * z.length * [V.str "apart", V.str "cover"].length ≤ 24 * 24 * 2 := Nat.mul_le_mul (Nat.mul_le_mul_left _ hz) (Nat.le_refl _)
        omega
end
end Cw
end
section
namespace Cw
open PySem PySem.Spec PyProof.Rows L2
def edgeR (z : List Str) (fs : List Fc) (a b : Nat) : Prop := (a, b) ∈ edges z fs
def MOk (z : List Str) (fs : List Fc) (Ms : List Nat) : Prop := Ms.length = 2 * z.length ∧ (∀ m ∈ Ms, m < 2 ^ 48) ∧ ∀ c m, Ms[c]? = some m → ∀ j, m.testBit j = true ↔ Reach (edgeR z fs) c j
theorem xor_lt {b n : Nat} (h : b < 2 * n) : b ^^^ 1 < 2 * n := by
  have h1 : (b ^^^ 1) / 2 = b / 2 := by
    rw [Nat.xor_div_two]
    simp
  omega
theorem edge_lt {z : List Str} {fs : List Fc} (ok : ∀ f ∈ fs, FOk z f) {a b : Nat} (h : edgeR z fs a b) : a < 2 * z.length ∧ b < 2 * z.length := by
  obtain ⟨f, hf, h⟩ := List.mem_flatMap.mp h
  have q := br_lt (ok f hf)
  simp only [List.mem_cons, List.not_mem_nil, or_false] at h
  rcases h with h | h
  · obtain ⟨h1, h2⟩ := Prod.mk.inj h
    have := xor_lt q.2
    omega
  · obtain ⟨h1, h2⟩ := Prod.mk.inj h
    have := xor_lt q.1
    omega
theorem Reach.mono {E F : Nat → Nat → Prop} (h : ∀ a b, E a b → F a b) {c x : Nat} (r : Reach E c x) : Reach F c x := by
  induction r with
  | refl => exact .refl
  | step _ e ih => exact .step ih (h _ _ e)
/-- the places' pairs -/
def plcK : List Str → Nat → List (Key × V)
  | [], _ => []
  | x :: r, n => (.inr x, .int (n : Nat)) :: plcK r (n + 1)
theorem plcK_len : ∀ (l : List Str) (n : Nat), (plcK l n).length = l.length
  | [], _ => rfl
  | x :: r, n => congrArg (· + 1) (plcK_len r (n + 1))
theorem plcK_snoc : ∀ (l : List Str) (n : Nat) (x : Str), plcK (l ++ [x]) n = plcK l n ++ [(.inr x, .int ((n + l.length : Nat) : Int))]
  | [], n, x => rfl
  | y :: r, n, x => by
    show (_ :: plcK (r ++ [x]) (n + 1)) = _ :: (plcK r (n + 1) ++ _)
    rw [plcK_snoc r (n + 1) x, List.length_cons, show n + 1 + r.length = n + (r.length + 1) by omega]
theorem plcK_val : ∀ (l : List Str) (n : Nat) (x : Str), valV (plcK l n) (.inr x) = if x ∈ l then some (.int ((n + l.idxOf x : Nat) : Int)) else none
  | [], n, x => rfl
  | y :: r, n, x => by
    show valV ((.inr y, .int (n : Nat)) :: plcK r (n + 1)) (.inr x) = _
    by_cases h : y = x
    · subst h
      rw [valV_pos rfl, if_pos List.mem_cons_self, List.idxOf_cons_self]
      rfl
    · have h' : ¬ ((.inr y : Key) = .inr x) := fun e => h (Sum.inr.inj e)
      rw [valV_neg h', plcK_val r (n + 1) x]
      have hb : (y == x) = false := by
        rw [beq_eq_false_iff_ne]
        exact h
      by_cases hm : x ∈ r
      · rw [if_pos hm, if_pos (List.mem_cons_of_mem _ hm), List.idxOf_cons, hb, cond_false, show n + 1 + r.idxOf x = n + (r.idxOf x + 1) by omega]
      · rw [if_neg hm, if_neg]
        intro hx
        rcases List.mem_cons.mp hx with e | e
        · exact h e.symm
        · exact hm e
section
variable {P : Program} {w : World} {K : PySem.W.Frag} {mg : Str → Option Value} {base : Heap}
def spFInit (K : PySem.W.Frag) : Sp := fun vs H Q _ => ∃ (x dx ra fa : Addr) (z : List Str) (xs : List V) (fs : List Fc), vs = [.ref x, .ref ra, .ref fa] ∧ H x = some (.ins (He.ga K "Facts") dx []) ∧ SqL K H ra (z.map V.str) ∧ 1 ≤ z.length ∧ z.length ≤ 24 ∧ (∀ x ∈ z, Valid x) ∧ z.Nodup ∧
  SqL K H fa xs ∧ DpAll K H xs (fs.map fD) ∧ fs.length ≤ 1200 ∧ (∀ f ∈ fs, FOk z f) ∧ (∀ c, ¬ (Reach (edgeR z fs) (2 * c) (2 * c + 1) ∧ Reach (edgeR z fs) (2 * c + 1) (2 * c))) ∧
  ∀ (H' : Hp) (Ms : List Nat), But x H H' → Fcts K H' x z Ms → MOk z fs Ms → Q .non H'
theorem ok_finit (D : Mtd K (He.ga K "Facts") "__init__" "Facts.__init__" s_Facts_init ["self", "regions", "facts"]) (T : Txt K mg w)
    (c_checked_regions : C8.Cal P w K mg base 2 "checked_regions" (spRegs K) []) (c_checked_facts : C8.Cal P w K mg base 3 "checked_facts" (spFacts K) []) (c_steps_of : C8.Cal P w K mg base 2 "steps_of" (spSteps K) []) (c_reached : C8.Cal P w K mg base 1 "reached" (spReached K) [])
    (c_mask_of : C8.Cal P w K mg base 1 "mask_of" (spMaskOf K) []) (c_candidates : C8.Cal P w K mg base 1 "candidates" (spCands K) []) (c_follows : C8.Cal P w K mg base 2 "follows" (spFollows K) []) : C8.Mak P w K mg base 4 "Facts" (He.ga K "Facts") (spFInit K) [] := by
  obtain ⟨fd, F, bd⟩ := D.ex
  refine ⟨_, fd, _, [], T.mkF, F.ok sc_Facts_init (fun vs H Q E h => ?_) (fun cdv A outer s H vs Q E hr h => ?_), T.g_Facts, bd, .nil⟩
  · obtain ⟨x, dx, ra, fa, z, xs, fs, rfl, _⟩ := h
    rfl
  · obtain ⟨x, dx, ra, fa, z, xs, fs, rfl, hx, hra, l1, l2, hv, hn, hfa, hdf, hfl, hok, hcon, q⟩ := h
    have nd := sc_Facts_init.nd
    refine ⟨_, (pss_cons (ps_fld (pv 0) (C8.pe_c c_checked_regions hr (by decide) rfl (pa_cons (pv 1) pa_nil)) rfl)
    (pss_cons (ps_fld (pv 0) (pe_dc (own := [("place", 6), ("name", 7)]) rfl nd (pi_enum (by rfl) T.b_enumerate (pa_cons (pe_fld (pv 0) rfl) pa_nil)) (blkOk_by (by kernel_rfl)) (fun _ _ _ _ _ => (pg_tupK (K := K) rfl (n := 2) rfl (pgs_cons (pg_name (i := 6) nd rfl (by first | exact Or.inl rfl | exact Or.inr rfl)) (pgs_cons (pg_name (i := 7) nd rfl (by first | exact Or.inl rfl | exact Or.inr rfl)) pgs_nil)))) (fun _ _ _ _ _ => pts_nil) (fun _ _ _ _ _ => (pv 7)) (fun _ _ _ _ _ => (pv 6))) rfl)
    (pss_cons (ps_fld (pv 0) (C8.pe_c c_checked_facts hr (by decide) rfl (pa_cons (pe_fld (pv 0) rfl) (pa_cons (pv 2) pa_nil))) rfl)
    (pss_cons (ps_fld (pv 0) (C8.pe_c c_steps_of hr (by decide) rfl (pa_cons (pe_fld (pv 0) rfl) (pa_cons (pe_fld (pv 0) rfl) pa_nil))) rfl)
    (pss_cons (ps_fld (pv 0) (pe_lc (own := [("claim", 3)]) rfl nd (pi_range1 rfl T.b_range (pa_cons (pe_callB call_len_seq (by rfl) T.b_len boot_len (pa_cons (pe_fld (pv 0) rfl) pa_nil)) pa_nil)) (blkOk_by (by kernel_rfl)) (fun _ _ _ _ _ => (pg_name (i := 3) nd rfl (by first | exact Or.inl rfl | exact Or.inr rfl))) (fun _ _ _ _ _ => pts_nil) (fun _ _ _ _ _ => (C8.pe_c c_mask_of hr (by decide) rfl (pa_cons (pe_callTy (call_list_dK rfl) (by rfl) T.b_list (by decide +kernel) (pa_cons (C8.pe_c c_reached hr (by decide) rfl (pa_cons (pe_fldK (K := K) rfl (pv 0) rfl) (pa_cons (pv 3) pa_nil))) pa_nil)) pa_nil)))) rfl)
    (pss_cons (ps_for PassesOwn.never rfl (pi_range3 rfl T.b_range (pa_cons pe_int (pa_cons (pe_callB call_len_seq (by rfl) T.b_len boot_len (pa_cons (pe_fld (pv 0) rfl) pa_nil)) (pa_cons pe_int pa_nil)))) (pg_name (i := 3) nd rfl (.inl rfl))
      (pss_one (ps_if (PW.pt (pw_and (pt_cmpR op_eq (pe_op op_and (pe_op op_shr (pe_ix ix_list (pe_fld (pv 0) rfl) (pv 3) (fun _ _ => rfl)) (pe_op op_add (pv 3) pe_int)) pe_int) pe_int (nomark _)) (pw_and1 (pt_cmpR op_eq (pe_op op_and (pe_op op_shr (pe_ix ix_list (pe_fld (pv 0) rfl) (pe_op op_add (pv 3) pe_int) (fun _ _ => rfl)) (pv 3)) pe_int) pe_int (nomark _)))))
        (pss_cons ps_never (pss_cons ps_never
        (pss_one ps_never)))
        pss_nil)))
    (pss_cons (ps_fld (pv 0) (C8.pe_c c_mask_of hr (by decide) rfl (pa_cons (pe_lc (own := [("claim", 3)]) rfl nd (pi_range1 rfl T.b_range (pa_cons (pe_callB call_len_seq (by rfl) T.b_len boot_len (pa_cons (pe_fld (pv 0) rfl) pa_nil)) pa_nil)) (blkOk_by (by kernel_rfl)) (fun _ _ _ _ _ => (pg_name (i := 3) nd rfl (by first | exact Or.inl rfl | exact Or.inr rfl))) (fun _ _ _ _ _ => (pts_one (pt_cmpR op_eq (pe_op op_and (pe_op op_shr (pe_ix (ix_listK (K := K) rfl) (pe_fldK (K := K) rfl (pv 0) rfl) (pe_op op_xor (pv 3) pe_int) (fun _ _ => rfl)) (pv 3)) pe_int) pe_int (nomark _)))) (fun _ _ _ _ _ => (pv 3))) pa_nil)) rfl)
    (pss_one (ps_fld (pv 0) (pe_lc (own := [("fact", 8)]) rfl nd (pi_list (C8.pe_c c_candidates hr (by decide) rfl (pa_cons (pe_fld (pv 0) rfl) pa_nil))) (blkOk_by (by kernel_rfl)) (fun _ _ _ _ _ => (pg_name (i := 8) nd rfl (by first | exact Or.inl rfl | exact Or.inr rfl))) (fun _ _ _ _ _ => (pts_one (pt_val (C8.pe_c c_follows hr (by decide) rfl (pa_cons (pv 0) (pa_cons (pv 8) pa_nil)))))) (fun _ _ _ _ _ => (pv 8))) rfl))))))))), ?_⟩
    -- names
    refine ⟨.ref ra, rfl, ra, z, rfl, hra, l1, l2, hv, hn, fun pn H1 hpn sm1 e1 => ⟨.ref x, rfl, x, _, dx, _, rfl, sm1 _ _ hx, T.cF, T.nF_names, (show 0 < 1000 by decide), ?_⟩⟩
    have b1 : But x H (upd H1 x (.ins (He.ga K "Facts") dx (putF "names" (.ref pn) []))) := (But.of_same sm1).trans But.upd
    have n1 : SqL K (upd H1 x (.ins (He.ga K "Facts") dx (putF "names" (.ref pn) []))) pn (z.map V.str) := sqL_ix (.of_but (sm1 _ _ hx) But.upd) (.inl (.inl e1))
    have x1 : (upd H1 x (.ins (He.ga K "Facts") dx (putF "names" (.ref pn) []))) x = _ := upd_same
    have k1 : (putF ("names" : Str) (.ref pn) []).lookup ("names" : Str) = some (.ref pn) := lkS
    have f1 := length_putF ("names" : Str) (.ref pn) []
    generalize putF ("names" : Str) (.ref pn) [] = fl1 at *
    generalize upd H1 x (.ins (He.ga K "Facts") dx fl1) = G1 at *
    clear e1 sm1 hpn
    -- places
    refine ⟨.ref x, rfl, x, _, dx, fl1, _, rfl, x1, T.cF, T.nF_names, k1, pn, _, rfl, n1, fun pl hpl => ?_⟩
    refine dc_it (walk_enum (xs := z.map V.str)) (fun i H' => Same G1 H' ∧ H' pl = some (.dK (plcK (z.take i) 0))) ⟨same_upd hpl, upd_same⟩ (fun i H' _ p => sqL_same p.1 n1) (fun i v H2 H3 hi pv yv => ?_) (fun H2 pv => ?_)
    · obtain ⟨sm, hk⟩ := pv
      obtain ⟨t, _, vx, rfl, hnt, rfl, hx1, hx2⟩ := yv
      cases hx1
      replace hx2 : (z.map V.str)[i]? = some vx := hx2
      have hi' : i < z.length := by rw [List.length_map] at hi; exact hi
      rw [List.getElem?_map, List.getElem?_eq_getElem hi'] at hx2
      have ev := (Option.some.inj hx2).symm
      subst ev
      have s3 := same_upd (o := .tup [.int (i : Nat), .str z[i]]) hnt
      refine ⟨t, _, rfl, .inl (.inl upd_same), rfl, .int (i : Nat), _, rfl, .str z[i], _, rfl, rfl, rfl, .str z[i], rfl, .int (i : Nat), rfl, plcK (z.take i) 0, .inr z[i], rfl, s3 _ _ hk, ?_, same_mut (sm.trans s3) hpl, ?_⟩
      · rw [plcK_len, List.length_take, sizeLine_eq]
        omega
      · rw [upd_same, putK_new, ← List.take_append_getElem hi', plcK_snoc, List.length_take, Nat.min_eq_left (by omega), Nat.zero_add]
        rw [plcK_val, if_neg]
        intro hm
        obtain ⟨j, hj, e⟩ := List.mem_take_iff_getElem.mp hm
        exact (List.pairwise_iff_getElem.mp hn) j i (by omega) hi' (by omega) e
    obtain ⟨sm2, hk⟩ := pv
    rw [List.length_map, List.take_length] at hk
    have hP : Plc H2 pl z := ⟨_, hk, plcK_len z 0, fun y => by
      rw [plcK_val]
      simp only [Nat.zero_add]⟩
    refine ⟨.ref x, rfl, x, _, dx, _, rfl, sm2 _ _ x1, T.cF, T.nF_places, by simp at f1; omega, ?_⟩
    have hx2 := sm2 _ _ x1
    have ix2 : Ix H2 (upd H2 x (.ins (He.ga K "Facts") dx (putF "places" (.ref pl) fl1))) := .of_but hx2 But.upd
    have b2 : But x H (upd H2 x (.ins (He.ga K "Facts") dx (putF "places" (.ref pl) fl1))) := (b1.trans (But.of_same sm2)).trans But.upd
    replace n1 := sqL_ix ix2 (sqL_same sm2 n1)
    replace hP := hP.ix ix2
    have x2 : (upd H2 x (.ins (He.ga K "Facts") dx (putF "places" (.ref pl) fl1))) x = _ := upd_same
    have k2 : (putF ("places" : Str) (.ref pl) fl1).lookup ("places" : Str) = some (.ref pl) := lkS
    replace k1 : (putF ("places" : Str) (.ref pl) fl1).lookup ("names" : Str) = some (.ref pn) := by rw [lkN (by decide)]; exact k1
    replace f1 : (putF ("places" : Str) (.ref pl) fl1).length ≤ 2 := by
      have := length_putF ("places" : Str) (.ref pl) fl1
      simp at f1
      omega
    generalize putF ("places" : Str) (.ref pl) fl1 = fl2 at *
    generalize upd H2 x (.ins (He.ga K "Facts") dx fl2) = G2 at *
    clear hk hx2 ix2 sm2 hpl x1 b1
    -- said
    have ixH : Ix H G2 := .of_but hx b2
    refine ⟨.ref x, rfl, x, _, dx, fl2, _, rfl, x2, T.cF, T.nF_places, k2, .ref fa, rfl, pl, fa, z, xs, fs, rfl, hP, sqL_ix ixH hfa, dpAll_ix ixH hdf, hfl, hok, fun ps H3 hps sm3 e3 => ⟨.ref x, rfl, x, _, dx, _, rfl, sm3 _ _ x2, T.cF, T.nF_said, by omega, ?_⟩⟩
    have ix3 : Ix G2 (upd H3 x (.ins (He.ga K "Facts") dx (putF "said" (.ref ps) fl2))) := .of_but x2 ((But.of_same sm3).trans But.upd)
    have hps3 : SqL K (upd H3 x (.ins (He.ga K "Facts") dx (putF "said" (.ref ps) fl2))) ps xs := sqL_ix (.of_but (sm3 _ _ x2) But.upd) (.inl (.inl e3))
    have hdf3 := dpAll_ix ix3 (dpAll_ix ixH hdf)
    replace hP := hP.ix ix3
    replace n1 := sqL_ix ix3 n1
    have b3 : But x H (upd H3 x (.ins (He.ga K "Facts") dx (putF "said" (.ref ps) fl2))) := (b2.trans (But.of_same sm3)).trans But.upd
    have x3 : (upd H3 x (.ins (He.ga K "Facts") dx (putF "said" (.ref ps) fl2))) x = _ := upd_same
    have k3 : (putF ("said" : Str) (.ref ps) fl2).lookup ("said" : Str) = some (.ref ps) := lkS
    replace k1 : (putF ("said" : Str) (.ref ps) fl2).lookup ("names" : Str) = some (.ref pn) := by rw [lkN (by decide)]; exact k1
    replace k2 : (putF ("said" : Str) (.ref ps) fl2).lookup ("places" : Str) = some (.ref pl) := by rw [lkN (by decide)]; exact k2
    replace f1 : (putF ("said" : Str) (.ref ps) fl2).length ≤ 3 := by
      have := length_putF ("said" : Str) (.ref ps) fl2
      omega
    generalize putF ("said" : Str) (.ref ps) fl2 = fl3 at *
    generalize upd H3 x (.ins (He.ga K "Facts") dx fl3) = G3 at *
    clear ix3 e3 sm3 hps x2 b2 ixH
    -- steps
    refine ⟨.ref x, rfl, x, _, dx, fl3, _, rfl, x3, T.cF, T.nF_places, k2, .ref x, rfl, x, _, dx, fl3, _, rfl, x3, T.cF, T.nF_said, k3, pl, ps, z, xs, fs, rfl, hP, hps3, hdf3, hok, hfl, l2, fun st H4 ys Ls hst sm4 e4 hda hLl hLs => ⟨.ref x, rfl, x, _, dx, _, rfl, sm4 _ _ x3, T.cF, T.nF_steps, by omega, ?_⟩⟩
    have ix4 : Ix H4 (upd H4 x (.ins (He.ga K "Facts") dx (putF "steps" (.ref st) fl3))) := .of_but (sm4 _ _ x3) But.upd
    have hst4 : SqL K (upd H4 x (.ins (He.ga K "Facts") dx (putF "steps" (.ref st) fl3))) st ys := sqL_ix ix4 (.inl (.inl e4))
    replace hda := dpAll_ix ix4 hda
    replace hP := (hP.same sm4).ix ix4
    replace n1 := sqL_ix ix4 (sqL_same sm4 n1)
    have b4 : But x H (upd H4 x (.ins (He.ga K "Facts") dx (putF "steps" (.ref st) fl3))) := (b3.trans (But.of_same sm4)).trans But.upd
    have x4 : (upd H4 x (.ins (He.ga K "Facts") dx (putF "steps" (.ref st) fl3))) x = _ := upd_same
    have k4 : (putF ("steps" : Str) (.ref st) fl3).lookup ("steps" : Str) = some (.ref st) := lkS
    replace k1 : (putF ("steps" : Str) (.ref st) fl3).lookup ("names" : Str) = some (.ref pn) := by rw [lkN (by decide)]; exact k1
    replace k2 : (putF ("steps" : Str) (.ref st) fl3).lookup ("places" : Str) = some (.ref pl) := by rw [lkN (by decide)]; exact k2
    replace f1 : (putF ("steps" : Str) (.ref st) fl3).length ≤ 4 := by
      have := length_putF ("steps" : Str) (.ref st) fl3
      omega
    generalize putF ("steps" : Str) (.ref st) fl3 = fl4 at *
    generalize upd H4 x (.ins (He.ga K "Facts") dx fl4) = G4 at *
    clear ix4 e4 sm4 hst x3 b3 k3 hps3 hdf3
    -- masks
    have hyl : ys.length = 2 * z.length := by rw [dpAll_len hda, List.length_map, hLl]
    have hE : ∀ a b, stepR Ls a b ↔ edgeR z fs a b := fun a b => by
      constructor
      · rintro ⟨L, h1, h2⟩
        exact (hLs a L h1 b).mp h2
      · intro h
        have hlt : a < Ls.length := by
          have := (edge_lt hok h).1
          omega
        exact ⟨_, List.getElem?_eq_getElem hlt, (hLs a _ (List.getElem?_eq_getElem hlt) b).mpr h⟩
    refine ⟨.ref x, rfl, x, _, dx, fl4, _, rfl, x4, T.cF, T.nF_steps, k4, st, ys, rfl, .inl hst4, _, rfl, by omega, by omega, fun pm hpm => ?_⟩
    rw [hyl, Int.toNat_natCast]
    refine lc_it (walk_range (lo := 0) (n := 2 * z.length)) (fun i H' => Same G4 H' ∧ ∃ Ms : List Nat, H' pm = some (.lst (Ms.map fun (m : Nat) => V.int (m : Int))) ∧ Ms.length = i ∧ (∀ m ∈ Ms, m < 2 ^ 48) ∧ ∀ c m, Ms[c]? = some m → ∀ j, m.testBit j = true ↔ Reach (edgeR z fs) c j)
      ⟨same_upd hpm, [], upd_same, rfl, (fun _ h => absurd h List.not_mem_nil), fun c m h => by simp at h⟩ (fun _ _ _ _ => trivial) (fun i v H5 H6 hi pv yv => ?_) (fun H5 pv => ?_)
    · obtain ⟨sm, Ms, hMs, hMl, hMb, hMr⟩ := pv
      obtain ⟨rfl, hv⟩ := yv
      replace hv : v = .int ((0 : Int) + (i : Nat)) := hv
      rw [Int.zero_add] at hv
      subst hv
      refine ⟨rfl, .ref x, rfl, x, _, dx, fl4, _, rfl, sm _ _ x4, T.cF, T.nF_steps, k4, .int (i : Nat), rfl, st, i, ys, Ls, rfl, sqL_same sm hst4, dpAll_same sm hda, ?_, by omega, by omega, fun p H7 kvs cs hp sm7 e7 hkm hcs hlt => ?_⟩
      · intro L hL y hy
        obtain ⟨c, hc, e⟩ := List.mem_iff_getElem.mp hL
        have := (hLs c L (by rw [List.getElem?_eq_getElem hc, e]) y).mp hy
        have := (edge_lt hok this).2
        omega
      refine ⟨p, kvs, rfl, e7, fun q2 hq2 => ⟨q2, cs, rfl, .inl (.inl ?_), fun c hc => by have := hlt c hc; omega, ?_⟩⟩
      · rw [upd_same]
        have : kvs.map (fun kv => kV kv.1) = cs.map fun (c : Nat) => V.int (c : Int) := by
          have h := congrArg (List.map kV) hkm
          rw [List.map_map, List.map_map] at h
          exact h
        rw [this]
      have s8 := sm7.trans (same_upd (o := .lst (kvs.map fun kv => kV kv.1)) hq2)
      refine ⟨_, s8 _ _ hMs, ?_, same_mut (sm.trans s8) hpm, Ms ++ [bitsOf cs], ?_, ?_, ?_, ?_⟩
      · rw [List.length_map, hMl, sizeLine_eq]
        omega
      · rw [upd_same, List.map_append]
        rfl
      · rw [List.length_append, hMl]
        rfl
      · intro m hm
        rw [List.mem_append, List.mem_singleton] at hm
        rcases hm with h | rfl
        · exact hMb m h
        · exact Nat.lt_of_lt_of_le (bitsOf_lt hlt) (Nat.pow_le_pow_right (by decide) (by omega))
      · intro c m hc j
        by_cases hci : c < Ms.length
        · rw [List.getElem?_append_left hci] at hc
          exact hMr c m hc j
        · rw [List.getElem?_append_right (by omega)] at hc
          have e0 : c - Ms.length = 0 := by
            rcases Nat.eq_zero_or_pos (c - Ms.length) with h | h
            · exact h
            · rw [List.getElem?_eq_none (by simp; omega)] at hc
              cases hc
          rw [e0] at hc
          have em : bitsOf cs = m := by simpa using hc
          have ec : c = i := by omega
          subst em
          subst ec
          rw [bitsOf_bit, decide_eq_true_iff, hcs]
          exact ⟨Reach.mono fun a b => (hE a b).mp, Reach.mono fun a b => (hE a b).mpr⟩
    obtain ⟨sm5, Ms, hMs, hMl, hMb, hMr⟩ := pv
    refine ⟨.ref x, rfl, x, _, dx, _, rfl, sm5 _ _ x4, T.cF, T.nF_masks, by omega, ?_⟩
    have ix5 : Ix H5 (upd H5 x (.ins (He.ga K "Facts") dx (putF "masks" (.ref pm) fl4))) := .of_but (sm5 _ _ x4) But.upd
    have hM5 : SqL K (upd H5 x (.ins (He.ga K "Facts") dx (putF "masks" (.ref pm) fl4))) pm (Ms.map fun (m : Nat) => V.int (m : Int)) := sqL_ix ix5 (.inl (.inl hMs))
    replace hP := (hP.same sm5).ix ix5
    replace n1 := sqL_ix ix5 (sqL_same sm5 n1)
    have b5 : But x H (upd H5 x (.ins (He.ga K "Facts") dx (putF "masks" (.ref pm) fl4))) := (b4.trans (But.of_same sm5)).trans But.upd
    have x5 : (upd H5 x (.ins (He.ga K "Facts") dx (putF "masks" (.ref pm) fl4))) x = _ := upd_same
    have k5 : (putF ("masks" : Str) (.ref pm) fl4).lookup ("masks" : Str) = some (.ref pm) := lkS
    replace k1 : (putF ("masks" : Str) (.ref pm) fl4).lookup ("names" : Str) = some (.ref pn) := by rw [lkN (by decide)]; exact k1
    replace k2 : (putF ("masks" : Str) (.ref pm) fl4).lookup ("places" : Str) = some (.ref pl) := by rw [lkN (by decide)]; exact k2
    replace f1 : (putF ("masks" : Str) (.ref pm) fl4).length ≤ 5 := by
      have := length_putF ("masks" : Str) (.ref pm) fl4
      omega
    generalize putF ("masks" : Str) (.ref pm) fl4 = fl5 at *
    generalize upd H5 x (.ins (He.ga K "Facts") dx fl5) = G5 at *
    clear ix5 hMs sm5 hpm x4 b4 hst4 hda k4
    have hmok : MOk z fs Ms := ⟨hMl, hMb, hMr⟩
    have hMat : ∀ j, j < 2 * z.length → ∃ m, (Ms.map fun (m : Nat) => V.int (m : Int))[j]? = some (.int (m : Nat)) ∧ Ms[j]? = some m := fun j hj => by
      have e : Ms[j]? = some Ms[j] := List.getElem?_eq_getElem (by omega)
      exact ⟨Ms[j], by rw [List.getElem?_map, e]; rfl, e⟩
    -- no contradiction
    refine ⟨.ref x, rfl, x, _, dx, fl5, _, rfl, x5, T.cF, T.nF_masks, k5, pm, _, rfl, .inl hM5, 0, _, 2, _, rfl, rg2 ⟨(Ms.map fun (m : Nat) => V.int (m : Int)).length, by rw [List.length_map]; omega⟩, ?_⟩
    have en : ((Ms.map fun (m : Nat) => V.int (m : Int)).length + 1) / 2 = z.length := by rw [List.length_map]; omega
    refine for_it (walk_rangeC (lo := 0) (c := 2)) (fun i σ H' => H' = G5 ∧ ∃ c, σ = [some (V.ref x), some (V.ref ra), some (V.ref fa), c, none, none, none, none, none]) ⟨rfl, _, rfl⟩ (fun _ _ _ _ _ => trivial) (fun i v σ H6 H7 hi pv yv => ?_) (fun σ H6 pv => ?_)
    · obtain ⟨rfl, c, rfl⟩ := pv
      obtain ⟨rfl, hv⟩ := yv
      replace hi : i < z.length := by
        have : i < ((Ms.map fun (m : Nat) => V.int (m : Int)).length + 1) / 2 := hi
        rw [List.length_map] at this
        omega
      have hv' : v = .int ((2 * i : Nat) : Int) := by
        replace hv : v = .int ((0 : Int) + (i : Nat) * 2) := hv
        rw [hv, show (0 : Int) + (i : Nat) * 2 = ((2 * i : Nat) : Int) by omega]
      subst hv'
      obtain ⟨m1, em1, eq1⟩ := hMat (2 * i) (by omega)
      obtain ⟨m2, em2, eq2⟩ := hMat (2 * i + 1) (by omega)
      have ei : ((2 * i : Nat) : Int) + 1 = ((2 * i + 1 : Nat) : Int) := by omega
      refine ⟨.ref x, rfl, x, _, dx, fl5, _, rfl, x5, T.cF, T.nF_masks, k5, .int ((2 * i : Nat) : Int), rfl, pm, _, _, .int (m1 : Nat), rfl, rfl, hM5, atI_nat em1, .int ((2 * i : Nat) : Int), rfl, _, _, rfl, rfl, (m1 : Nat), ((2 * i + 1 : Nat) : Int), rfl, rfl, (show (0 : Int) ≤ _ by omega), _, 1, rfl, rfl, rfl, m1.testBit (2 * i + 1), congrArg V.bl (bit_eq m1 (2 * i + 1)), ?_⟩
      by_cases hb : m1.testBit (2 * i + 1) = true
      · rw [hb]
        refine iteT ?_
        have hb2 : m2.testBit (2 * i) = false := by
          cases e : m2.testBit (2 * i) with
          | false => rfl
          | true => exact absurd ⟨(hMr _ _ eq1 _).mp hb, (hMr _ _ eq2 _).mp e⟩ (hcon i)
        refine ⟨.ref x, rfl, x, _, dx, fl5, _, rfl, x5, T.cF, T.nF_masks, k5, .int ((2 * i : Nat) : Int), rfl, _, _, rfl, rfl, pm, _, ((2 * i + 1 : Nat) : Int), .int (m2 : Nat), rfl, rfl, hM5, atI_nat em2, .int ((2 * i : Nat) : Int), rfl, (m2 : Nat), ((2 * i : Nat) : Int), rfl, rfl, (show (0 : Int) ≤ _ by omega), _, 1, rfl, rfl, rfl, m2.testBit (2 * i), congrArg V.bl (bit_eq m2 (2 * i)), ?_⟩
        rw [hb2]
        exact iteF ⟨rfl, _, rfl⟩
      · rw [Bool.eq_false_iff.mpr hb]
        exact iteF (iteF ⟨rfl, _, rfl⟩)
    obtain ⟨rfl, c, rfl⟩ := pv
    -- forced
    refine ⟨.ref x, rfl, x, _, dx, fl5, _, rfl, x5, T.cF, T.nF_masks, k5, pm, _, rfl, .inl hM5, _, rfl, by rw [List.length_map]; omega, by rw [List.length_map]; omega, fun D2 hD => ?_⟩
    rw [List.length_map, hMl, Int.toNat_natCast]
    refine lc_it (walk_range (lo := 0) (n := 2 * z.length)) (fun i H' => Same H6 H' ∧ ∃ cs : List Nat, H' D2 = some (.lst (cs.map fun (m : Nat) => V.int (m : Int))) ∧ cs.length ≤ i ∧ ∀ c ∈ cs, c < 64)
      ⟨same_upd hD, [], upd_same, Nat.le_refl _, (fun _ h => absurd h List.not_mem_nil)⟩ (fun _ _ _ _ => trivial) (fun i v H7 H8 hi pv yv => ?_) (fun H7 pv => ?_)
    · obtain ⟨sm, cs, hcs, hcl, hcb⟩ := pv
      obtain ⟨rfl, hv⟩ := yv
      replace hv : v = .int ((0 : Int) + (i : Nat)) := hv
      rw [Int.zero_add] at hv
      subst hv
      obtain ⟨m1, em1, eq1⟩ := hMat (i ^^^ 1) (xor_lt hi)
      refine ⟨rfl, .ref x, rfl, x, _, dx, fl5, _, rfl, sm _ _ x5, T.cF, T.nF_masks, k5, .int (i : Nat), rfl, _, 1, rfl, rfl, pm, _, ((i ^^^ 1 : Nat) : Int), .int (m1 : Nat), rfl, congrArg V.int (nXor1 i), sqL_same sm hM5, atI_nat em1, .int (i : Nat), rfl, (m1 : Nat), (i : Nat), rfl, rfl, (show (0 : Int) ≤ _ by omega), _, 1, rfl, rfl, rfl, m1.testBit i, congrArg V.bl (bit_eq m1 i), ?_⟩
      by_cases hb : m1.testBit i = true
      · rw [hb]
        refine ⟨.int (i : Nat), rfl, _, hcs, ?_, same_mut sm hD, cs ++ [i], ?_, ?_, ?_⟩
        · rw [List.length_map, sizeLine_eq]
          omega
        · rw [upd_same, List.map_append]
          rfl
        · rw [List.length_append]
          exact Nat.succ_le_succ hcl
        · intro c hc
          rw [List.mem_append, List.mem_singleton] at hc
          rcases hc with h | rfl
          · exact hcb c h
          · omega
      · rw [Bool.eq_false_iff.mpr hb]
        exact ⟨sm, cs, hcs, by omega, hcb⟩
    obtain ⟨sm7, cs, hcs, hcl, hcb⟩ := pv
    refine ⟨D2, cs, rfl, .inl (.inl hcs), hcb, .ref x, rfl, x, _, dx, _, rfl, sm7 _ _ x5, T.cF, T.nF_forced, by omega, ?_⟩
    have ix7 : Ix H7 (upd H7 x (.ins (He.ga K "Facts") dx (putF "forced" (.int (bitsOf cs : Nat)) fl5))) := .of_but (sm7 _ _ x5) But.upd
    replace hM5 := sqL_ix ix7 (sqL_same sm7 hM5)
    replace hP := (hP.same sm7).ix ix7
    replace n1 := sqL_ix ix7 (sqL_same sm7 n1)
    have b7 : But x H (upd H7 x (.ins (He.ga K "Facts") dx (putF "forced" (.int (bitsOf cs : Nat)) fl5))) := (b5.trans (But.of_same sm7)).trans But.upd
    have x7 : (upd H7 x (.ins (He.ga K "Facts") dx (putF "forced" (.int (bitsOf cs : Nat)) fl5))) x = _ := upd_same
    replace k5 : (putF ("forced" : Str) (.int (bitsOf cs : Nat)) fl5).lookup ("masks" : Str) = some (.ref pm) := by rw [lkN (by decide)]; exact k5
    replace k1 : (putF ("forced" : Str) (.int (bitsOf cs : Nat)) fl5).lookup ("names" : Str) = some (.ref pn) := by rw [lkN (by decide)]; exact k1
    replace k2 : (putF ("forced" : Str) (.int (bitsOf cs : Nat)) fl5).lookup ("places" : Str) = some (.ref pl) := by rw [lkN (by decide)]; exact k2
    replace f1 : (putF ("forced" : Str) (.int (bitsOf cs : Nat)) fl5).length ≤ 6 := by
      have := length_putF ("forced" : Str) (.int (bitsOf cs : Nat)) fl5
      omega
    generalize putF ("forced" : Str) (.int (bitsOf cs : Nat)) fl5 = fl7 at *
    generalize upd H7 x (.ins (He.ga K "Facts") dx fl7) = G7 at *
    clear ix7 hcs sm7 hD x5 b5
    -- closed
    have hF : Fcts K G7 x z Ms := ⟨dx, fl7, pl, pm, x7, k2, hP, k5, hM5, hMl, hMb⟩
    refine ⟨.ref x, rfl, x, _, dx, fl7, _, rfl, x7, T.cF, T.nF_names, k1, pn, z, rfl, n1, l2, fun pc H8 cx gs hpc sm8 e8 hcd hcok hcx => ⟨pc, rfl, ⟨_, .inl (.inl e8)⟩, fun D3 hD3 => ?_⟩⟩
    refine lc_it (walk_list (xs := cx)) (fun i H' => Same H8 H' ∧ ∃ acc, H' D3 = some (.lst acc) ∧ acc.length ≤ i) ⟨same_upd hD3, [], upd_same, Nat.le_refl _⟩ (fun i H' _ p => .inl (.inl (p.1 _ _ e8))) (fun i v H9 H10 hi pv yv => ?_) (fun H9 pv => ?_)
    · obtain ⟨sm, acc, hacc, hal⟩ := pv
      obtain ⟨rfl, hv⟩ := yv
      obtain ⟨dd, hdd, hdv⟩ := dpAll_get hcd hv
      rw [List.getElem?_map] at hdd
      obtain ⟨g, hg1, hg2⟩ := Option.map_eq_some_iff.mp hdd
      subst hg2
      obtain ⟨t, rfl, ht⟩ := dp_eT hdv
      refine ⟨rfl, .ref x, rfl, .ref t, rfl, x, t, z, Ms, g, rfl, hF.same (sm8.trans sm), sqT_same sm ht, hcok _ (List.mem_of_getElem? hg1), fun b H11 sm11 => ⟨b, rfl, ?_⟩⟩
      cases b with
      | true =>
        refine ⟨.ref t, rfl, acc, sm11 _ _ hacc, by rw [sizeLine_eq]; omega, same_mut (sm.trans sm11) hD3, _, upd_same, ?_⟩
        rw [List.length_append]
        exact Nat.succ_le_succ hal
      | false => exact ⟨sm.trans sm11, acc, sm11 _ _ hacc, by omega⟩
    obtain ⟨sm9, acc, hacc, hal⟩ := pv
    have s9 := sm8.trans sm9
    refine ⟨.ref x, rfl, x, _, dx, _, rfl, s9 _ _ x7, T.cF, T.nF_closed, by omega, ?_⟩
    have ix9 : Ix H9 (upd H9 x (.ins (He.ga K "Facts") dx (putF "closed" (.ref D3) fl7))) := .of_but (s9 _ _ x7) But.upd
    refine q _ Ms ((b7.trans (But.of_same s9)).trans But.upd) ⟨dx, _, pl, pm, upd_same, ?_, (hP.same s9).ix ix9, ?_, sqL_ix ix9 (sqL_same s9 hM5), hMl, hMb⟩ hmok
    · rw [lkN (by decide)]
      exact k2
    · rw [lkN (by decide)]
      exact k5
end
end Cw
end
section
namespace Cw
open PySem PySem.Spec PyProof.Rows L2
/-- a row of deeds -/
def Rw (K : PySem.W.Frag) (H : Hp) (a : Addr) (ds : List (List Str)) : Prop := ∃ (dx : Addr) (fl : List (Str × V)) (l : Addr) (xs : List V), H a = some (.ins (He.ga K "Row") dx fl) ∧ fl.lookup ("line" : Str) = some (.ref l) ∧ SqT K H l xs ∧ DpAll K H xs (ds.map eT)
theorem Rw.same {K : PySem.W.Frag} {H H' : Hp} {a : Addr} {ds : List (List Str)} (h : Rw K H a ds) (s : Same H H') : Rw K H' a ds := by
  obtain ⟨dx, fl, l, xs, h1, h2, h3, h4⟩ := h
  exact ⟨dx, fl, l, xs, s _ _ h1, h2, sqT_same s h3, dpAll_same s h4⟩
/-- no attribute hides the method -/
def NoD (K : PySem.W.Frag) (H : Hp) (a : Addr) : Prop := ∃ (dx : Addr) (fl : List (Str × V)), H a = some (.ins (He.ga K "Row") dx fl) ∧ fl.lookup ("deeds" : Str) = none
theorem NoD.same {K : PySem.W.Frag} {H H' : Hp} {a : Addr} (h : NoD K H a) (s : Same H H') : NoD K H' a := by
  obtain ⟨dx, fl, h1, h2⟩ := h
  exact ⟨dx, fl, s _ _ h1, h2⟩
/-- the deeds of a line, one by one -/
theorem line_at {K : PySem.W.Frag} {H : Hp} {xs : List V} {ds : List (List Str)} (hd : DpAll K H xs (ds.map eT)) {i : Nat} {v : V} (h : xs[i]? = some v) : ∃ (hi : i < ds.length) (t : Addr), v = .ref t ∧ SqT K H t (ds[i].map V.str) := by
  obtain ⟨dd, h1, h2⟩ := dpAll_get hd h
  rw [List.getElem?_map] at h1
  obtain ⟨d, h3, h4⟩ := Option.map_eq_some_iff.mp h1
  subst h4
  obtain ⟨hi, e⟩ := List.getElem?_eq_some_iff.mp h3
  obtain ⟨t, rfl, h5⟩ := dp_eT h2
  exact ⟨hi, t, rfl, e ▸ h5⟩
theorem line_to {K : PySem.W.Frag} {H : Hp} {xs : List V} {ds : List (List Str)} (hd : DpAll K H xs (ds.map eT)) {i : Nat} (hi : i < ds.length) : ∃ t : Addr, xs[i]? = some (.ref t) ∧ SqT K H t (ds[i].map V.str) := by
  obtain ⟨v, h1, h2⟩ := dpAll_at hd (i := i) (d := eT ds[i]) (by rw [List.getElem?_map, List.getElem?_eq_getElem hi]; rfl)
  obtain ⟨t, rfl, h5⟩ := dp_eT h2
  exact ⟨t, h1, h5⟩
/-- an exception's own __init__ -/
structure Ini (P : Program) (w : World) (K : PySem.W.Frag) (mg : Str → Option Value) (base : Heap) (C : Str) (f : Str) : Prop where
  ex : ∃ fd ps, FnOk P w K mg base CX0 1 (He.ma K (He.ga K C) "__init__") fd ps (spIni K f) ∧ Binds K fd ps []
/-- how an index may look; the number that it is -/
inductive IxV (K : PySem.W.Frag) (H : Hp) (n : Nat) : V → Option Nat → Prop
  | ok (k : Nat) (h : k < n) : IxV K H n (.int (k : Nat)) (some k)
  | int (i : Int) (h : ¬ (0 ≤ i ∧ i < n)) : IxV K H n (.int i) none
  | bl (b : Bool) : IxV K H n (.bl b) none
  | non : IxV K H n .non none
  | str (z : Str) : IxV K H n (.str z) none
  | lst (a : Addr) (xs : List V) (h : SqL K H a xs) : IxV K H n (.ref a) none
theorem IxV.same {K : PySem.W.Frag} {H H' : Hp} {n : Nat} {v : V} {o : Option Nat} (h : IxV K H n v o) (s : Same H H') : IxV K H' n v o := by
  cases h with
  | ok k h => exact .ok k h
  | int i h => exact .int i h
  | bl b => exact .bl b
  | non => exact .non
  | str z => exact .str z
  | lst a xs h => exact .lst a xs (sqL_same s h)
/-- deeds that are neither put nor wipe -/
def bad (d : List Str) : Bool := !(decide (d.head? = some "put") || decide (d.head? = some "wipe"))
def badAt (ds : List (List Str)) : Option Nat := ds.findIdx? bad
def unk (z : List Str) (ds : List (List Str)) : Option Str := (ds.map reg).find? fun x => !decide (x ∈ z)
section
variable {P : Program} {w : World} {K : PySem.W.Frag} {mg : Str → Option Value} {base : Heap}
theorem ini_deed (D : Mtd K (He.ga K "InvalidDeed") "__init__" "InvalidDeed.__init__" s_InvalidDeed_init ["self", "index"]) (T : Txt K mg w) : Ini P w K mg base "InvalidDeed" "index" := by
  obtain ⟨fd, F, bd⟩ := D.ex
  refine ⟨fd, _, F.ok sc_InvalidDeed_init (fun vs H Q E h => ?_) (fun cdv A outer s H vs Q E hr h => ?_), bd⟩
  · obtain ⟨a, C, v, rfl, _⟩ := h
    rfl
  · obtain ⟨a, C, v, rfl, oc, no, ha, q⟩ := h
    have nd := sc_InvalidDeed_init.nd
    refine ⟨_, (pss_cons (ps_expr (pe_cinit rfl T.g_CoatError T.base (pa_cons (pv 0) (pa_cons pe_str pa_nil))))
    (pss_one (ps_ost (pv 0) (pv 1)))), ?_⟩
    refine ⟨.ref a, rfl, a, C, _, rfl, (show 1 ≤ 1000 by decide), oc, ha, v, rfl, .ref a, rfl, a, C, rfl, oc, no, .inl ⟨ha, fun dx h1 h2 => q dx h1 h2⟩⟩
theorem ini_number (D : Mtd K (He.ga K "InvalidNumber") "__init__" "InvalidNumber.__init__" s_InvalidNumber_init ["self", "number"]) (T : Txt K mg w) : Ini P w K mg base "InvalidNumber" "number" := by
  obtain ⟨fd, F, bd⟩ := D.ex
  refine ⟨fd, _, F.ok sc_InvalidNumber_init (fun vs H Q E h => ?_) (fun cdv A outer s H vs Q E hr h => ?_), bd⟩
  · obtain ⟨a, C, v, rfl, _⟩ := h
    rfl
  · obtain ⟨a, C, v, rfl, oc, no, ha, q⟩ := h
    have nd := sc_InvalidNumber_init.nd
    refine ⟨_, (pss_cons (ps_expr (pe_cinit rfl T.g_CoatError T.base (pa_cons (pv 0) (pa_cons pe_str pa_nil))))
    (pss_one (ps_ost (pv 0) (pv 1)))), ?_⟩
    refine ⟨.ref a, rfl, a, C, _, rfl, (show 1 ≤ 1000 by decide), oc, ha, v, rfl, .ref a, rfl, a, C, rfl, oc, no, .inl ⟨ha, fun dx h1 h2 => q dx h1 h2⟩⟩
theorem ini_region (D : Mtd K (He.ga K "UnknownRegion") "__init__" "UnknownRegion.__init__" s_UnknownRegion_init ["self", "region"]) (T : Txt K mg w) : Ini P w K mg base "UnknownRegion" "region" := by
  obtain ⟨fd, F, bd⟩ := D.ex
  refine ⟨fd, _, F.ok sc_UnknownRegion_init (fun vs H Q E h => ?_) (fun cdv A outer s H vs Q E hr h => ?_), bd⟩
  · obtain ⟨a, C, v, rfl, _⟩ := h
    rfl
  · obtain ⟨a, C, v, rfl, oc, no, ha, q⟩ := h
    have nd := sc_UnknownRegion_init.nd
    refine ⟨_, (pss_cons (ps_expr (pe_cinit rfl T.g_CoatError T.base (pa_cons (pv 0) (pa_cons pe_str pa_nil))))
    (pss_one (ps_ost (pv 0) (pv 1)))), ?_⟩
    refine ⟨.ref a, rfl, a, C, _, rfl, (show 1 ≤ 1000 by decide), oc, ha, v, rfl, .ref a, rfl, a, C, rfl, oc, no, .inl ⟨ha, fun dx h1 h2 => q dx h1 h2⟩⟩
def spRInit (K : PySem.W.Frag) : Sp := fun vs H Q _ => ∃ (x dx da : Addr) (xs : List V) (ds : List (List Str)), vs = [.ref x, .ref da] ∧ H x = some (.ins (He.ga K "Row") dx []) ∧ SqL K H da xs ∧ DpAll K H xs (ds.map eT) ∧ ds.length ≤ 30 ∧ (∀ d ∈ ds, DeedOk d) ∧
  ∀ H', But x H H' → Rw K H' x ds → NoD K H' x → Q .non H'
theorem ok_rinit (D : Mtd K (He.ga K "Row") "__init__" "Row.__init__" s_Row_init ["self", "deeds"]) (T : Txt K mg w) (c_is_deed : C8.Cal P w K mg base 2 "is_deed" (spIsDeed K) []) : C8.Mak P w K mg base 3 "Row" (He.ga K "Row") (spRInit K) [] := by
  obtain ⟨fd, F, bd⟩ := D.ex
  refine ⟨_, fd, _, [], T.mkR, F.ok sc_Row_init (fun vs H Q E h => ?_) (fun cdv A outer s H vs Q E hr h => ?_), T.g_Row, bd, .nil⟩
  · obtain ⟨x, dx, da, xs, ds, rfl, _⟩ := h
    rfl
  · obtain ⟨x, dx, da, xs, ds, rfl, hx, hs, hd, hl, hok, q⟩ := h
    have nd := sc_Row_init.nd
    have hlx : xs.length = ds.length := by rw [dpAll_len hd, List.length_map]
    refine ⟨_, (pss_cons (ps_if (PW.pt (pw_or (pt_not (pt_val (pe_callB call_isi (by rfl) T.b_isinstance (by decide +kernel) (pa_cons (pv 1) (pa_cons (pe_bltn (v := .ty "list") (u := .type "list") rfl T.b_list (by decide +kernel) rfl) pa_nil))))) (pw_or1 (pt_cmpR op_gt (pe_callB call_len_seq (by rfl) T.b_len boot_len (pa_cons (pv 1) pa_nil)) (pe_kI T.k_MOST_DEEDS rfl) (nomark _)))))
      (pss_one ps_never)
      pss_nil)
    (pss_cons (ps_for PassesOwn.never rfl (pi_enum (by rfl) T.b_enumerate (pa_cons (pv 1) pa_nil)) (pg_tup (n := 2) rfl (pgs_cons (pg_name (i := 2) nd rfl (.inl rfl)) (pgs_cons (pg_name (i := 3) nd rfl (.inl rfl)) pgs_nil)))
      (pss_one (ps_if (pt_not (pt_val (C8.pe_c c_is_deed hr (by decide) rfl (pa_cons (pv 3) pa_nil))))
        (pss_one ps_never)
        pss_nil)))
    (pss_one (ps_fld (pv 0) (pe_callTy call_tuple_of (by rfl) T.b_tuple (by decide +kernel) (pa_cons (pv 1) pa_nil)) rfl)))), ?_⟩
    refine ⟨.ref da, rfl, .ref da, .ty "list", _, _, true, rfl, .ty "list", tyLst hs, kit_ty (by decide +kernel), true, rfl, ?_⟩
    refine iteF ⟨.ref da, rfl, da, _, rfl, .inl hs, _, 30, rfl, rfl, false, bf (by omega), iteF ?_⟩
    refine ⟨.ref da, rfl, da, _, rfl, hs, for_it (walk_enum (xs := xs)) (fun i σ H' => Same H H' ∧ ∃ u v, σ = [some (V.ref x), some (V.ref da), u, v]) ⟨Same.refl _, _, _, rfl⟩ (fun i σ H' _ p => sqL_same p.1 hs) (fun i v σ H1 H2 hi p y => ?_) (fun σ H1 p => ?_)⟩
    · obtain ⟨sm, u0, v0, rfl⟩ := p
      obtain ⟨t, _, vx, rfl, hnt, rfl, hx1, hx2⟩ := y
      cases hx1
      obtain ⟨hi2, b, rfl, hb⟩ := line_at hd hx2
      have sm2 := sm.trans (same_upd (o := .tup [.int (i : Nat), .ref b]) hnt)
      refine ⟨t, _, rfl, .inl (.inl upd_same), rfl, .int (i : Nat), _, rfl, _, _, rfl, rfl, ?_⟩
      exact ⟨.ref b, rfl, b, ds[i], rfl, sqT_same sm2 hb, hok _ (List.getElem_mem hi2), fun H3 sm3 => ⟨true, rfl, iteF ⟨sm2.trans sm3, _, _, rfl⟩⟩⟩
    · obtain ⟨sm, u0, v0, rfl⟩ := p
      refine ⟨.ref da, rfl, da, xs, rfl, .inl ⟨sqL_same sm hs, fun l hl => ?_⟩⟩
      have s2 := sm.trans (same_upd (o := .tup xs) hl)
      refine ⟨.ref x, rfl, x, _, dx, _, rfl, s2 _ _ hx, T.cR, T.nR_line, (show 0 < 1000 by decide), ?_⟩
      have ix : Ix (upd H1 l (.tup xs)) (upd (upd H1 l (.tup xs)) x (.ins (He.ga K "Row") dx (putF "line" (.ref l) []))) := .of_but (s2 _ _ hx) But.upd
      exact q _ ((But.of_same s2).trans But.upd) ⟨dx, _, l, xs, upd_same, lkS, sqT_ix ix (.inl (.inl upd_same)), dpAll_ix ix (dpAll_same s2 hd)⟩ ⟨dx, _, upd_same, by rw [lkN (by decide)]; rfl⟩
def spDeeds (K : PySem.W.Frag) : Sp := fun vs H Q _ => ∃ (x : Addr) (ds : List (List Str)), vs = [.ref x] ∧ Rw K H x ds ∧ ∀ (p : Addr) (H' : Hp) (xs : List V), H p = none → Same H H' → H' p = some (.lst xs) → DpAll K H' xs (ds.map eT) → Q (.ref p) H'
theorem ok_deeds (D : Mtd K (He.ga K "Row") "deeds" "Row.deeds" s_Row_deeds ["self"]) (T : Txt K mg w) : C8.Met P w K mg base 1 (He.ga K "Row") "deeds" (spDeeds K) [] := by
  obtain ⟨fd, F, bd⟩ := D.ex
  refine ⟨_, fd, _, [], T.cR, T.meD, F.ok sc_Row_deeds (fun vs H Q E h => ?_) (fun cdv A outer s H vs Q E hr h => ?_), bd, .nil⟩
  · obtain ⟨x, ds, rfl, _⟩ := h
    rfl
  · obtain ⟨x, ds, rfl, ⟨dx, fl, l, xs, h1, h2, h3, h4⟩, q⟩ := h
    have nd := sc_Row_deeds.nd
    refine ⟨_, (pss_one (ps_ret (pe_callTy call_list_of (by rfl) T.b_list (by decide +kernel) (pa_cons (pe_fld (pv 0) rfl) pa_nil)))), ?_⟩
    exact ⟨.ref x, rfl, x, _, dx, fl, _, rfl, h1, T.cR, T.nR_line, h2, l, xs, rfl, .inr h3, fun p hp => q p _ xs hp (same_upd hp) upd_same (dpAll_same (same_upd hp) h4)⟩
def spLen (K : PySem.W.Frag) : Sp := fun vs H Q _ => ∃ (x : Addr) (ds : List (List Str)), vs = [.ref x] ∧ Rw K H x ds ∧ Q (.int (ds.length : Nat)) H
/-- len of a row -/
structure LenR (P : Program) (w : World) (K : PySem.W.Frag) (mg : Str → Option Value) (base : Heap) : Prop where
  ex : ∃ fd ps, FnOk P w K mg base CX0 1 (He.ma K (He.ga K "Row") "__len__") fd ps (spLen K) ∧ Binds K fd ps []
theorem ok_len (D : Mtd K (He.ga K "Row") "__len__" "Row.__len__" s_Row_len ["self"]) (T : Txt K mg w) : LenR P w K mg base := by
  obtain ⟨fd, F, bd⟩ := D.ex
  refine ⟨fd, _, F.ok sc_Row_len (fun vs H Q E h => ?_) (fun cdv A outer s H vs Q E hr h => ?_), bd⟩
  · obtain ⟨x, ds, rfl, _⟩ := h
    rfl
  · obtain ⟨x, ds, rfl, ⟨dx, fl, l, xs, h1, h2, h3, h4⟩, q⟩ := h
    have nd := sc_Row_len.nd
    refine ⟨_, (pss_one (ps_ret (pe_callB call_len_seq (by rfl) T.b_len boot_len (pa_cons (pe_fld (pv 0) rfl) pa_nil)))), ?_⟩
    refine ⟨.ref x, rfl, x, _, dx, fl, _, rfl, h1, T.cR, T.nR_line, h2, l, xs, rfl, .inr h3, ?_⟩
    rw [dpAll_len h4, List.length_map]
    exact q
def spIndex (K : PySem.W.Frag) : Sp := fun vs H Q E => ∃ (v : V) (n : Nat) (o : Option Nat), vs = [v, .int (n : Nat)] ∧ IxV K H n v o ∧ (o.isSome = true → Q v H) ∧ (o = none → ∀ d, H d = none → E (.ref (He.ga K "InvalidNumber")) (some d) (upd H d (.xd [("number", v)])))
theorem ok_index (D : Dfn K mg "checked_index" s_checked_index ["index", "many"]) (T : Txt K mg w) (I : Ini P w K mg base "InvalidNumber" "number") : CalX P w K mg base 3 "checked_index" (spIndex K) := by
  obtain ⟨fi, pi, Fi, bi⟩ := I.ex
  refine calX_of D sc_checked_index (fun vs H Q E h => ?_) (fun cdv A outer s H vs Q E f hr h => ?_)
  · obtain ⟨v, n, o, rfl, _⟩ := h
    rfl
  · obtain ⟨v, n, o, rfl, ix, q, e⟩ := h
    have nd := sc_checked_index.nd
    refine ⟨_, (pss_cons (ps_if (PW.pt (pw_or (pt_not (pt_val (pe_callB call_isi (by rfl) T.b_isinstance (by decide +kernel) (pa_cons (pv 0) (pa_cons (pe_bltn (v := .ty "int") (u := .type "int") rfl T.b_int (by decide +kernel) rfl) pa_nil))))) (pw_or (pt_val (pe_callB call_isi (by rfl) T.b_isinstance (by decide +kernel) (pa_cons (pv 0) (pa_cons (pe_bltn (v := .ty "bool") (u := .type "bool") rfl T.b_bool (by decide +kernel) rfl) pa_nil)))) (pw_or1 (pt_not (pt_chain op_le op_lt pe_int (pv 0) (pv 1)))))))
      (pss_one (ps_rz rfl T.ox_InvalidNumber T.in_InvalidNumber T.ty_InvalidNumber Fi hr bi rfl T.g_InvalidNumber (takes_of rfl rfl rfl rfl) (pv 0)))
      pss_nil)
    (pss_one (ps_ret (pv 0)))), ?_⟩
    have rz : o = none → ∀ σ, rzK K (fun cls d _ H => E cls d H) (He.ga K "InvalidNumber") "number" σ v H := fun h0 σ => rz_of T.ox_InvalidNumber T.no_InvalidNumber fun d hd => e h0 d hd
    cases ix with
    | ok k h =>
      refine ⟨_, rfl, _, .ty "int", _, _, true, rfl, .ty "int", .base (.int _), kit_ty (by decide +kernel), true, rfl, iteF ?_⟩
      refine ⟨_, rfl, _, .ty "bool", _, _, false, rfl, .ty "bool", .base (.int _), kit_ty (by decide +kernel), false, rfl, iteF ?_⟩
      refine ⟨_, rfl, 0, _, rfl, rfl, true, bt (by omega), iteT ⟨_, rfl, _, _, rfl, rfl, true, bt (by omega), iteF ⟨_, rfl, q rfl⟩⟩⟩
    | int i h =>
      refine ⟨_, rfl, _, .ty "int", _, _, true, rfl, .ty "int", .base (.int _), kit_ty (by decide +kernel), true, rfl, iteF ?_⟩
      refine ⟨_, rfl, _, .ty "bool", _, _, false, rfl, .ty "bool", .base (.int _), kit_ty (by decide +kernel), false, rfl, iteF ?_⟩
      by_cases h0 : 0 ≤ i
      · refine ⟨_, rfl, 0, _, rfl, rfl, true, bt h0, iteT ⟨_, rfl, _, _, rfl, rfl, false, bf (fun z => h ⟨h0, z⟩), iteT ⟨_, rfl, rz rfl _⟩⟩⟩
      · exact ⟨_, rfl, 0, _, rfl, rfl, false, bf h0, iteF ⟨_, rfl, iteT ⟨_, rfl, rz rfl _⟩⟩⟩
    | bl b =>
      refine ⟨_, rfl, _, .ty "int", _, _, true, rfl, .ty "int", .base (.bl _), kit_ty (by decide +kernel), true, rfl, iteF ?_⟩
      exact ⟨_, rfl, _, .ty "bool", _, _, true, rfl, .ty "bool", .base (.bl _), kit_ty (by decide +kernel), true, rfl, iteT (iteT ⟨_, rfl, rz rfl _⟩)⟩
    | non => exact ⟨_, rfl, _, .ty "int", _, _, false, rfl, .ty "int", .base .non, kit_ty (by decide +kernel), false, rfl, iteT (iteT ⟨_, rfl, rz rfl _⟩)⟩
    | str z => exact ⟨_, rfl, _, .ty "int", _, _, false, rfl, .ty "int", .base (.str _), kit_ty (by decide +kernel), false, rfl, iteT (iteT ⟨_, rfl, rz rfl _⟩)⟩
    | lst a xs h => exact ⟨_, rfl, _, .ty "int", _, _, false, rfl, .ty "int", tyLst h, kit_ty (by decide +kernel), false, rfl, iteT (iteT ⟨_, rfl, rz rfl _⟩)⟩
end
end Cw
end
section
namespace Cw
open PySem PySem.Spec PyProof.Rows L2
theorem deed_cons {d : List Str} (h : DeedOk d) : ∃ k r, d = k :: r := by
  obtain ⟨k, r, e, _⟩ := h
  exact ⟨k, r, e⟩
/-- the masks by claims -/
def cm (z : List Str) (Ms : List Nat) (d : List Str) (b : Bool) : Nat := Ms.getD (2 * z.idxOf (reg d) + if b then 1 else 0) 0
/-- the first places of regions behind k, n places looked at -/
def fsts (ds : List (List Str)) (k : Nat) : Nat → List (Str × Nat)
  | 0 => []
  | n + 1 => if reg (ds.getD (k + 1 + n) []) ∈ (fsts ds k n).map (·.1) then fsts ds k n else fsts ds k n ++ [(reg (ds.getD (k + 1 + n) []), k + 1 + n)]
def later (ds : List (List Str)) (k : Nat) : List Nat := (fsts ds k (ds.length - (k + 1))).map (·.2)
def one1 (z : List Str) (Ms : List Nat) (ds : List (List Str)) (k j : Nat) : Option (List Nat) := if clsh (cm z Ms (ds.getD k []) true ||| cm z Ms (ds.getD j []) false) = true then some [j] else none
def two2 (z : List Str) (Ms : List Nat) (ds : List (List Str)) (p o : Nat) : Option (List Nat) := if p < o ∧ clsh (cm z Ms (ds.getD p []) false ||| cm z Ms (ds.getD o []) false) = true then some [p, o] else none
def covM (z : List Str) (Ms : List Nat) (ds : List (List Str)) (k : Nat) : Option (List Nat) :=
  if clsh (cm z Ms (ds.getD k []) true) = true then some [] else ((later ds k).findSome? (one1 z Ms ds k)).or ((later ds k).findSome? fun p => (later ds k).findSome? (two2 z Ms ds p))
/-- an answer of covers: None, or a new list -/
def AnsV (H H' : Hp) (v : V) (o : Option (List Nat)) : Prop := match o with
  | none => v = .non ∧ Same H H'
  | some l => ∃ p, v = .ref p ∧ H p = none ∧ Same H H' ∧ H' p = some (.lst (l.map fun (x : Nat) => V.int (x : Int)))
theorem fS_hit {α β : Type} {l : List α} {f : α → Option β} {i : Nat} (hi : i < l.length) {b : β} (h0 : (l.take i).findSome? f = none) (h : f l[i] = some b) : l.findSome? f = some b := by
  have e : l.findSome? f = (l.take i ++ (l[i] :: l.drop (i + 1))).findSome? f := by rw [← List.drop_eq_getElem_cons hi, List.take_append_drop]
  rw [e, List.findSome?_append, h0, List.findSome?_cons, h]
  rfl
theorem fS_more {α β : Type} {l : List α} {f : α → Option β} {i : Nat} (hi : i < l.length) (h0 : (l.take i).findSome? f = none) (h : f l[i] = none) : (l.take (i + 1)).findSome? f = none := by
  rw [← List.take_append_getElem hi, List.findSome?_append, h0]
  simp [List.findSome?_cons, h]
section
variable {P : Program} {w : World} {K : PySem.W.Frag} {mg : Str → Option Value} {base : Heap}
def spKinds (K : PySem.W.Frag) : Sp := fun vs H Q E => ∃ (r kk : Addr) (ds : List (List Str)), vs = [.ref r, .ref kk] ∧ Rw K H r ds ∧ SqT K H kk [.str "put", .str "wipe"] ∧ (∀ d ∈ ds, DeedOk d) ∧
  (badAt ds = none → ∀ H', Same H H' → Q .non H') ∧ ∀ i, badAt ds = some i → ∀ d H', Same H H' → H' d = none → E (.ref (He.ga K "InvalidDeed")) (some d) (upd H' d (.xd [("index", .int (i : Nat))]))
theorem ok_kinds (D : Dfn K mg "check_kinds" s_check_kinds ["row", "kinds"]) (T : Txt K mg w) (I : Ini P w K mg base "InvalidDeed" "index") : CalX P w K mg base 3 "check_kinds" (spKinds K) := by
  obtain ⟨fi, pi, Fi, bi⟩ := I.ex
  refine calX_of D sc_check_kinds (fun vs H Q E h => ?_) (fun cdv A outer s H vs Q E f hr h => ?_)
  · obtain ⟨r, kk, ds, rfl, _⟩ := h
    rfl
  · obtain ⟨r, kk, ds, rfl, ⟨dx, fl, l, xs, h1, h2, h3, h4⟩, ht, hok, q, e⟩ := h
    have nd := sc_check_kinds.nd
    have hlx : xs.length = ds.length := by rw [dpAll_len h4, List.length_map]
    refine ⟨_, (pss_one (ps_for (passes_of rfl) rfl (pi_enumT (by rfl) T.b_enumerate (pa_cons (pe_fld (pv 0) rfl) pa_nil)) (pg_tup (n := 2) rfl (pgs_cons (pg_name (i := 2) nd rfl (.inl rfl)) (pgs_cons (pg_name (i := 3) nd rfl (.inl rfl)) pgs_nil)))
      (pss_one (ps_if (pt_cmpR op_notIn_seq (pe_ix ix_tup (pv 3) pe_int (fun _ _ => rfl)) (pv 1) rfl)
        (pss_one (ps_rz rfl T.ox_InvalidDeed T.in_InvalidDeed T.ty_InvalidDeed Fi hr bi rfl T.g_InvalidDeed (takes_of rfl rfl rfl rfl) (pv 2)))
        pss_nil)))), ?_⟩
    refine ⟨.ref r, rfl, r, _, dx, fl, _, rfl, h1, T.cR, T.nR_line, h2, l, xs, rfl, h3, for_it (walk_enumT (xs := xs)) (fun i σ H' => Same H H' ∧ (∀ j (hj : j < ds.length), j < i → bad ds[j] = false) ∧ ∃ u v, σ = [some (V.ref r), some (V.ref kk), u, v]) ⟨Same.refl _, fun j hj h => absurd h (by omega), _, _, rfl⟩ (fun i σ H' _ p => sqT_same p.1 h3) (fun i v σ H1 H2 hi p y => ?_) (fun σ H1 p => ?_)⟩
    · obtain ⟨sm, hb, u0, v0, rfl⟩ := p
      obtain ⟨t, _, vx, rfl, hnt, rfl, hx1, hx2⟩ := y
      cases hx1
      obtain ⟨hi2, b, rfl, hbt⟩ := line_at h4 hx2
      have sm2 := sm.trans (same_upd (o := .tup [.int (i : Nat), .ref b]) hnt)
      obtain ⟨k, rr, hkr, hkind, _⟩ := hok _ (List.getElem_mem hi2)
      have hkr' : ds[i].map V.str = (k :: rr).map V.str := by rw [hkr]
      rw [hkr'] at hbt
      have hbad : bad ds[i] = !(decide (k = "put") || decide (k = "wipe")) := by
        rw [hkr]
        simp [bad]
      refine ⟨t, _, rfl, .inl (.inl upd_same), rfl, .int (i : Nat), _, rfl, _, _, rfl, rfl, ?_⟩
      refine ⟨.ref b, rfl, b, _, 0, .str k, rfl, rfl, sqT_same sm2 hbt, atI_nat (j := 0) rfl, .ref kk, rfl, kk, _, rfl, .inr (sqT_same sm2 ht), rfl, rfl, bad ds[i], ?_, ?_⟩
      · show V.bl (!inV (.str k) ((["put", "wipe"] : List Str).map V.str)) = _
        rw [inV_str, hbad]
        simp
      cases hbd : bad ds[i] with
      | true =>
        refine iteT ⟨.int (i : Nat), rfl, rz_of T.ox_InvalidDeed T.no_InvalidDeed fun d hd => e i ?_ d _ sm2 hd⟩
        exact List.findIdx?_eq_some_iff_getElem.mpr ⟨hi2, hbd, fun j hj => by rw [hb j (by omega) hj]; decide⟩
      | false =>
        refine iteF ⟨sm2, fun j hj hji => ?_, _, _, rfl⟩
        by_cases h : j < i
        · exact hb j hj h
        · have : j = i := by omega
          subst this
          exact hbd
    · obtain ⟨sm, hb, u0, v0, rfl⟩ := p
      refine q (List.findIdx?_eq_none_iff.mpr fun d hd => ?_) _ sm
      obtain ⟨j, hj, e⟩ := List.mem_iff_getElem.mp hd
      rw [← e]
      exact hb j hj (by omega)
theorem good_head {d : List Str} (h : bad d = false) : d.head? = some "put" ∨ d.head? = some "wipe" := by
  unfold bad at h
  rw [Bool.not_eq_false', Bool.or_eq_true, decide_eq_true_iff, decide_eq_true_iff] at h
  exact h
def spKnown (K : PySem.W.Frag) : Sp := fun vs H Q E => ∃ (p r : Addr) (z : List Str) (ds : List (List Str)), vs = [.ref p, .ref r] ∧ Plc H p z ∧ Rw K H r ds ∧ (∀ d ∈ ds, bad d = false) ∧
  (unk z ds = none → Q .non H) ∧ ∀ x, unk z ds = some x → ∀ d, H d = none → E (.ref (He.ga K "UnknownRegion")) (some d) (upd H d (.xd [("region", .str x)]))
theorem ok_known (D : Dfn K mg "check_known" s_check_known ["places", "row"]) (T : Txt K mg w) (c_region_of : C8.Cal P w K mg base 1 "region_of" (spRegionOf K) []) (I : Ini P w K mg base "UnknownRegion" "region") : CalX P w K mg base 3 "check_known" (spKnown K) := by
  obtain ⟨fi, pi, Fi, bi⟩ := I.ex
  refine calX_of D sc_check_known (fun vs H Q E h => ?_) (fun cdv A outer s H vs Q E f hr h => ?_)
  · obtain ⟨p, r, z, ds, rfl, _⟩ := h
    rfl
  · obtain ⟨p, r, z, ds, rfl, hp, ⟨dx, fl, l, xs, h1, h2, h3, h4⟩, hok, q, e⟩ := h
    have nd := sc_check_known.nd
    have hlx : xs.length = ds.length := by rw [dpAll_len h4, List.length_map]
    refine ⟨_, (pss_one (ps_for (passes_of rfl) rfl (pi_tup (pe_fld (pv 1) rfl)) (pg_name (i := 2) nd rfl (.inl rfl))
      (pss_one (ps_if (PW.pt (pw_and (pt_cmpR op_ne (pe_ix ix_tup (pv 2) pe_int (fun _ _ => rfl)) pe_str (nomark _)) (pw_and1 (pt_cmp (pc_dnotin (hu_of hr) (C8.pe_c c_region_of hr (by decide) rfl (pa_cons (pv 2) pa_nil)) (pv 0))))))
        (pss_one (ps_rz rfl T.ox_UnknownRegion T.in_UnknownRegion T.ty_UnknownRegion Fi hr bi rfl T.g_UnknownRegion (takes_of rfl rfl rfl rfl) (C8.pe_c c_region_of hr (by decide) rfl (pa_cons (pv 2) pa_nil))))
        pss_nil)))), ?_⟩
    refine ⟨.ref r, rfl, r, _, dx, fl, _, rfl, h1, T.cR, T.nR_line, h2, l, rfl, ⟨xs, h3⟩, for_it (walk_tup (xs := xs)) (fun i σ H' => H' = H ∧ (∀ j (hj : j < ds.length), j < i → reg ds[j] ∈ z) ∧ ∃ u, σ = [some (V.ref p), some (V.ref r), u]) ⟨rfl, fun j hj h => absurd h (by omega), _, rfl⟩ (fun i σ H' _ p => p.1 ▸ h3) (fun i v σ H1 H2 hi pv y => ?_) (fun σ H1 pv => ?_)⟩
    · obtain ⟨rfl, hb, u0, rfl⟩ := pv
      obtain ⟨rfl, hx⟩ := y
      obtain ⟨hi2, b, rfl, hbt⟩ := line_at h4 hx
      obtain ⟨k, rr, hkr, hkt⟩ : ∃ k rr, ds[i] = k :: rr ∧ k ≠ "turn" := by
        have hg := good_head (hok _ (List.getElem_mem hi2))
        cases hd : ds[i] with
        | nil => rw [hd] at hg; simp at hg
        | cons k rr =>
          rw [hd] at hg
          refine ⟨k, rr, rfl, ?_⟩
          rcases hg with hg | hg
          · rw [Option.some.inj hg]; decide
          · rw [Option.some.inj hg]; decide
      have hkr' : ds[i].map V.str = (k :: rr).map V.str := by rw [hkr]
      rw [hkr'] at hbt
      refine ⟨.ref b, rfl, b, _, 0, .str k, rfl, rfl, hbt, atI_nat (j := 0) rfl, rfl, true, bnf (fun z => hkt (V.str.inj z)), iteT ?_⟩
      by_cases hm : reg (k :: rr) ∈ z
      · refine ⟨.ref b, rfl, b, k, rr, rfl, hbt, hkt, .ref p, rfl, p, _, rfl, hp.get hm, false, rfl, iteF ⟨rfl, fun j hj hji => ?_, _, rfl⟩⟩
        by_cases h : j < i
        · exact hb j hj h
        · have : j = i := by omega
          subst this
          rw [hkr]
          exact hm
      · refine ⟨.ref b, rfl, b, k, rr, rfl, hbt, hkt, .ref p, rfl, p, _, rfl, hp.no hm, true, rfl, iteT ?_⟩
        refine ⟨.ref b, rfl, b, k, rr, rfl, hbt, hkt, rz_of T.ox_UnknownRegion T.no_UnknownRegion fun d hd => e _ ?_ d hd⟩
        unfold unk
        rw [List.find?_eq_some_iff_getElem]
        refine ⟨by simp [hm], i, by rw [List.length_map]; exact hi2, by rw [List.getElem_map, hkr], fun j hj => ?_⟩
        rw [List.getElem_map]
        simp [hb j (by omega) hj]
    · obtain ⟨rfl, hb, u0, rfl⟩ := pv
      refine q ?_
      unfold unk
      rw [List.find?_eq_none]
      intro x hx
      obtain ⟨d, hd, rfl⟩ := List.mem_map.mp hx
      obtain ⟨j, hj, e⟩ := List.mem_iff_getElem.mp hd
      rw [← e]
      simp [hb j hj (by omega)]
def spCoats (K : PySem.W.Frag) : Sp := fun vs H Q E => ∃ (a r : Addr) (z : List Str) (Ms : List Nat) (ds : List (List Str)), vs = [.ref a, .ref r] ∧ Fcts K H a z Ms ∧ Rw K H r ds ∧ (∀ d ∈ ds, DeedOk d) ∧
  (badAt ds = none → unk z ds = none → ∀ H', Same H H' → Q .non H') ∧ (∀ i, badAt ds = some i → ∀ d H', Same H H' → H' d = none → E (.ref (He.ga K "InvalidDeed")) (some d) (upd H' d (.xd [("index", .int (i : Nat))]))) ∧
  (∀ x, badAt ds = none → unk z ds = some x → ∀ d H', Same H H' → H' d = none → E (.ref (He.ga K "UnknownRegion")) (some d) (upd H' d (.xd [("region", .str x)])))
theorem ok_coats (D : Dfn K mg "check_coats" s_check_coats ["facts", "row"]) (T : Txt K mg w) (c1 : CalX P w K mg base 3 "check_kinds" (spKinds K)) (c2 : CalX P w K mg base 3 "check_known" (spKnown K)) : CalX P w K mg base 4 "check_coats" (spCoats K) := by
  refine calX_of D sc_check_coats (fun vs H Q E h => ?_) (fun cdv A outer s H vs Q E f hr h => ?_)
  · obtain ⟨p, r, z, Ms, ds, rfl, _⟩ := h
    rfl
  · obtain ⟨a, r, z, Ms, ds, rfl, ⟨dx, fl, pl, ms, ha, hl1, hpl, hl2, hms, hml, hmb⟩, hr2, hok, q, e1, e2⟩ := h
    have nd := sc_check_coats.nd
    refine ⟨_, (pss_cons (ps_expr (pe_cx c1 hr (by decide) rfl (takes_of rfl rfl rfl rfl) (pa_cons (pv 1) (pa_cons (pe_glob (v := .ref _) rfl T.g_COATS rfl) pa_nil))))
    (pss_one (ps_expr (pe_cx c2 hr (by decide) rfl (takes_of rfl rfl rfl rfl) (pa_cons (pe_fld (pv 0) rfl) (pa_cons (pv 1) pa_nil)))))), ?_⟩
    refine ⟨.ref r, rfl, r, _, ds, rfl, hr2, T.t_COATS H, hok, fun hn H1 sm => ?_, fun i hi d H' sm hd => e1 i hi d H' sm hd⟩
    refine ⟨.ref a, rfl, a, _, dx, fl, _, rfl, sm _ _ ha, T.cF, T.nF_places, hl1, .ref r, rfl, pl, r, z, ds, rfl, hpl.same sm, hr2.same sm, fun d hd => ?_, fun hu => q hn hu _ sm, fun x hx d hd => e2 x hn hx d _ sm hd⟩
    have := List.findIdx?_eq_none_iff.mp hn d hd
    exact this
def spCM (K : PySem.W.Frag) : Sp := fun vs H Q _ => ∃ (a t : Addr) (b : Bool) (z : List Str) (Ms : List Nat) (d : List Str), vs = [.ref a, .ref t, .bl b] ∧ Fcts K H a z Ms ∧ SqT K H t (d.map V.str) ∧ d ≠ [] ∧ reg d ∈ z ∧ Q (.int (cm z Ms d b : Nat)) H
theorem ok_cm (D : Dfn K mg "claim_mask" s_claim_mask ["facts", "deed", "inside"]) (T : Txt K mg w) : C8.Cal P w K mg base 1 "claim_mask" (spCM K) [] := by
  refine cal_of D sc_claim_mask (fun vs H Q E h => ?_) (fun cdv A outer s H vs Q E f hr h => ?_)
  · obtain ⟨a, t, b, z, Ms, d, rfl, _⟩ := h
    rfl
  · obtain ⟨a, t, b, z, Ms, d, rfl, ⟨dx, fl, pl, ms, ha, hl1, hpl, hl2, hms, hml, hmb⟩, ht, hne, hz, q⟩ := h
    have nd := sc_claim_mask.nd
    obtain ⟨k, r, rfl⟩ : ∃ k r, d = k :: r := by
      cases d with
      | nil => exact absurd rfl hne
      | cons k r => exact ⟨k, r, rfl⟩
    refine ⟨_, (pss_one (ps_ret (pe_ix ix_list (pe_fld (pv 0) rfl) (pe_op op_add (pe_op op_mul pe_int (pe_dget (hu_of hr) (pe_fld (pv 0) rfl) (pe_ix ix_tup (pv 1) (pe_un un_neg pe_int) (fun _ _ => rfl)) (fun _ _ => rfl))) (pe_callTy call_int1 (by rfl) T.b_int (by decide +kernel) (pa_cons (pv 2) pa_nil))) (fun _ _ => rfl)))), ?_⟩
    have hlt := List.idxOf_lt_length_of_mem hz
    have hj : (2 * z.idxOf (reg (k :: r)) + if b then 1 else 0) < Ms.length := by
      split <;> omega
    refine ⟨.ref a, rfl, a, _, dx, fl, _, rfl, ha, T.cF, T.nF_masks, hl2, .ref a, rfl, a, _, dx, fl, _, rfl, ha, T.cF, T.nF_places, hl1, .ref t, rfl, 1, rfl, t, _, -1, _, rfl, rfl, ht, atI_end, pl, _, rfl, hpl.get hz, 2, _, rfl, rfl, .inl ⟨by decide, by decide⟩, .bl b, rfl, .inr ⟨b, rfl, _, _, rfl, rfl, ?_⟩⟩
    refine ⟨ms, _, ((2 * z.idxOf (reg (k :: r)) + if b then 1 else 0 : Nat) : Int), .int (Ms[2 * z.idxOf (reg (k :: r)) + if b then 1 else 0] : Nat), rfl, ?_, hms, atI_nat (by rw [List.getElem?_map, List.getElem?_eq_getElem hj]; rfl), ?_⟩
    · show V.int (2 * (z.idxOf (reg (k :: r)) : Int) + if b then 1 else 0) = _
      congr 1
      cases b <;> simp
    · have : cm z Ms (k :: r) b = Ms[2 * z.idxOf (reg (k :: r)) + if b then 1 else 0] := by
        unfold cm
        rw [List.getD_eq_getElem?_getD, List.getElem?_eq_getElem hj]
        rfl
      rw [← this]
      exact q
end
end Cw
end
section
namespace Cw
open PySem PySem.Spec PyProof.Rows L2
def fkv (l : List (Str × Nat)) : List (Key × V) := l.map fun p => (.inr p.1, .int (p.2 : Nat))
theorem fkv_mem {l : List (Str × Nat)} {x : Str} : (valV (fkv l) (.inr x)).isSome = decide (x ∈ l.map (·.1)) := by
  rw [Bool.eq_iff_iff, valV_mem, decide_eq_true_iff]
  unfold fkv
  rw [List.map_map, List.mem_map, List.mem_map]
  constructor
  · rintro ⟨p, h1, h2⟩
    exact ⟨p, h1, Sum.inr.inj h2⟩
  · rintro ⟨p, h1, h2⟩
    exact ⟨p, h1, congrArg Sum.inr h2⟩
theorem fsts_len (ds : List (List Str)) (k : Nat) : ∀ n, (fsts ds k n).length ≤ n
  | 0 => Nat.le_refl _
  | n + 1 => by
    unfold fsts
    have := fsts_len ds k n
    split
    · omega
    · rw [List.length_append]
      exact Nat.succ_le_succ this
theorem fsts_in (ds : List (List Str)) (k : Nat) : ∀ n, ∀ p ∈ fsts ds k n, k < p.2 ∧ p.2 < k + 1 + n
  | 0, p, h => absurd h List.not_mem_nil
  | n + 1, p, h => by
    unfold fsts at h
    split at h
    · have := fsts_in ds k n p h
      omega
    · rw [List.mem_append, List.mem_singleton] at h
      rcases h with h | rfl
      · have := fsts_in ds k n p h
        omega
      · omega
theorem later_in {ds : List (List Str)} {k j : Nat} (h : j ∈ later ds k) : k < j ∧ j < ds.length := by
  obtain ⟨p, hp, rfl⟩ := List.mem_map.mp h
  have := fsts_in ds k _ p hp
  omega
section
variable {P : Program} {w : World} {K : PySem.W.Frag} {mg : Str → Option Value} {base : Heap}
theorem cm_lt {H : Hp} {a : Addr} {z : List Str} {Ms : List Nat} (h : Fcts K H a z Ms) (d : List Str) (b : Bool) : cm z Ms d b < 2 ^ 48 := by
  obtain ⟨_, _, _, _, _, _, _, _, _, _, hb⟩ := h
  unfold cm
  rw [List.getD_eq_getElem?_getD]
  cases e : Ms[2 * z.idxOf (reg d) + if b then 1 else 0]? with
  | none => exact by decide
  | some m => exact hb m (List.mem_of_getElem? e)
def spCovering (K : PySem.W.Frag) : Sp := fun vs H Q _ => ∃ (a l : Addr) (k : Nat) (z : List Str) (Ms : List Nat) (xs : List V) (ds : List (List Str)), vs = [.ref a, .ref l, .int (k : Nat)] ∧ Fcts K H a z Ms ∧ SqL K H l xs ∧ DpAll K H xs (ds.map eT) ∧ (∀ d ∈ ds, d ≠ [] ∧ reg d ∈ z) ∧ k < ds.length ∧ ds.length ≤ 30 ∧
  ∀ v H', AnsV H H' v (covM z Ms ds k) → Q v H'
theorem ok_covering (D : Dfn K mg "covering" s_covering ["facts", "line", "index"]) (T : Txt K mg w) (c_claim_mask : C8.Cal P w K mg base 1 "claim_mask" (spCM K) []) (c_clashes : C8.Cal P w K mg base 1 "clashes" spClashes []) : C8.Cal P w K mg base 2 "covering" (spCovering K) [] := by
  refine cal_of D sc_covering (fun vs H Q E h => ?_) (fun cdv A outer s H vs Q E f hr h => ?_)
  · obtain ⟨a, l, k, z, Ms, xs, ds, rfl, _⟩ := h
    rfl
  · obtain ⟨a, l, k, z, Ms, xs, ds, rfl, hF, hs, hd, hok, hk, hl, q⟩ := h
    have nd := sc_covering.nd
    have hlx : xs.length = ds.length := by rw [dpAll_len hd, List.length_map]
    refine ⟨_, (pss_cons (ps_set (i := 3) nd rfl (.inl rfl) (C8.pe_c c_claim_mask hr (by decide) rfl (pa_cons (pv 0) (pa_cons (pe_ix ix_list (pv 1) (pv 2) (fun _ _ => rfl)) (pa_cons pe_bl pa_nil)))))
    (pss_cons (ps_if (pt_val (C8.pe_c c_clashes hr (by decide) rfl (pa_cons (pv 3) pa_nil)))
      (pss_one (ps_ret (pe_lst pa_nil)))
      pss_nil)
    (pss_cons (ps_set (i := 4) nd rfl (.inl rfl) pe_dnewK)
    (pss_cons (ps_for PassesOwn.never rfl (pi_range2 rfl T.b_range (pa_cons (pe_op op_add (pv 2) pe_int) (pa_cons (pe_callB call_len_seq (by rfl) T.b_len boot_len (pa_cons (pv 1) pa_nil)) pa_nil))) (pg_name (i := 5) nd rfl (.inl rfl))
      (pss_one (ps_if (pt_cmp (pc_dnotin (hu_of hr) (pe_ix ix_tup (pe_ix ix_list (pv 1) (pv 5) (fun _ _ => rfl)) (pe_un un_neg pe_int) (fun _ _ => rfl)) (pv 4)))
        (pss_one (ps_dput (hu_of hr) (pv 4) (pe_ix ix_tup (pe_ix ix_list (pv 1) (pv 5) (fun _ _ => rfl)) (pe_un un_neg pe_int) (fun _ _ => rfl)) (pv 5) rfl))
        pss_nil)))
    (pss_cons (ps_set (i := 6) nd rfl (.inl rfl) (pe_listVals rfl (pv 4) rfl T.b_list (by decide +kernel)))
    (pss_cons (ps_for PassesOwn.never rfl (pi_list (pv 6)) (pg_name (i := 5) nd rfl (.inl rfl))
      (pss_one (ps_if (pt_val (C8.pe_c c_clashes hr (by decide) rfl (pa_cons (pe_op op_or (pv 3) (C8.pe_c c_claim_mask hr (by decide) rfl (pa_cons (pv 0) (pa_cons (pe_ix ix_list (pv 1) (pv 5) (fun _ _ => rfl)) (pa_cons pe_bl pa_nil))))) pa_nil)))
        (pss_one (ps_ret (pe_lst (pa_cons (pv 5) pa_nil))))
        pss_nil)))
    (pss_cons (ps_for PassesOwn.never rfl (pi_list (pv 6)) (pg_name (i := 5) nd rfl (.inl rfl))
      (pss_one (ps_for PassesOwn.never rfl (pi_list (pv 6)) (pg_name (i := 7) nd rfl (.inl rfl))
        (pss_one (ps_if (PW.pt (pw_and (pt_cmpR op_lt (pv 5) (pv 7) (nomark _)) (pw_and1 (pt_val (C8.pe_c c_clashes hr (by decide) rfl (pa_cons (pe_op op_or (C8.pe_c c_claim_mask hr (by decide) rfl (pa_cons (pv 0) (pa_cons (pe_ix ix_list (pv 1) (pv 5) (fun _ _ => rfl)) (pa_cons pe_bl pa_nil)))) (C8.pe_c c_claim_mask hr (by decide) rfl (pa_cons (pv 0) (pa_cons (pe_ix ix_list (pv 1) (pv 7) (fun _ _ => rfl)) (pa_cons pe_bl pa_nil))))) pa_nil))))))
          (pss_one (ps_ret (pe_lst (pa_cons (pv 5) (pa_cons (pv 7) pa_nil)))))
          pss_nil)))))
    (pss_one (ps_ret pe_non))))))))), ?_⟩
    have hgd : ∀ j (h : j < ds.length), ds.getD j [] = ds[j] := fun j h => by
      rw [List.getD_eq_getElem?_getD, List.getElem?_eq_getElem h]
      rfl
    have hit : ∀ j, j < ds.length → ∃ t : Addr, xs[j]? = some (.ref t) ∧ SqT K H t ((ds.getD j []).map V.str) ∧ ds.getD j [] ≠ [] ∧ reg (ds.getD j []) ∈ z := fun j hj => by
      obtain ⟨t, h1, h2⟩ := line_to hd hj
      have h3 := hok _ (List.getElem_mem hj)
      rw [hgd j hj]
      exact ⟨t, h1, h2, h3.1, h3.2⟩
    have hb2 : ∀ d b d' b', cm z Ms d b ||| cm z Ms d' b' < 2 ^ 64 := fun d b d' b' =>
      Nat.lt_of_lt_of_le (Nat.or_lt_two_pow (cm_lt hF d b) (cm_lt hF d' b')) (by decide)
    obtain ⟨tk, hx1, hx2, hx3, hx4⟩ := hit k hk
    refine ⟨.ref a, rfl, .ref l, rfl, .int (k : Nat), rfl, l, xs, (k : Nat), .ref tk, rfl, rfl, hs, atI_nat hx1, a, tk, true, z, Ms, _, rfl, hF, hx2, hx3, hx4, ?_⟩
    refine ⟨.int (cm z Ms (ds.getD k []) true : Nat), rfl, cm z Ms (ds.getD k []) true, rfl, Nat.lt_of_lt_of_le (cm_lt hF _ _) (by decide), fun H1 sm1 => ⟨clsh (cm z Ms (ds.getD k []) true), rfl, ?_⟩⟩
    cases hc0 : clsh (cm z Ms (ds.getD k []) true) with
    | true =>
      refine iteT ⟨(show 0 ≤ sizeLine by decide), fun p hp => q _ _ ?_⟩
      unfold covM
      rw [if_pos hc0]
      exact ⟨p, rfl, Same.back sm1 hp, sm1.trans (same_upd hp), upd_same⟩
    | false =>
      refine iteF fun fd hfd => ?_
      have hcov : covM z Ms ds k = ((later ds k).findSome? (one1 z Ms ds k)).or ((later ds k).findSome? fun p => (later ds k).findSome? (two2 z Ms ds p)) := by
        unfold covM
        rw [hc0]
        exact if_neg Bool.false_ne_true
      have sf := sm1.trans (same_upd (o := .dK []) hfd)
      have hfH := Same.back sm1 hfd
      refine ⟨.int (k : Nat), rfl, (k : Nat), 1, rfl, rfl, .ref l, rfl, l, xs, rfl, .inl (sqL_same sf hs), (k : Int) + 1, (xs.length : Nat), rfl, ⟨by omega, by omega, by omega, by omega⟩, ?_⟩
      have en : ((xs.length : Int) - ((k : Int) + 1)).toNat = ds.length - (k + 1) := by omega
      rw [en]
      refine for_it (walk_range (lo := (k : Int) + 1) (n := ds.length - (k + 1))) (fun i σ H' => Same H H' ∧ H' fd = some (.dK (fkv (fsts ds k i))) ∧ ∃ x, σ = [some (V.ref a), some (V.ref l), some (V.int (k : Nat)), some (V.int (cm z Ms (ds.getD k []) true : Nat)), some (V.ref fd), x, none, none]) ⟨sf, upd_same, _, rfl⟩ (fun _ _ _ _ _ => trivial) (fun i v σ H2 H3 hi pv y => ?_) (fun σ H2 pv => ?_)
      · obtain ⟨sm, hfk, x0, rfl⟩ := pv
        obtain ⟨rfl, hv⟩ := y
        replace hv : v = .int ((k : Int) + 1 + (i : Nat)) := hv
        rw [show (k : Int) + 1 + (i : Nat) = ((k + 1 + i : Nat) : Int) by omega] at hv
        subst hv
        obtain ⟨t, ht1, ht2, ht3, ht4⟩ := hit (k + 1 + i) (by omega)
        generalize hdj : ds.getD (k + 1 + i) [] = dj at *
        obtain ⟨kd, rr, rfl⟩ : ∃ kd rr, dj = kd :: rr := by
          cases dj with
          | nil => exact absurd rfl ht3
          | cons kd rr => exact ⟨kd, rr, rfl⟩
        have hst : fsts ds k (i + 1) = if reg (kd :: rr) ∈ (fsts ds k i).map (·.1) then fsts ds k i else fsts ds k i ++ [(reg (kd :: rr), k + 1 + i)] := by
          show (if reg (ds.getD (k + 1 + i) []) ∈ _ then _ else _) = _
          rw [hdj]
        have hfl := fsts_len ds k i
        refine ⟨.ref l, rfl, .int ((k + 1 + i : Nat) : Int), rfl, l, xs, ((k + 1 + i : Nat) : Int), .ref t, rfl, rfl, sqL_same sm hs, atI_nat ht1, 1, rfl, t, _, -1, _, rfl, rfl, sqT_same sm ht2, atI_end, .ref fd, rfl, fd, _, rfl, DGet.k (k := (.inr (reg (kd :: rr)) : Key)) hfk, decide (reg (kd :: rr) ∉ (fsts ds k i).map (·.1)), ?_, ?_⟩
        · show V.bl (!(valV (fkv (fsts ds k i)) (.inr (reg (kd :: rr)))).isSome) = _
          rw [fkv_mem]
          simp
        by_cases hm : reg (kd :: rr) ∈ (fsts ds k i).map (·.1)
        · rw [decide_eq_false (not_not_intro hm)]
          refine iteF ⟨sm, ?_, _, rfl⟩
          rw [hst, if_pos hm]
          exact hfk
        · rw [decide_eq_true hm]
          refine iteT ⟨.int ((k + 1 + i : Nat) : Int), rfl, .ref fd, rfl, .ref l, rfl, .int ((k + 1 + i : Nat) : Int), rfl, l, xs, ((k + 1 + i : Nat) : Int), .ref t, rfl, rfl, sqL_same sm hs, atI_nat ht1, 1, rfl, t, _, -1, _, rfl, rfl, sqT_same sm ht2, atI_end, fd, _, rfl, DPut.k (k := (.inr (reg (kd :: rr)) : Key)) hfk ?_, ?_⟩
          · unfold fkv
            rw [List.length_map, sizeLine_eq]
            omega
          · refine ⟨same_mut sm hfH, ?_, _, rfl⟩
            rw [upd_same, putK_new, hst, if_neg hm]
            · unfold fkv
              rw [List.map_append]
              rfl
            · cases e : valV (fkv (fsts ds k i)) (.inr (reg (kd :: rr))) with
              | none => rfl
              | some v =>
                have := fkv_mem (l := fsts ds k i) (x := reg (kd :: rr))
                rw [e, decide_eq_false hm] at this
                cases this
      · obtain ⟨sm, hfk, x0, rfl⟩ := pv
        refine ⟨.ref fd, rfl, fd, _, rfl, hfk, fun ly hly => ?_⟩
        have elat : (fkv (fsts ds k (ds.length - (k + 1)))).map (·.2) = (later ds k).map fun (x : Nat) => V.int (x : Int) := by
          unfold fkv later
          rw [List.map_map, List.map_map]
          rfl
        rw [elat]
        have sm3 := sm.trans (same_upd (o := .lst ((later ds k).map fun (x : Nat) => V.int (x : Int))) hly)
        have hly3 : (upd H2 ly (.lst ((later ds k).map fun (x : Nat) => V.int (x : Int)))) ly = some (.lst ((later ds k).map fun (x : Nat) => V.int (x : Int))) := upd_same
        generalize upd H2 ly (.lst ((later ds k).map fun (x : Nat) => V.int (x : Int))) = H4 at *
        clear sm hfk hly
        have hget : ∀ {i : Nat} {v : V}, ((later ds k).map fun (x : Nat) => V.int (x : Int))[i]? = some v → ∃ (hi : i < (later ds k).length), v = .int ((later ds k)[i] : Nat) ∧ (later ds k)[i] < ds.length := fun {i v} e => by
          rw [List.getElem?_map] at e
          obtain ⟨x, h1, h2⟩ := Option.map_eq_some_iff.mp e
          obtain ⟨hi, e2⟩ := List.getElem?_eq_some_iff.mp h1
          exact ⟨hi, by rw [e2]; exact h2.symm, (later_in (List.getElem_mem hi)).2⟩
        refine ⟨.ref ly, rfl, ly, rfl, ⟨_, .inl (.inl hly3)⟩, for_it (walk_list (xs := (later ds k).map fun (x : Nat) => V.int (x : Int))) (fun i σ H' => Same H4 H' ∧ ((later ds k).take i).findSome? (one1 z Ms ds k) = none ∧ ∃ x, σ = [some (V.ref a), some (V.ref l), some (V.int (k : Nat)), some (V.int (cm z Ms (ds.getD k []) true : Nat)), some (V.ref fd), x, some (V.ref ly), none]) ⟨Same.refl _, rfl, _, rfl⟩ (fun _ _ _ _ p => .inl (.inl (p.1 _ _ hly3))) (fun i v σ H5 H6 hi pv y => ?_) (fun σ H5 pv => ?_)⟩
        · obtain ⟨sm, hno, x1, rfl⟩ := pv
          obtain ⟨rfl, hv⟩ := y
          obtain ⟨hi2, rfl, hjl⟩ := hget hv
          obtain ⟨t, ht1, ht2, ht3, ht4⟩ := hit _ hjl
          have s5 := sm3.trans sm
          refine ⟨.int (cm z Ms (ds.getD k []) true : Nat), rfl, .ref a, rfl, .ref l, rfl, .int ((later ds k)[i] : Nat), rfl, l, xs, ((later ds k)[i] : Nat), .ref t, rfl, rfl, sqL_same s5 hs, atI_nat ht1, a, t, false, z, Ms, _, rfl, hF.same s5, sqT_same s5 ht2, ht3, ht4, _, _, rfl, rfl, ?_⟩
          refine ⟨cm z Ms (ds.getD k []) true ||| cm z Ms (ds.getD (later ds k)[i] []) false, congrArg (fun x => [V.int x]) (nOr _ _), hb2 _ _ _ _, fun H7 sm7 => ⟨_, rfl, ?_⟩⟩
          cases hc : clsh (cm z Ms (ds.getD k []) true ||| cm z Ms (ds.getD (later ds k)[i] []) false) with
          | true =>
            refine iteT ⟨.int ((later ds k)[i] : Nat), rfl, (show 1 ≤ sizeLine by decide), fun p hp => q _ _ ?_⟩
            rw [hcov, fS_hit hi2 hno (b := [(later ds k)[i]]) (by unfold one1; rw [if_pos hc])]
            have s8 := s5.trans sm7
            exact ⟨p, rfl, Same.back s8 hp, s8.trans (same_upd hp), upd_same⟩
          | false => exact iteF ⟨sm.trans sm7, fS_more hi2 hno (by unfold one1; rw [hc]; exact if_neg Bool.false_ne_true), _, rfl⟩
        · obtain ⟨sm, hno, x1, rfl⟩ := pv
          rw [List.length_map, List.take_length] at hno
          rw [hno] at hcov
          replace hcov : covM z Ms ds k = (later ds k).findSome? fun p => (later ds k).findSome? (two2 z Ms ds p) := hcov
          refine ⟨.ref ly, rfl, ly, rfl, ⟨_, .inl (.inl (sm _ _ hly3))⟩, for_it (walk_list (xs := (later ds k).map fun (x : Nat) => V.int (x : Int))) (fun i σ H' => Same H5 H' ∧ ((later ds k).take i).findSome? (fun p => (later ds k).findSome? (two2 z Ms ds p)) = none ∧ ∃ x y, σ = [some (V.ref a), some (V.ref l), some (V.int (k : Nat)), some (V.int (cm z Ms (ds.getD k []) true : Nat)), some (V.ref fd), x, some (V.ref ly), y]) ⟨Same.refl _, rfl, _, _, rfl⟩ (fun _ _ _ _ p => .inl (.inl (p.1 _ _ (sm _ _ hly3)))) (fun i v σ H6 H7 hi pv y => ?_) (fun σ H6 pv => ?_)⟩
          · obtain ⟨sm6, hno2, x1, y1, rfl⟩ := pv
            obtain ⟨rfl, hv⟩ := y
            obtain ⟨hi2, rfl, hjl⟩ := hget hv
            refine ⟨.ref ly, rfl, ly, rfl, ⟨_, .inl (.inl (sm6 _ _ (sm _ _ hly3)))⟩, for_it (walk_list (xs := (later ds k).map fun (x : Nat) => V.int (x : Int))) (fun j σ H' => Same H7 H' ∧ ((later ds k).take j).findSome? (two2 z Ms ds (later ds k)[i]) = none ∧ ∃ y, σ = [some (V.ref a), some (V.ref l), some (V.int (k : Nat)), some (V.int (cm z Ms (ds.getD k []) true : Nat)), some (V.ref fd), some (V.int ((later ds k)[i] : Nat)), some (V.ref ly), y]) ⟨Same.refl _, rfl, _, rfl⟩ (fun _ _ _ _ p => .inl (.inl (p.1 _ _ (sm6 _ _ (sm _ _ hly3))))) (fun j v2 σ H8 H9 hj pv y => ?_) (fun σ H8 pv => ?_)⟩
            · obtain ⟨sm8, hno3, y2, rfl⟩ := pv
              obtain ⟨rfl, hv2⟩ := y
              obtain ⟨hj2, rfl, hol⟩ := hget hv2
              have s9 := ((sm3.trans sm).trans sm6).trans sm8
              refine ⟨.int ((later ds k)[i] : Nat), rfl, .int ((later ds k)[j] : Nat), rfl, _, _, rfl, rfl, decide ((later ds k)[i] < (later ds k)[j]), ?_, ?_⟩
              · dsimp only
                congr 1
                apply decide_eq_decide.mpr
                omega
              by_cases hlt : (later ds k)[i] < (later ds k)[j]
              · rw [decide_eq_true hlt]
                refine iteT ?_
                obtain ⟨t, ht1, ht2, ht3, ht4⟩ := hit _ hjl
                obtain ⟨t2, hu1, hu2, hu3, hu4⟩ := hit _ hol
                refine ⟨.ref a, rfl, .ref l, rfl, .int ((later ds k)[i] : Nat), rfl, l, xs, ((later ds k)[i] : Nat), .ref t, rfl, rfl, sqL_same s9 hs, atI_nat ht1, a, t, false, z, Ms, _, rfl, hF.same s9, sqT_same s9 ht2, ht3, ht4, ?_⟩
                refine ⟨.ref a, rfl, .ref l, rfl, .int ((later ds k)[j] : Nat), rfl, l, xs, ((later ds k)[j] : Nat), .ref t2, rfl, rfl, sqL_same s9 hs, atI_nat hu1, a, t2, false, z, Ms, _, rfl, hF.same s9, sqT_same s9 hu2, hu3, hu4, _, _, rfl, rfl, ?_⟩
                refine ⟨cm z Ms (ds.getD (later ds k)[i] []) false ||| cm z Ms (ds.getD (later ds k)[j] []) false, congrArg (fun x => [V.int x]) (nOr _ _), hb2 _ _ _ _, fun H10 sm10 => ⟨_, rfl, ?_⟩⟩
                cases hc : clsh (cm z Ms (ds.getD (later ds k)[i] []) false ||| cm z Ms (ds.getD (later ds k)[j] []) false) with
                | true =>
                  refine iteT ⟨.int ((later ds k)[i] : Nat), rfl, .int ((later ds k)[j] : Nat), rfl, (show 2 ≤ sizeLine by decide), fun p hp => q _ _ ?_⟩
                  rw [hcov, fS_hit hi2 hno2 (b := [(later ds k)[i], (later ds k)[j]]) (fS_hit hj2 hno3 (by unfold two2; rw [if_pos ⟨hlt, hc⟩]))]
                  have s11 := s9.trans sm10
                  exact ⟨p, rfl, Same.back s11 hp, s11.trans (same_upd hp), upd_same⟩
                | false => exact iteF ⟨sm8.trans sm10, fS_more hj2 hno3 (by unfold two2; rw [if_neg]; rw [hc]; exact fun h => Bool.false_ne_true h.2), _, rfl⟩
              · rw [decide_eq_false hlt]
                exact iteF (iteF ⟨sm8, fS_more hj2 hno3 (by unfold two2; rw [if_neg]; exact fun h => hlt h.1), _, rfl⟩)
            · obtain ⟨sm8, hno3, y2, rfl⟩ := pv
              rw [List.length_map, List.take_length] at hno3
              exact ⟨sm6.trans sm8, fS_more hi2 hno2 hno3, _, _, rfl⟩
          · obtain ⟨sm6, hno2, x1, y1, rfl⟩ := pv
            rw [List.length_map, List.take_length] at hno2
            refine q _ _ ?_
            rw [hcov, hno2]
            exact ⟨rfl, (sm3.trans sm).trans sm6⟩
/-- what covers tells of an index, or raises -/
def spCovers (K : PySem.W.Frag) : Sp := fun vs H Q E => ∃ (a r : Addr) (v : V) (z : List Str) (Ms : List Nat) (ds : List (List Str)) (o : Option Nat), vs = [.ref a, .ref r, v] ∧ Fcts K H a z Ms ∧ Rw K H r ds ∧ (∀ d ∈ ds, DeedOk d) ∧ ds.length ≤ 30 ∧ IxV K H ds.length v o ∧
  (∀ i, badAt ds = some i → ∀ d H', Same H H' → H' d = none → E (.ref (He.ga K "InvalidDeed")) (some d) (upd H' d (.xd [("index", .int (i : Nat))]))) ∧
  (∀ x, badAt ds = none → unk z ds = some x → ∀ d H', Same H H' → H' d = none → E (.ref (He.ga K "UnknownRegion")) (some d) (upd H' d (.xd [("region", .str x)]))) ∧
  (badAt ds = none → unk z ds = none → o = none → ∀ d H', Same H H' → H' d = none → E (.ref (He.ga K "InvalidNumber")) (some d) (upd H' d (.xd [("number", v)]))) ∧
  (∀ k, badAt ds = none → unk z ds = none → o = some k → ∀ u H', AnsV H H' u (covM z Ms ds k) → Q u H')
theorem AnsV.from {H H1 H' : Hp} {v : V} {o : Option (List Nat)} (s : Same H H1) (h : AnsV H1 H' v o) : AnsV H H' v o := by
  unfold AnsV at h ⊢
  cases o with
  | none => exact ⟨h.1, s.trans h.2⟩
  | some l =>
    obtain ⟨p, h1, h2, h3, h4⟩ := h
    exact ⟨p, h1, Same.back s h2, s.trans h3, h4⟩
theorem ok_covers (D : Dfn K mg "covers" s_covers ["facts", "row", "index"]) (T : Txt K mg w) (c1 : CalX P w K mg base 4 "check_coats" (spCoats K)) (c2 : CalX P w K mg base 3 "checked_index" (spIndex K)) (c_covering : C8.Cal P w K mg base 2 "covering" (spCovering K) []) : CalX P w K mg base 5 "covers" (spCovers K) := by
  refine calX_of D sc_covers (fun vs H Q E h => ?_) (fun cdv A outer s H vs Q E f hr h => ?_)
  · obtain ⟨a, r, v, z, Ms, ds, o, rfl, _⟩ := h
    rfl
  · obtain ⟨a, r, v, z, Ms, ds, o, rfl, hF, hR, hok, hl, hix, e1, e2, e3, q⟩ := h
    have nd := sc_covers.nd
    refine ⟨_, (pss_cons (ps_expr (pe_cx c1 hr (by decide) rfl (takes_of rfl rfl rfl rfl) (pa_cons (pv 0) (pa_cons (pv 1) pa_nil))))
    (pss_one (ps_ret (C8.pe_c c_covering hr (by decide) rfl (pa_cons (pv 0) (pa_cons (pe_callTy call_list_of (by rfl) T.b_list (by decide +kernel) (pa_cons (pe_fld (pv 1) rfl) pa_nil)) (pa_cons (pe_cx c2 hr (by decide) rfl (takes_of rfl rfl rfl rfl) (pa_cons (pv 2) (pa_cons (pe_callB call_len_seq (by rfl) T.b_len boot_len (pa_cons (pe_fld (pv 1) rfl) pa_nil)) pa_nil))) pa_nil))))))), ?_⟩
    refine ⟨.ref a, rfl, .ref r, rfl, a, r, z, Ms, ds, rfl, hF, hR, hok, fun hn hu H1 sm1 => ?_, e1, fun x hn hx d H' sm hd => e2 x hn hx d H' sm hd⟩
    obtain ⟨dx, fl, l, xs, h1, h2, h3, h4⟩ := hR.same sm1
    have hlx : xs.length = ds.length := by rw [dpAll_len h4, List.length_map]
    refine ⟨.ref a, rfl, .ref r, rfl, r, _, dx, fl, _, rfl, h1, T.cR, T.nR_line, h2, l, xs, rfl, .inr h3, fun p hp => ?_⟩
    have s2 := same_upd (o := .lst xs) hp
    have s3 := sm1.trans s2
    refine ⟨v, rfl, .ref r, rfl, r, _, dx, fl, _, rfl, s2 _ _ h1, T.cR, T.nR_line, h2, l, xs, rfl, .inr (sqT_same s2 h3), v, ds.length, o, by rw [hlx], hix.same s3, fun hs => ?_, fun ho d hd => e3 hn hu ho d _ s3 hd⟩
    cases hix with
    | ok k hk =>
      refine ⟨a, p, k, z, Ms, xs, ds, rfl, hF.same s3, .inl (.inl upd_same), dpAll_same s2 h4, fun d hd => ?_, hk, hl, fun u H' hA => q k hn hu rfl u H' (hA.from s3)⟩
      refine ⟨?_, ?_⟩
      · obtain ⟨k0, r0, e⟩ := deed_cons (hok d hd)
        rw [e]
        exact List.cons_ne_nil _ _
      · have := List.find?_eq_none.mp hu (reg d) (List.mem_map.mpr ⟨d, hd, rfl⟩)
        simpa using this
    | int i h => cases hs
    | bl b => cases hs
    | non => cases hs
    | str z => cases hs
    | lst a xs h => cases hs
end
end Cw
end
section
/-! The plain law. -/
namespace Cw
open PySem PySem.Spec PyProof.Rows L2
def keepsM (p : List Str) (f : Fc) : Bool :=
  if f.1 = "in" then decide (f.2.1 ∉ p) || decide (f.2.2 ∈ p) else if f.1 = "apart" then decide (f.2.1 ∉ p) || decide (f.2.2 ∉ p) else decide (f.2.1 ∈ p) || decide (f.2.2 ∈ p)
def allP : List Str → List (List Str)
  | [] => [[]]
  | n :: r => allP r ++ (allP r).map (n :: ·)
def possM (z : List Str) (fs : List Fc) : List (List Str) := (allP z).filter fun p => decide (fs.filter (fun f => !keepsM p f) = [])
def rg (ds : List (List Str)) (j : Nat) : Str := reg (ds.getD j [])
def coveredM (ps : List (List Str)) (ds : List (List Str)) (k : Nat) : Bool := ps.all fun p => !(decide (rg ds k ∈ p) && decide ((ds.drop (k + 1)).filter (fun d => decide (reg d ∈ p)) = []))
def hereM (ps : List (List Str)) (ds : List (List Str)) (k : Nat) : List (List Str) := ps.filter fun p => decide (rg ds k ∈ p)
def d1 (ps : List (List Str)) (ds : List (List Str)) (k j : Nat) : Option (List Nat) := if (hereM ps ds k).filter (fun p => decide (rg ds j ∉ p)) = [] then some [j] else none
def d2 (ps : List (List Str)) (ds : List (List Str)) (j i : Nat) : Option (List Nat) := if ps.filter (fun p => decide (rg ds j ∉ p) && decide (rg ds i ∉ p)) = [] then some [j, i] else none
def lat (ds : List (List Str)) (k : Nat) : List Nat := List.range' (k + 1) (ds.length - (k + 1))
def dueM (ps : List (List Str)) (ds : List (List Str)) (k : Nat) : Option (List Nat) :=
  if hereM ps ds k = [] then some [] else ((lat ds k).findSome? (d1 ps ds k)).or ((lat ds k).findSome? fun j => (lat ds j).findSome? (d2 ps ds j))
/-! ### claims and models -/
/-- a claim is true -/
def lit (m : Nat → Bool) (c : Nat) : Prop := m (c / 2) = decide (c % 2 = 1)
def Mod (z : List Str) (fs : List Fc) (m : Nat → Bool) : Prop := ∀ f ∈ fs, ¬ (lit m (br1 z f) ∧ lit m (br2 z f))
theorem xor_div (c : Nat) : (c ^^^ 1) / 2 = c / 2 := by
  rw [Nat.xor_div_two]
  simp
theorem xor_mod (c : Nat) : (c ^^^ 1) % 2 = 1 - c % 2 := by
  have h := Nat.xor_mod_two_pow (a := c) (b := 1) (n := 1)
  rw [Nat.pow_one] at h
  rw [h]
  rcases (show c % 2 = 0 ∨ c % 2 = 1 by omega) with e | e <;> rw [e] <;> rfl
theorem lit_not (m : Nat → Bool) (c : Nat) : lit m (c ^^^ 1) ↔ ¬ lit m c := by
  unfold lit
  rw [xor_div, xor_mod]
  have h : c % 2 = 0 ∨ c % 2 = 1 := by omega
  rcases h with h | h <;> rw [h] <;> cases m (c / 2) <;> simp
theorem xor_xor (c : Nat) : c ^^^ 1 ^^^ 1 = c := by rw [Nat.xor_assoc]; simp
/-- closed under the edges -/
def Closed (z : List Str) (fs : List Fc) (R : Nat → Prop) : Prop := ∀ f ∈ fs, (R (br1 z f) → R (br2 z f ^^^ 1)) ∧ (R (br2 z f) → R (br1 z f ^^^ 1))
open Classical in
theorem sat2 {z : List Str} {fs : List Fc} {m0 : Nat → Bool} (h0 : Mod z fs m0) {R : Nat → Prop} (hc : Closed z fs R) (hn : ∀ c, ¬ (R (2 * c) ∧ R (2 * c + 1))) : ∃ m, Mod z fs m ∧ ∀ c, R c → lit m c := by
  let m : Nat → Bool := fun i => if R (2 * i + 1) then true else if R (2 * i) then false else m0 i
  have hn' : ∀ c, R c → ¬ R (c ^^^ 1) := fun c h1 h2 => by
    have hx := xor_div c
    have hy := xor_mod c
    rcases (show c % 2 = 0 ∨ c % 2 = 1 by omega) with h | h
    · exact hn (c / 2) ⟨by rw [show 2 * (c / 2) = c by omega]; exact h1, by rw [show 2 * (c / 2) + 1 = c ^^^ 1 by omega]; exact h2⟩
    · exact hn (c / 2) ⟨by rw [show 2 * (c / 2) = c ^^^ 1 by omega]; exact h2, by rw [show 2 * (c / 2) + 1 = c by omega]; exact h1⟩
  have hR : ∀ c, R c → lit m c := fun c h => by
    unfold lit
    show (if R (2 * (c / 2) + 1) then true else if R (2 * (c / 2)) then false else m0 (c / 2)) = _
    rcases (show c % 2 = 0 ∨ c % 2 = 1 by omega) with h2 | h2
    · have e : 2 * (c / 2) = c := by omega
      rw [if_neg (fun hh => hn (c / 2) ⟨by rw [e]; exact h, hh⟩), if_pos (by rw [e]; exact h), h2]
      rfl
    · have e : 2 * (c / 2) + 1 = c := by omega
      rw [if_pos (by rw [e]; exact h), h2]
      rfl
  have h0m : ∀ c, ¬ R c → ¬ R (c ^^^ 1) → (lit m c → lit m0 c) := fun c h1 h2 => by
    have hx := xor_div c
    have hy := xor_mod c
    have e1 : ¬ R (2 * (c / 2) + 1) ∧ ¬ R (2 * (c / 2)) := by
      rcases (show c % 2 = 0 ∨ c % 2 = 1 by omega) with h | h
      · rw [show 2 * (c / 2) = c by omega, show c + 1 = c ^^^ 1 by omega]
        exact ⟨h2, h1⟩
      · rw [show 2 * (c / 2) + 1 = c by omega, show 2 * (c / 2) = c ^^^ 1 by omega]
        exact ⟨h1, h2⟩
    unfold lit
    show (if R (2 * (c / 2) + 1) then true else if R (2 * (c / 2)) then false else m0 (c / 2)) = _ → _
    rw [if_neg e1.1, if_neg e1.2]
    exact id
  refine ⟨m, fun f hf ⟨l1, l2⟩ => ?_, hR⟩
  obtain ⟨k1, k2⟩ := hc f hf
  by_cases r1 : R (br1 z f)
  · exact (lit_not m _).mp (hR _ (k1 r1)) l2
  by_cases r2 : R (br2 z f)
  · exact (lit_not m _).mp (hR _ (k2 r2)) l1
  by_cases r3 : R (br1 z f ^^^ 1)
  · exact (lit_not m _).mp (hR _ r3) l1
  by_cases r4 : R (br2 z f ^^^ 1)
  · exact (lit_not m _).mp (hR _ r4) l2
  exact h0 f hf ⟨h0m _ r1 r3 l1, h0m _ r2 r4 l2⟩
theorem reach_lit {z : List Str} {fs : List Fc} {m : Nat → Bool} (hm : Mod z fs m) {c x : Nat} (h : lit m c) (r : Reach (edgeR z fs) c x) : lit m x := by
  induction r with
  | refl => exact h
  | step _ e ih =>
    obtain ⟨f, hf, he⟩ := List.mem_flatMap.mp e
    simp only [List.mem_cons, List.not_mem_nil, or_false] at he
    rcases he with he | he
    · obtain ⟨h1, h2⟩ := Prod.mk.inj he
      rw [h2]
      exact (lit_not _ _).mpr fun l2 => hm f hf ⟨h1 ▸ ih, l2⟩
    · obtain ⟨h1, h2⟩ := Prod.mk.inj he
      rw [h2]
      exact (lit_not _ _).mpr fun l1 => hm f hf ⟨l1, h1 ▸ ih⟩
theorem closed_reach {z : List Str} {fs : List Fc} {S : Nat → Prop} : Closed z fs (fun x => ∃ c, S c ∧ Reach (edgeR z fs) c x) := fun f hf =>
  ⟨fun ⟨c, h1, h2⟩ => ⟨c, h1, .step h2 (List.mem_flatMap.mpr ⟨f, hf, by simp⟩)⟩, fun ⟨c, h1, h2⟩ => ⟨c, h1, .step h2 (List.mem_flatMap.mpr ⟨f, hf, by simp⟩)⟩⟩
/-! ### patches and models -/
def mp (z : List Str) (p : List Str) (i : Nat) : Bool := decide (z.getD i Str.empty ∈ p)
theorem getD_idx {z : List Str} {x : Str} (h : x ∈ z) : z.getD (z.idxOf x) Str.empty = x := by
  have h1 := List.idxOf_lt_length_of_mem h
  rw [List.getD_eq_getElem?_getD, List.getElem?_eq_getElem h1]
  exact List.getElem_idxOf h1
theorem lit_mp {z : List Str} {p : List Str} {x : Str} (h : x ∈ z) (b : Bool) : lit (mp z p) (2 * z.idxOf x + if b then 1 else 0) ↔ (if b then x ∈ p else x ∉ p) := by
  unfold lit mp
  have e1 : (2 * z.idxOf x + if b then 1 else 0) / 2 = z.idxOf x := by split <;> omega
  have e2 : (2 * z.idxOf x + if b then 1 else 0) % 2 = if b then 1 else 0 := by split <;> omega
  rw [e1, e2, getD_idx h]
  cases b <;> simp
theorem keeps_lit {z : List Str} {p : List Str} {f : Fc} (ok : FOk z f) : keepsM p f = true ↔ ¬ (lit (mp z p) (br1 z f) ∧ lit (mp z p) (br2 z f)) := by
  have h1 : lit (mp z p) (2 * z.idxOf f.2.1 + 1) ↔ f.2.1 ∈ p := lit_mp ok.a true
  have h2 : lit (mp z p) (2 * z.idxOf f.2.1 + 0) ↔ f.2.1 ∉ p := lit_mp ok.a false
  have h3 : lit (mp z p) (2 * z.idxOf f.2.2 + 1) ↔ f.2.2 ∈ p := lit_mp ok.b true
  have h4 : lit (mp z p) (2 * z.idxOf f.2.2 + 0) ↔ f.2.2 ∉ p := lit_mp ok.b false
  unfold br1 br2
  rcases ok.k with e | e | e
  · have hs : sgn f.1 = (1, 0) := by rw [e]; rfl
    have hk : keepsM p f = (decide (f.2.1 ∉ p) || decide (f.2.2 ∈ p)) := by unfold keepsM; rw [e]; rfl
    rw [hs, hk, h1, h4]
    by_cases a : f.2.1 ∈ p <;> by_cases b : f.2.2 ∈ p <;> simp [a, b]
  · have hs : sgn f.1 = (1, 1) := by rw [e]; rfl
    have hk : keepsM p f = (decide (f.2.1 ∉ p) || decide (f.2.2 ∉ p)) := by unfold keepsM; rw [e]; rfl
    rw [hs, hk, h1, h3]
    by_cases a : f.2.1 ∈ p <;> by_cases b : f.2.2 ∈ p <;> simp [a, b]
  · have hs : sgn f.1 = (0, 0) := by rw [e]; rfl
    have hk : keepsM p f = (decide (f.2.1 ∈ p) || decide (f.2.2 ∈ p)) := by unfold keepsM; rw [e]; rfl
    rw [hs, hk, h2, h4]
    by_cases a : f.2.1 ∈ p <;> by_cases b : f.2.2 ∈ p <;> simp [a, b]
theorem allP_filter (q : Str → Bool) : ∀ z : List Str, z.filter q ∈ allP z
  | [] => List.mem_singleton.mpr rfl
  | n :: r => by
    have ih := allP_filter q r
    show _ ∈ allP r ++ (allP r).map (n :: ·)
    rw [List.mem_append, List.filter_cons]
    split
    · exact .inr (List.mem_map.mpr ⟨_, ih, rfl⟩)
    · exact .inl ih
theorem mem_poss {z : List Str} {fs : List Fc} {p : List Str} : p ∈ possM z fs ↔ p ∈ allP z ∧ ∀ f ∈ fs, keepsM p f = true := by
  unfold possM
  rw [List.mem_filter, decide_eq_true_iff, List.filter_eq_nil_iff]
  simp
theorem poss_mod {z : List Str} {fs : List Fc} (ok : ∀ f ∈ fs, FOk z f) {p : List Str} (h : p ∈ possM z fs) : Mod z fs (mp z p) := fun f hf => (keeps_lit (ok f hf)).mp ((mem_poss.mp h).2 f hf)
/-- a model is a patch -/
theorem mod_poss {z : List Str} {fs : List Fc} (ok : ∀ f ∈ fs, FOk z f) {m : Nat → Bool} (h : Mod z fs m) : ∃ p ∈ possM z fs, ∀ x ∈ z, (x ∈ p ↔ m (z.idxOf x) = true) := by
  let p := z.filter fun x => m (z.idxOf x)
  have hp : ∀ x ∈ z, (x ∈ p ↔ m (z.idxOf x) = true) := fun x hx => by
    show x ∈ z.filter _ ↔ _
    rw [List.mem_filter]
    exact ⟨fun h => h.2, fun h => ⟨hx, h⟩⟩
  have hl : ∀ x ∈ z, ∀ b : Nat, b < 2 → (lit (mp z p) (2 * z.idxOf x + b) ↔ lit m (2 * z.idxOf x + b)) := fun x hx b hb => by
    unfold lit mp
    rw [show (2 * z.idxOf x + b) / 2 = z.idxOf x by omega, getD_idx hx]
    have := hp x hx
    cases e : m (z.idxOf x) with
    | true => rw [decide_eq_true (this.mpr e)]
    | false => rw [decide_eq_false (fun h => by have := this.mp h; rw [e] at this; cases this)]
  refine ⟨p, mem_poss.mpr ⟨allP_filter _ z, fun f hf => (keeps_lit (ok f hf)).mpr fun ⟨l1, l2⟩ => h f hf ⟨?_, ?_⟩⟩, hp⟩
  · exact (hl _ (ok f hf).a _ (sgn_lt f.1).1).mp l1
  · exact (hl _ (ok f hf).b _ (sgn_lt f.1).2).mp l2
end Cw
end
section
namespace Cw
open PySem PySem.Spec PyProof.Rows L2
/-- a claim about x is true of p -/
def on (p : List Str) (x : Str) (b : Bool) : Prop := if b then x ∈ p else x ∉ p
def cl (z : List Str) (x : Str) (b : Bool) : Nat := 2 * z.idxOf x + if b then 1 else 0
theorem lit_even {m : Nat → Bool} {i : Nat} : lit m (2 * i) ↔ m i = false := by
  unfold lit
  rw [show 2 * i / 2 = i by omega, show 2 * i % 2 = 0 by omega]
  rfl
theorem lit_odd {m : Nat → Bool} {i : Nat} : lit m (2 * i + 1) ↔ m i = true := by
  unfold lit
  rw [show (2 * i + 1) / 2 = i by omega, show (2 * i + 1) % 2 = 1 by omega]
  rfl
theorem pick {z : List Str} {fs : List Fc} (ok : ∀ f ∈ fs, FOk z f) {p0 : List Str} (h0 : p0 ∈ possM z fs) (S : Nat → Prop) (hS : ∀ s, S s → ∃ x b, x ∈ z ∧ s = cl z x b) :
    (∃ i s t, S s ∧ S t ∧ Reach (edgeR z fs) s (2 * i) ∧ Reach (edgeR z fs) t (2 * i + 1)) ∨ ∃ p ∈ possM z fs, ∀ s, S s → lit (mp z p) s := by
  by_cases h : ∃ i s t, S s ∧ S t ∧ Reach (edgeR z fs) s (2 * i) ∧ Reach (edgeR z fs) t (2 * i + 1)
  · exact .inl h
  · obtain ⟨m, hm, hl⟩ := sat2 (poss_mod ok h0) (closed_reach (S := S)) (fun c ⟨⟨s, h1, h2⟩, ⟨t, h3, h4⟩⟩ => h ⟨c, s, t, h1, h3, h2, h4⟩)
    obtain ⟨p, hp, hx⟩ := mod_poss ok hm
    refine .inr ⟨p, hp, fun s hs => ?_⟩
    obtain ⟨x, b, hxz, rfl⟩ := hS s hs
    have l := hl _ ⟨_, hs, .refl⟩
    have q := hx x hxz
    unfold cl at l ⊢
    cases b with
    | true =>
      have l' := lit_odd.mp l
      exact (lit_mp hxz true).mpr (q.mpr l')
    | false =>
      have l' := lit_even.mp l
      exact (lit_mp hxz false).mpr (fun hh => by
        have := q.mp hh
        rw [l'] at this
        cases this)
theorem on_lit {z p : List Str} {x : Str} (h : x ∈ z) (b : Bool) : lit (mp z p) (cl z x b) ↔ on p x b := by
  have := lit_mp (p := p) h b
  unfold cl on
  exact this
theorem cl_lt {z : List Str} {x : Str} (h : x ∈ z) (b : Bool) : cl z x b < 2 * z.length := by
  have := List.idxOf_lt_length_of_mem h
  unfold cl
  split <;> omega
theorem reach_lt {z : List Str} {fs : List Fc} (ok : ∀ f ∈ fs, FOk z f) {c x : Nat} (hc : c < 2 * z.length) (r : Reach (edgeR z fs) c x) : x < 2 * z.length := by
  cases r with
  | refl => exact hc
  | step _ e => exact (edge_lt ok e).2
/-- two claims clash just where no possible patch has both -/
theorem clash2 {z : List Str} {fs : List Fc} {Ms : List Nat} (hM : MOk z fs Ms) (ok : ∀ f ∈ fs, FOk z f) (hz : z.length ≤ 24) (hP : possM z fs ≠ []) {x y : Str} (hx : x ∈ z) (hy : y ∈ z) (b b' : Bool) :
    clsh (Ms.getD (cl z x b) 0 ||| Ms.getD (cl z y b') 0) = true ↔ ∀ p ∈ possM z fs, ¬ (on p x b ∧ on p y b') := by
  obtain ⟨hl, _, hb⟩ := hM
  have hbit : ∀ c, c < 2 * z.length → ∀ j, (Ms.getD c 0).testBit j = true ↔ Reach (edgeR z fs) c j := fun c hc j => by
    have e : Ms[c]? = some Ms[c] := List.getElem?_eq_getElem (by omega)
    rw [List.getD_eq_getElem?_getD, e]
    exact hb c _ e j
  have h1 := hbit _ (cl_lt hx b)
  have h2 := hbit _ (cl_lt hy b')
  unfold clsh
  rw [List.any_eq_true]
  constructor
  · rintro ⟨i, _, hi⟩ p hp ⟨o1, o2⟩
    obtain ⟨i1, i2⟩ := Bool.and_eq_true_iff.mp hi
    rw [Nat.testBit_or, Bool.or_eq_true, h1, h2] at i1 i2
    have hm := poss_mod ok hp
    have l1 := (on_lit hx b).mpr o1
    have l2 := (on_lit hy b').mpr o2
    have e1 : lit (mp z p) (2 * i) := i1.elim (reach_lit hm l1) (reach_lit hm l2)
    have e2 : lit (mp z p) (2 * i + 1) := i2.elim (reach_lit hm l1) (reach_lit hm l2)
    rw [lit_even] at e1
    rw [lit_odd, e1] at e2
    cases e2
  · intro h
    obtain ⟨p0, h0⟩ := List.exists_mem_of_ne_nil _ hP
    rcases pick ok h0 (fun s => s = cl z x b ∨ s = cl z y b') (fun s hs => by
      rcases hs with rfl | rfl
      · exact ⟨x, b, hx, rfl⟩
      · exact ⟨y, b', hy, rfl⟩) with ⟨i, s, t, hs, ht, r1, r2⟩ | ⟨p, hp, hl⟩
    · have lt : 2 * i + 1 < 2 * z.length := reach_lt ok (by rcases ht with rfl | rfl; exact cl_lt hx b; exact cl_lt hy b') r2
      refine ⟨i, List.mem_range.mpr (by omega), ?_⟩
      rw [Bool.and_eq_true, Nat.testBit_or, Nat.testBit_or, Bool.or_eq_true, Bool.or_eq_true, h1, h2, h1, h2]
      constructor
      · rcases hs with rfl | rfl
        · exact .inl r1
        · exact .inr r1
      · rcases ht with rfl | rfl
        · exact .inl r2
        · exact .inr r2
    · exact absurd ⟨(on_lit hx b).mp (hl _ (.inl rfl)), (on_lit hy b').mp (hl _ (.inr rfl))⟩ (h p hp)
/-! ### the search -/
theorem fS_congr {α β : Type} {l : List α} {f g : α → Option β} (h : ∀ x ∈ l, f x = g x) : l.findSome? f = l.findSome? g := by
  induction l with
  | nil => rfl
  | cons x r ih => rw [List.findSome?_cons, List.findSome?_cons, h x List.mem_cons_self, ih fun y hy => h y (List.mem_cons_of_mem _ hy)]
theorem fsts_reg (ds : List (List Str)) (k : Nat) : ∀ n, ∀ p ∈ fsts ds k n, p.1 = rg ds p.2
  | 0, p, h => absurd h List.not_mem_nil
  | n + 1, p, h => by
    unfold fsts at h
    split at h
    · exact fsts_reg ds k n p h
    · rw [List.mem_append, List.mem_singleton] at h
      rcases h with h | rfl
      · exact fsts_reg ds k n p h
      · rfl
theorem fsts_succ (ds : List (List Str)) (k n : Nat) : fsts ds k (n + 1) = if reg (ds.getD (k + 1 + n) []) ∈ (fsts ds k n).map (·.1) then fsts ds k n else fsts ds k n ++ [(reg (ds.getD (k + 1 + n) []), k + 1 + n)] := rfl
/-- only first places matter -/
theorem fS_fsts {β : Type} (ds : List (List Str)) (k : Nat) (f : Nat → Option β) (hf : ∀ i j, rg ds i = rg ds j → f i = none → f j = none) : ∀ n, ((fsts ds k n).map (·.2)).findSome? f = (List.range' (k + 1) n).findSome? f
  | 0 => rfl
  | n + 1 => by
    have ih := fS_fsts ds k f hf n
    rw [List.range'_1_concat, List.findSome?_append, ← ih, fsts_succ]
    by_cases h : reg (ds.getD (k + 1 + n) []) ∈ (fsts ds k n).map (·.1)
    · rw [if_pos h]
      cases e : ((fsts ds k n).map (·.2)).findSome? f with
      | some b => rfl
      | none =>
        obtain ⟨p, hp, he⟩ := List.mem_map.mp h
        have h1 := List.findSome?_eq_none_iff.mp e p.2 (List.mem_map.mpr ⟨p, hp, rfl⟩)
        have h2 := hf p.2 (k + 1 + n) (by rw [← fsts_reg ds k n p hp]; exact he) h1
        rw [List.findSome?_cons, h2]
        rfl
    · rw [if_neg h, List.map_append, List.findSome?_append]
      rfl
theorem fsts_sorted (ds : List (List Str)) (k : Nat) : ∀ n, ((fsts ds k n).map (·.2)).Pairwise (· < ·)
  | 0 => .nil
  | n + 1 => by
    have ih := fsts_sorted ds k n
    unfold fsts
    split
    · exact ih
    · rw [List.map_append, List.pairwise_append]
      refine ⟨ih, List.pairwise_singleton _ _, fun a ha b hb => ?_⟩
      obtain ⟨p, hp, rfl⟩ := List.mem_map.mp ha
      have h1 := fsts_in ds k n p hp
      have h2 : b = k + 1 + n := by simpa using hb
      omega
/-- a place that is the first of its region stands there -/
theorem mem_fsts (ds : List (List Str)) (k : Nat) : ∀ n j, k < j → j < k + 1 + n → (∀ i, k < i → i < j → rg ds i ≠ rg ds j) → j ∈ (fsts ds k n).map (·.2)
  | 0, j, h1, h2, _ => by omega
  | n + 1, j, h1, h2, h => by
    unfold fsts
    by_cases e : j = k + 1 + n
    · subst e
      rw [if_neg]
      · rw [List.map_append]
        exact List.mem_append_right _ List.mem_cons_self
      · intro hm
        obtain ⟨p, hp, he⟩ := List.mem_map.mp hm
        have h3 := fsts_in ds k n p hp
        exact h p.2 h3.1 h3.2 (by rw [← fsts_reg ds k n p hp]; exact he)
    · have ih := mem_fsts ds k n j h1 (by omega) h
      split
      · exact ih
      · rw [List.map_append]
        exact List.mem_append_left _ ih
/-- the least pair of a rising list -/
def PS (L : List Nat) (B : Nat → Nat → Prop) [∀ p o, Decidable (B p o)] : Option (List Nat) := L.findSome? fun p => L.findSome? fun o => if p < o ∧ B p o then some [p, o] else none
theorem PS_none {L : List Nat} {B : Nat → Nat → Prop} [∀ p o, Decidable (B p o)] : PS L B = none ↔ ∀ p ∈ L, ∀ o ∈ L, ¬ (p < o ∧ B p o) := by
  unfold PS
  rw [List.findSome?_eq_none_iff]
  constructor
  · intro h p hp o ho hh
    have := List.findSome?_eq_none_iff.mp (h p hp) o ho
    rw [if_pos hh] at this
    cases this
  · intro h p hp
    rw [List.findSome?_eq_none_iff]
    intro o ho
    rw [if_neg (h p hp o ho)]
theorem PS_some {L : List Nat} (hs : L.Pairwise (· < ·)) {B : Nat → Nat → Prop} [∀ p o, Decidable (B p o)] {r : List Nat} (h : PS L B = some r) :
    ∃ p o, r = [p, o] ∧ p ∈ L ∧ o ∈ L ∧ p < o ∧ B p o ∧ ∀ p' ∈ L, ∀ o' ∈ L, p' < o' → B p' o' → p < p' ∨ (p = p' ∧ o ≤ o') := by
  unfold PS at h
  obtain ⟨l1, p, l2, e, h1, h2⟩ := List.findSome?_eq_some_iff.mp h
  obtain ⟨m1, o, m2, e', h3, h4⟩ := List.findSome?_eq_some_iff.mp h1
  have hc : p < o ∧ B p o := by
    by_cases c : p < o ∧ B p o
    · exact c
    · rw [if_neg c] at h3
      cases h3
  rw [if_pos hc] at h3
  refine ⟨p, o, (Option.some.inj h3).symm, by rw [e]; simp, by rw [e']; simp, hc.1, hc.2, fun p' hp' o' ho' hlt hb => ?_⟩
  rw [e] at hs
  have hp2 := hp'
  rw [e] at hp2
  rcases List.mem_append.mp hp2 with q | q
  · have := List.findSome?_eq_none_iff.mp (h2 p' q) o' ho'
    rw [if_pos ⟨hlt, hb⟩] at this
    cases this
  · rcases List.mem_cons.mp q with rfl | q
    · refine .inr ⟨rfl, ?_⟩
      rw [e'] at ho'
      rw [← e, e'] at hs
      rcases List.mem_append.mp ho' with u | u
      · have := h4 o' u
        rw [if_pos ⟨hlt, hb⟩] at this
        cases this
      · rcases List.mem_cons.mp u with rfl | u
        · exact Nat.le_refl _
        · exact Nat.le_of_lt ((List.pairwise_cons.mp (List.pairwise_append.mp hs).2.1).1 o' u)
    · exact .inl ((List.pairwise_cons.mp (List.pairwise_append.mp hs).2.1).1 p' q)
theorem lat_sorted (ds : List (List Str)) (k : Nat) : (lat ds k).Pairwise (· < ·) := List.pairwise_lt_range'
theorem mem_lat {ds : List (List Str)} {k j : Nat} : j ∈ lat ds k ↔ k < j ∧ j < ds.length := by
  unfold lat
  rw [List.mem_range'_1]
  omega
theorem later_sorted (ds : List (List Str)) (k : Nat) : (later ds k).Pairwise (· < ·) := fsts_sorted ds k _
/-- the pairs of all later places -/
theorem lat_pairs (ds : List (List Str)) (k : Nat) (B : Nat → Nat → Prop) [∀ p o, Decidable (B p o)] : ((lat ds k).findSome? fun j => (lat ds j).findSome? fun i => if B j i then some [j, i] else none) = PS (lat ds k) B := by
  unfold PS
  refine fS_congr fun p hp => ?_
  have hp' := mem_lat.mp hp
  have e : lat ds k = List.range' (k + 1) (p - k) ++ lat ds p := by
    unfold lat
    have := List.range'_append_1 (s := k + 1) (m := p - k) (n := ds.length - (p + 1))
    rw [show k + 1 + (p - k) = p + 1 by omega] at this
    rw [this]
    congr 1
    omega
  rw [e, List.findSome?_append]
  have h0 : (List.range' (k + 1) (p - k)).findSome? (fun o => if p < o ∧ B p o then some [p, o] else none) = none := by
    rw [List.findSome?_eq_none_iff]
    intro o ho
    rw [if_neg]
    have := List.mem_range'_1.mp ho
    omega
  rw [h0]
  show _ = (lat ds p).findSome? _
  refine fS_congr fun o ho => ?_
  have ho' := mem_lat.mp ho
  by_cases c : B p o
  · rw [if_pos c, if_pos ⟨ho'.1, c⟩]
  · rw [if_neg c, if_neg (fun h => c h.2)]
theorem pairs_eq (ds : List (List Str)) (k : Nat) (B : Nat → Nat → Prop) [∀ p o, Decidable (B p o)] (hsym : ∀ i j, B i j → B j i) (hreg : ∀ i j j', rg ds j = rg ds j' → B i j → B i j') (hirr : ∀ j ∈ lat ds k, ¬ B j j) :
    PS (later ds k) B = PS (lat ds k) B := by
  have sub : ∀ j ∈ later ds k, j ∈ lat ds k := fun j hj => mem_lat.mpr (later_in hj)
  have hfirst : ∀ j, k < j → j < ds.length → (∀ i, k < i → i < j → rg ds i ≠ rg ds j) → j ∈ later ds k := fun j h1 h2 h => mem_fsts ds k _ j h1 (by omega) h
  cases e : PS (lat ds k) B with
  | none =>
    rw [PS_none] at e ⊢
    exact fun p hp o ho => e p (sub p hp) o (sub o ho)
  | some r =>
    obtain ⟨p, o, rfl, hp, ho, hlt, hb, hmin⟩ := PS_some (lat_sorted ds k) e
    have hp' := mem_lat.mp hp
    have ho' := mem_lat.mp ho
    have p1 : p ∈ later ds k := hfirst p hp'.1 hp'.2 fun i h1 h2 er => by
      have hbi : B i o := hsym _ _ (hreg o p i er.symm (hsym _ _ hb))
      have := hmin i (mem_lat.mpr ⟨h1, by omega⟩) o ho (by omega) hbi
      omega
    have o1 : o ∈ later ds k := hfirst o ho'.1 ho'.2 fun i h1 h2 er => by
      have hbi : B p i := hreg p o i er.symm hb
      have hi : i ∈ lat ds k := mem_lat.mpr ⟨h1, by omega⟩
      rcases Nat.lt_trichotomy p i with h | h | h
      · have := hmin p hp i hi h hbi
        omega
      · subst h
        exact hirr p hp hbi
      · have := hmin i hi p hp h (hsym _ _ hbi)
        omega
    cases e2 : PS (later ds k) B with
    | none => exact absurd ⟨hlt, hb⟩ (PS_none.mp e2 p p1 o o1)
    | some r2 =>
      obtain ⟨p2, o2, rfl, hp2, ho2, hlt2, hb2, hmin2⟩ := PS_some (later_sorted ds k) e2
      have q1 := hmin p2 (sub _ hp2) o2 (sub _ ho2) hlt2 hb2
      have q2 := hmin2 p p1 o o1 hlt hb
      have : p = p2 ∧ o = o2 := by omega
      rw [this.1, this.2]
end Cw
end
section
namespace Cw
open PySem PySem.Spec PyProof.Rows L2
theorem here_nil {ps : List (List Str)} {ds : List (List Str)} {k : Nat} : hereM ps ds k = [] ↔ ∀ p ∈ ps, rg ds k ∉ p := by
  unfold hereM
  rw [List.filter_eq_nil_iff]
  simp
theorem d1_nil {ps : List (List Str)} {ds : List (List Str)} {k j : Nat} : (hereM ps ds k).filter (fun p => decide (rg ds j ∉ p)) = [] ↔ ∀ p ∈ ps, rg ds k ∈ p → rg ds j ∈ p := by
  unfold hereM
  rw [List.filter_eq_nil_iff]
  simp
theorem d2_nil {ps : List (List Str)} {ds : List (List Str)} {j i : Nat} : ps.filter (fun p => decide (rg ds j ∉ p) && decide (rg ds i ∉ p)) = [] ↔ ∀ p ∈ ps, ¬ (rg ds j ∉ p ∧ rg ds i ∉ p) := by
  rw [List.filter_eq_nil_iff]
  simp
section
variable {z : List Str} {fs : List Fc} {Ms : List Nat} (hM : MOk z fs Ms) (ok : ∀ f ∈ fs, FOk z f) (hz : z.length ≤ 24) (hP : possM z fs ≠ []) {ds : List (List Str)} (hr : ∀ j, j < ds.length → rg ds j ∈ z) {k : Nat} (hk : k < ds.length)
include hM ok hz hP hr hk
theorem cov_due : covM z Ms ds k = dueM (possM z fs) ds k := by
  have c0 : clsh (cm z Ms (ds.getD k []) true) = true ↔ hereM (possM z fs) ds k = [] := by
    have h := clash2 hM ok hz hP (hr k hk) (hr k hk) true true
    rw [Nat.or_self] at h
    rw [here_nil]
    refine Iff.trans h ?_
    exact ⟨fun h p hp hh => h p hp ⟨hh, hh⟩, fun h p hp hh => h p hp hh.1⟩
  have c1 : ∀ j, j < ds.length → one1 z Ms ds k j = d1 (possM z fs) ds k j := fun j hj => by
    have h : clsh (cm z Ms (ds.getD k []) true ||| cm z Ms (ds.getD j []) false) = true ↔ _ := clash2 hM ok hz hP (hr k hk) (hr j hj) true false
    have h2 := d1_nil (ps := possM z fs) (ds := ds) (k := k) (j := j)
    have h3 : clsh (cm z Ms (ds.getD k []) true ||| cm z Ms (ds.getD j []) false) = true ↔ (hereM (possM z fs) ds k).filter (fun p => decide (rg ds j ∉ p)) = [] := by
      rw [h2]
      refine Iff.trans h ⟨fun h p hp h1 => ?_, fun h p hp hh => hh.2 (h p hp hh.1)⟩
      by_cases c : rg ds j ∈ p
      · exact c
      · exact absurd ⟨h1, c⟩ (h p hp)
    unfold one1 d1
    by_cases c : clsh (cm z Ms (ds.getD k []) true ||| cm z Ms (ds.getD j []) false) = true
    · rw [if_pos c, if_pos (h3.mp c)]
    · rw [if_neg c, if_neg (fun h => c (h3.mpr h))]
  have c2 : ∀ p o, p < ds.length → o < ds.length → two2 z Ms ds p o = if p < o ∧ (possM z fs).filter (fun q => decide (rg ds p ∉ q) && decide (rg ds o ∉ q)) = [] then some [p, o] else none := fun p o hp ho => by
    have h : clsh (cm z Ms (ds.getD p []) false ||| cm z Ms (ds.getD o []) false) = true ↔ _ := clash2 hM ok hz hP (hr p hp) (hr o ho) false false
    have h3 : clsh (cm z Ms (ds.getD p []) false ||| cm z Ms (ds.getD o []) false) = true ↔ (possM z fs).filter (fun q => decide (rg ds p ∉ q) && decide (rg ds o ∉ q)) = [] := by
      rw [d2_nil]
      exact h
    unfold two2
    by_cases c : p < o ∧ clsh (cm z Ms (ds.getD p []) false ||| cm z Ms (ds.getD o []) false) = true
    · rw [if_pos c, if_pos ⟨c.1, h3.mp c.2⟩]
    · rw [if_neg c, if_neg (fun h => c ⟨h.1, h3.mpr h.2⟩)]
  unfold covM dueM
  by_cases h0 : hereM (possM z fs) ds k = []
  · rw [if_pos (c0.mpr h0), if_pos h0]
  rw [if_neg (fun h => h0 (c0.mp h)), if_neg h0]
  have e1 : (later ds k).findSome? (one1 z Ms ds k) = (lat ds k).findSome? (d1 (possM z fs) ds k) := by
    rw [fS_congr (g := d1 (possM z fs) ds k) fun j hj => c1 j (later_in hj).2]
    refine fS_fsts ds k _ (fun i j hij hn => ?_) _
    unfold d1 at hn ⊢
    rw [← hij]
    by_cases c : (hereM (possM z fs) ds k).filter (fun p => decide (rg ds i ∉ p)) = []
    · rw [if_pos c] at hn
      cases hn
    · rw [if_neg c]
  rw [e1]
  cases e : (lat ds k).findSome? (d1 (possM z fs) ds k) with
  | some r => rfl
  | none =>
    show (later ds k).findSome? _ = (lat ds k).findSome? _
    have l1 : ((later ds k).findSome? fun p => (later ds k).findSome? (two2 z Ms ds p)) = PS (later ds k) (fun p o => (possM z fs).filter (fun q => decide (rg ds p ∉ q) && decide (rg ds o ∉ q)) = []) := by
      unfold PS
      exact fS_congr fun p hp => fS_congr fun o ho => c2 p o (later_in hp).2 (later_in ho).2
    rw [l1, pairs_eq]
    · rw [← lat_pairs]
      rfl
    · intro i j h
      rw [d2_nil] at h ⊢
      exact fun p hp hh => h p hp ⟨hh.2, hh.1⟩
    · intro i j j' hjj h
      rw [← hjj]
      exact h
    · intro j hj h
      rw [d2_nil] at h
      have := List.findSome?_eq_none_iff.mp e j hj
      unfold d1 at this
      rw [if_pos] at this
      · cases this
      · rw [d1_nil]
        intro p hp _
        by_cases c : rg ds j ∈ p
        · exact c
        · exact absurd ⟨c, c⟩ (h p hp)
omit hM hz hr in
theorem rg_drop (p : List Str) : (ds.drop (k + 1)).filter (fun d => decide (reg d ∈ p)) = [] ↔ ∀ j, k < j → j < ds.length → rg ds j ∉ p := by
  rw [List.filter_eq_nil_iff]
  constructor
  · intro h j h1 h2 h3
    have hm : ds[j] ∈ ds.drop (k + 1) := by
      rw [List.mem_drop_iff_getElem]
      exact ⟨j - (k + 1), by omega, by congr 1; omega⟩
    have := h _ hm
    rw [decide_eq_true_iff] at this
    refine this ?_
    have e : rg ds j = reg ds[j] := by
      unfold rg
      rw [List.getD_eq_getElem?_getD, List.getElem?_eq_getElem h2]
      rfl
    rw [← e]
    exact h3
  · intro h d hd
    rw [decide_eq_true_iff]
    rw [List.mem_drop_iff_getElem] at hd
    obtain ⟨j, hj, e⟩ := hd
    have := h (k + 1 + j) (by omega) (by omega)
    intro hh
    refine this ?_
    have e2 : rg ds (k + 1 + j) = reg ds[k + 1 + j] := by
      unfold rg
      rw [List.getD_eq_getElem?_getD, List.getElem?_eq_getElem (by omega)]
      rfl
    rw [e2]
    rw [← e] at hh
    exact hh
/-- None just where the deed is not covered -/
theorem due_covered : (dueM (possM z fs) ds k).isNone = !coveredM (possM z fs) ds k := by
  have hcv : coveredM (possM z fs) ds k = true ↔ ∀ p ∈ possM z fs, rg ds k ∈ p → ∃ j, k < j ∧ j < ds.length ∧ rg ds j ∈ p := by
    unfold coveredM
    rw [List.all_eq_true]
    refine forall_congr' fun p => imp_congr_right fun hp => ?_
    have := rg_drop ok hP hk p (k := k) (ds := ds)
    rw [Bool.not_eq_true', Bool.and_eq_false_iff, decide_eq_false_iff_not, decide_eq_false_iff_not, this]
    constructor
    · rintro (h | h) h1
      · exact absurd h1 h
      · by_cases c : ∃ j, k < j ∧ j < ds.length ∧ rg ds j ∈ p
        · exact c
        · exact absurd (fun j h1 h2 h3 => c ⟨j, h1, h2, h3⟩) h
    · intro h
      by_cases c : rg ds k ∈ p
      · obtain ⟨j, h1, h2, h3⟩ := h c
        exact .inr fun hh => hh j h1 h2 h3
      · exact .inl c
  rw [Bool.eq_iff_iff, Option.isNone_iff_eq_none, Bool.not_eq_true', ← Bool.not_eq_true, hcv]
  unfold dueM
  constructor
  · intro h hc
    by_cases h0 : hereM (possM z fs) ds k = []
    · rw [if_pos h0] at h
      cases h
    rw [if_neg h0] at h
    rw [Option.or_eq_none_iff] at h
    obtain ⟨n1, n2⟩ := h
    have a1 : ∀ j, k < j → j < ds.length → ∃ p ∈ possM z fs, rg ds k ∈ p ∧ rg ds j ∉ p := fun j h1 h2 => by
      have := List.findSome?_eq_none_iff.mp n1 j (mem_lat.mpr ⟨h1, h2⟩)
      unfold d1 at this
      by_cases c : (hereM (possM z fs) ds k).filter (fun p => decide (rg ds j ∉ p)) = []
      · rw [if_pos c] at this
        cases this
      · rw [d1_nil] at c
        by_cases cc : ∃ p ∈ possM z fs, rg ds k ∈ p ∧ rg ds j ∉ p
        · exact cc
        · refine absurd (fun p hp h1 => ?_) c
          by_cases ccc : rg ds j ∈ p
          · exact ccc
          · exact absurd ⟨p, hp, h1, ccc⟩ cc
    have a2 : ∀ j i, k < j → j < i → i < ds.length → ∃ p ∈ possM z fs, rg ds j ∉ p ∧ rg ds i ∉ p := fun j i h1 h2 h3 => by
      have h4 := List.findSome?_eq_none_iff.mp n2 j (mem_lat.mpr ⟨h1, by omega⟩)
      have := List.findSome?_eq_none_iff.mp h4 i (mem_lat.mpr ⟨h2, h3⟩)
      unfold d2 at this
      by_cases c : (possM z fs).filter (fun p => decide (rg ds j ∉ p) && decide (rg ds i ∉ p)) = []
      · rw [if_pos c] at this
        cases this
      · rw [d2_nil] at c
        by_cases cc : ∃ p ∈ possM z fs, rg ds j ∉ p ∧ rg ds i ∉ p
        · exact cc
        · exact absurd (fun p hp hh => cc ⟨p, hp, hh⟩) c
    have a0 : ∃ p ∈ possM z fs, rg ds k ∈ p := by
      rw [here_nil] at h0
      by_cases cc : ∃ p ∈ possM z fs, rg ds k ∈ p
      · exact cc
      · exact absurd (fun p hp hh => cc ⟨p, hp, hh⟩) h0
    -- two claims that a patch has do not clash
    have noc : ∀ (s t i : Nat), (∃ p ∈ possM z fs, lit (mp z p) s ∧ lit (mp z p) t) → ¬ (Reach (edgeR z fs) s (2 * i) ∧ Reach (edgeR z fs) t (2 * i + 1)) := fun s t i ⟨p, hp, l1, l2⟩ ⟨r1, r2⟩ => by
      have hm := poss_mod ok hp
      have e1 := reach_lit hm l1 r1
      have e2 := reach_lit hm l2 r2
      rw [lit_even] at e1
      rw [lit_odd, e1] at e2
      cases e2
    obtain ⟨p0, h0p⟩ := List.exists_mem_of_ne_nil _ hP
    rcases pick ok h0p (fun s => s = cl z (rg ds k) true ∨ ∃ j, k < j ∧ j < ds.length ∧ s = cl z (rg ds j) false) (fun s hs => by
      rcases hs with rfl | ⟨j, h1, h2, rfl⟩
      · exact ⟨_, _, hr k hk, rfl⟩
      · exact ⟨_, _, hr j h2, rfl⟩) with ⟨i, s, t, hs, ht, r1, r2⟩ | ⟨p, hp, hl⟩
    · refine noc s t i ?_ ⟨r1, r2⟩
      rcases hs with rfl | ⟨j, h1, h2, rfl⟩
      · rcases ht with rfl | ⟨j', h3, h4, rfl⟩
        · obtain ⟨p, hp, hk2⟩ := a0
          exact ⟨p, hp, (on_lit (hr k hk) true).mpr hk2, (on_lit (hr k hk) true).mpr hk2⟩
        · obtain ⟨p, hp, hk2, hj2⟩ := a1 j' h3 h4
          exact ⟨p, hp, (on_lit (hr k hk) true).mpr hk2, (on_lit (hr j' h4) false).mpr hj2⟩
      · rcases ht with rfl | ⟨j', h3, h4, rfl⟩
        · obtain ⟨p, hp, hk2, hj2⟩ := a1 j h1 h2
          exact ⟨p, hp, (on_lit (hr j h2) false).mpr hj2, (on_lit (hr k hk) true).mpr hk2⟩
        · rcases Nat.lt_trichotomy j j' with q | q | q
          · obtain ⟨p, hp, q1, q2⟩ := a2 j j' h1 q h4
            exact ⟨p, hp, (on_lit (hr j h2) false).mpr q1, (on_lit (hr j' h4) false).mpr q2⟩
          · subst q
            obtain ⟨p, hp, hk2, hj2⟩ := a1 j h1 h2
            exact ⟨p, hp, (on_lit (hr j h2) false).mpr hj2, (on_lit (hr j h2) false).mpr hj2⟩
          · obtain ⟨p, hp, q1, q2⟩ := a2 j' j h3 q h2
            exact ⟨p, hp, (on_lit (hr j h2) false).mpr q2, (on_lit (hr j' h4) false).mpr q1⟩
    · obtain ⟨j, h1, h2, h3⟩ := hc p hp ((on_lit (hr k hk) true).mp (hl _ (.inl rfl)))
      exact (on_lit (hr j h2) false).mp (hl _ (.inr ⟨j, h1, h2, rfl⟩)) h3
  · intro hc
    by_cases h0 : hereM (possM z fs) ds k = []
    · exact absurd (fun p hp hh => absurd hh (here_nil.mp h0 p hp)) hc
    rw [if_neg h0, Option.or_eq_none_iff]
    constructor
    · rw [List.findSome?_eq_none_iff]
      intro j hj
      obtain ⟨h1, h2⟩ := mem_lat.mp hj
      unfold d1
      rw [if_neg]
      intro c
      exact hc fun p hp hh => ⟨j, h1, h2, d1_nil.mp c p hp hh⟩
    · rw [List.findSome?_eq_none_iff]
      intro j hj
      rw [List.findSome?_eq_none_iff]
      intro i hi
      obtain ⟨h1, h2⟩ := mem_lat.mp hj
      obtain ⟨h3, h4⟩ := mem_lat.mp hi
      unfold d2
      rw [if_neg]
      intro c
      refine hc fun p hp hh => ?_
      by_cases cc : rg ds j ∈ p
      · exact ⟨j, h1, h2, cc⟩
      · by_cases c3 : rg ds i ∈ p
        · exact ⟨i, by omega, h4, c3⟩
        · exact absurd ⟨cc, c3⟩ (d2_nil.mp c p hp)
end
/-- the facts hold together: no contradiction -/
theorem no_contra {z : List Str} {fs : List Fc} (ok : ∀ f ∈ fs, FOk z f) (hP : possM z fs ≠ []) (c : Nat) : ¬ (Reach (edgeR z fs) (2 * c) (2 * c + 1) ∧ Reach (edgeR z fs) (2 * c + 1) (2 * c)) := by
  rintro ⟨r1, r2⟩
  obtain ⟨p, hp⟩ := List.exists_mem_of_ne_nil _ hP
  have hm := poss_mod ok hp
  cases e : mp z p c with
  | true =>
    have := reach_lit hm (lit_odd.mpr e) r2
    rw [lit_even, e] at this
    cases this
  | false =>
    have := reach_lit hm (lit_even.mpr e) r1
    rw [lit_odd, e] at this
    cases this
theorem poss_sub {z : List Str} {fs gs : List Fc} (h : ∀ f ∈ gs, f ∈ fs) (hP : possM z fs ≠ []) : possM z gs ≠ [] := by
  obtain ⟨p, hp⟩ := List.exists_mem_of_ne_nil _ hP
  have h1 := mem_poss.mp hp
  exact List.ne_nil_of_mem (mem_poss.mpr ⟨h1.1, fun f hf => h1.2 f (h f hf)⟩)
/-- facts that hold together do so whatever the names' order is -/
theorem poss_perm {z y : List Str} {fs : List Fc} (ok : ∀ f ∈ fs, FOk z f) (h : ∀ x, x ∈ z ↔ x ∈ y) (hP : possM z fs ≠ []) : possM y fs ≠ [] := by
  obtain ⟨p, hp⟩ := List.exists_mem_of_ne_nil _ hP
  have h1 := mem_poss.mp hp
  refine List.ne_nil_of_mem (mem_poss.mpr ⟨allP_filter (fun x => decide (x ∈ p)) y, fun f hf => ?_⟩)
  have e : ∀ x ∈ z, (x ∈ y.filter (fun x => decide (x ∈ p)) ↔ x ∈ p) := fun x hx => by
    rw [List.mem_filter, decide_eq_true_iff]
    exact ⟨fun h => h.2, fun hh => ⟨(h x).mp hx, hh⟩⟩
  have k1 := h1.2 f hf
  unfold keepsM at k1 ⊢
  simp only [e _ (ok f hf).a, e _ (ok f hf).b] at k1 ⊢
  exact k1
end Cw
end
section
/-! Data that are compared. -/
namespace Cw
open PySem PySem.Spec PyProof.Rows L2
theorem sok_valid {z : Str} (h : Valid z) : PyData.strOk z = true := by
  unfold PyData.strOk
  rw [← Array.all_toList, List.all_eq_true]
  intro c hc
  have := (h.2.2 c hc).2
  exact decide_eq_true (by omega)
theorem cla_map {α : Type} {f : α → PyData} : ∀ {l : List α}, (∀ x ∈ l, PyData.canLay0 (f x) = true) → PyData.canLayAll0 (l.map f) = true
  | [], _ => rfl
  | x :: r, h => by
    show (PyData.canLay0 (f x) && PyData.canLayAll0 (r.map f)) = true
    rw [h x List.mem_cons_self, cla_map fun y hy => h y (List.mem_cons_of_mem _ hy)]
    rfl
theorem dpt_map {α : Type} {f : α → PyData} {n : Nat} : ∀ {l : List α}, (∀ x ∈ l, PyData.depth (f x) ≤ n) → PyData.depthAll (l.map f) ≤ n
  | [], _ => Nat.zero_le _
  | x :: r, h => by
    show max (PyData.depth (f x)) (PyData.depthAll (r.map f)) ≤ n
    exact Nat.max_le.mpr ⟨h x List.mem_cons_self, dpt_map fun y hy => h y (List.mem_cons_of_mem _ hy)⟩
theorem eqa_map {α : Type} [DecidableEq α] {f : α → PyData} (hf : ∀ a b, PyData.eqv (f a) (f b) = decide (a = b)) : ∀ (l m : List α), PyData.eqvAll (l.map f) (m.map f) = decide (l = m)
  | [], [] => by simp [PyData.eqvAll]
  | [], _ :: _ => by simp [PyData.eqvAll]
  | _ :: _, [] => by simp [PyData.eqvAll]
  | x :: r, y :: s => by
    rw [List.map_cons, List.map_cons, PyData.eqvAll, hf, eqa_map hf r s, ← Bool.decide_and]
    exact decide_eq_decide.mpr (by rw [List.cons.injEq])
theorem cl_eL {l : List Str} (h : ∀ x ∈ l, PyData.strOk x = true) : PyData.canLay0 (eL l) = true := by
  unfold PyData.canLay0
  exact cla_map h
theorem cl_eT {l : List Str} (h : ∀ x ∈ l, PyData.strOk x = true) : PyData.canLay0 (eT l) = true := by
  unfold PyData.canLay0
  exact cla_map h
theorem dp_eLd {l : List Str} : PyData.depth (eL l) ≤ 1 := by
  unfold PyData.depth
  exact Nat.succ_le_succ (dpt_map fun _ _ => Nat.le_refl 0)
theorem dp_eTd {l : List Str} : PyData.depth (eT l) ≤ 1 := by
  unfold PyData.depth
  exact Nat.succ_le_succ (dpt_map fun _ _ => Nat.le_refl 0)
/-- lists of such may be compared -/
theorem sh_list {α : Type} {f : α → PyData} {l : List α} (h : ∀ x ∈ l, PyData.canLay0 (f x) = true) (hd : ∀ x ∈ l, PyData.depth (f x) ≤ 10) : SeqAt.shaped (.list (l.map f)) = true := by
  unfold SeqAt.shaped
  rw [Bool.and_eq_true, decide_eq_true_iff]
  refine ⟨?_, ?_⟩
  · unfold PyData.canLay0
    exact cla_map h
  · unfold PyData.depth
    have := dpt_map hd
    omega
theorem sh_nil : SeqAt.shaped (.list []) = true := rfl
theorem sh_dL (l : List Nat) : SeqAt.shaped (dL l) = true := sh_list (fun _ _ => rfl) (fun _ _ => Nat.zero_le _)
theorem sh_eLs {l : List (List Str)} (h : ∀ p ∈ l, ∀ x ∈ p, PyData.strOk x = true) : SeqAt.shaped (.list (l.map eL)) = true := sh_list (fun p hp => cl_eL (h p hp)) (fun p _ => Nat.le_trans dp_eLd (by decide))
theorem sh_eTs {l : List (List Str)} (h : ∀ p ∈ l, ∀ x ∈ p, PyData.strOk x = true) : SeqAt.shaped (.list (l.map eT)) = true := sh_list (fun p hp => cl_eT (h p hp)) (fun p _ => Nat.le_trans dp_eTd (by decide))
theorem eqv_nil (ds : List PyData) : PyData.eqv (.list ds) (.list []) = decide (ds = []) := by
  cases ds with
  | nil => simp [PyData.eqv, PyData.eqvAll]
  | cons d r => simp [PyData.eqv, PyData.eqvAll]
theorem eqv_nil_map {α : Type} {f : α → PyData} (l : List α) : PyData.eqv (.list (l.map f)) (.list []) = decide (l = []) := by
  rw [eqv_nil]
  exact decide_eq_decide.mpr List.map_eq_nil_iff
theorem eqv_dL (l m : List Nat) : PyData.eqv (dL l) (dL m) = decide (l = m) := by
  unfold dL PyData.eqv
  refine eqa_map (fun a b => ?_) l m
  unfold PyData.eqv
  rw [Bool.eq_iff_iff, beq_iff_eq, decide_eq_true_iff]
  omega
/-- an answer of covers as data -/
def oD : Option (List Nat) → PyData
  | none => .none
  | some l => dL l
theorem sh_oD (o : Option (List Nat)) : SeqAt.shaped (oD o) = true := by
  cases o with
  | none => rfl
  | some l => exact sh_dL l
theorem eqv_oD (a b : Option (List Nat)) : PyData.eqv (oD a) (oD b) = decide (a = b) := by
  cases a with
  | none =>
    cases b with
    | none => rfl
    | some m => rfl
  | some l =>
    cases b with
    | none => rfl
    | some m =>
      show PyData.eqv (dL l) (dL m) = _
      rw [eqv_dL]
      exact decide_eq_decide.mpr (by rw [Option.some.injEq])
theorem ans_dp {K : PySem.W.Frag} {H H' : Hp} {v : V} {o : Option (List Nat)} (h : AnsV H H' v o) : Dp K H' v (oD o) := by
  unfold AnsV at h
  cases o with
  | none =>
    rw [h.1]
    exact .non
  | some l =>
    obtain ⟨p, rfl, _, _, h4⟩ := h
    exact .lst (.inl (.inl h4)) (dpAll_nat l)
theorem ans_same {H H' : Hp} {v : V} {o : Option (List Nat)} (h : AnsV H H' v o) : Same H H' := by
  unfold AnsV at h
  cases o with
  | none => exact h.2
  | some l =>
    obtain ⟨p, rfl, _, h3, h4⟩ := h
    exact h3
end Cw
end
section
namespace Cw
open PySem PySem.Spec PyProof.Rows L2
section
variable {P : Program} {w : World} {K : PySem.W.Frag} {mg : Str → Option Value} {base : Heap}
def spMixed : Sp := fun vs H Q _ => ∃ a b : Int, vs = [.int a, .int b] ∧ ∀ n : Int, Q (.int n) H
theorem ok_mixed (D : Dfn K mg "_law_mixed" s_law_mixed ["_law_cell", "_law_k"]) (T : Txt K mg w) : C8.Cal P w K mg base 1 "_law_mixed" spMixed [] := by
  refine cal_of D sc_mixed (fun vs H Q E h => ?_) (fun cdv A outer s H vs Q E f hr h => ?_)
  · obtain ⟨a, b, rfl, _⟩ := h
    rfl
  · obtain ⟨a, b, rfl, q⟩ := h
    have nd := sc_mixed.nd
    refine ⟨_, (pss_cons (ps_set (i := 2) nd rfl (.inl rfl) (pe_op op_mod (pe_op op_add (pe_op op_add (pe_op op_mul (pe_op op_mod (pe_callTy call_int1 (by rfl) T.b_int (by decide +kernel) (pa_cons (pv 0) pa_nil)) pe_int) pe_int) (pe_op op_mul (pv 1) pe_int)) pe_int) pe_int))
    (pss_cons (ps_set (i := 2) nd rfl (.inl rfl) (pe_op op_mod (pe_op op_mul (pv 2) (pv 2)) pe_int))
    (pss_one (ps_ret (pe_op op_fdiv (pe_op op_mod (pe_op op_mul (pv 2) (pv 2)) pe_int) pe_int))))), ?_⟩
    have c64 : ∀ (i m : Int), 0 < m → m ≤ 2147483647 → -(2 ^ 64) < i % m ∧ i % m < 2 ^ 64 := fun i m h1 h2 => by
      have h3 := Int.emod_nonneg i (by omega : m ≠ 0)
      have h4 := Int.emod_lt_of_pos i h1
      constructor <;> omega
    refine ⟨.int a, rfl, .inl ⟨a, rfl, _, _, rfl, rfl, (by decide : (0 : Int) < 2147483647), _, _, rfl, rfl, .inr ⟨by decide, by decide⟩, .int b, rfl, _, _, rfl, rfl, .inr ⟨by decide, by decide⟩, _, _, rfl, rfl, _, _, rfl, rfl, _, _, rfl, rfl, (by decide : (0 : Int) < 2147483647), ?_⟩⟩
    refine ⟨_, rfl, _, rfl, _, _, rfl, rfl, .inl (c64 _ _ (by decide) (by decide)), _, _, rfl, rfl, (by decide : (0 : Int) < 2147483629), ?_⟩
    exact ⟨_, rfl, _, rfl, _, _, rfl, rfl, .inl (c64 _ _ (by decide) (by decide)), _, _, rfl, rfl, (by decide : (0 : Int) < 2147483587), _, _, rfl, rfl, ⟨by decide, by decide⟩, q _⟩
def spPile (K : PySem.W.Frag) : Sp := fun vs H Q _ => ∃ (s : Addr) (ns : List Int) (k : Nat), vs = [.ref s, .int (k : Nat)] ∧ SqL K H s (ns.map V.int) ∧ ∀ p H', H p = none → Same H H' → Pile H' p → Q (.ref p) H'
theorem ok_pile (D : Dfn K mg "_law_pile" s_law_pile ["_law_script", "_law_k"]) (T : Txt K mg w) : C8.Cal P w K mg base 1 "_law_pile" (spPile K) [] := by
  refine cal_of D sc_pile (fun vs H Q E h => ?_) (fun cdv A outer s H vs Q E f hr h => ?_)
  · obtain ⟨a, b, k, rfl, _⟩ := h
    rfl
  · obtain ⟨sc, ns, k, rfl, hs, q⟩ := h
    have nd := sc_pile.nd
    refine ⟨_, (pss_cons (ps_set (i := 2) nd rfl (.inl rfl) pe_int)
    (pss_cons (ps_if (pt_cmpR op_lt (pv 1) (pe_callB call_len_seq (by rfl) T.b_len boot_len (pa_cons (pv 0) pa_nil)) (nomark _))
      (pss_one (ps_set (i := 2) nd rfl (.inl rfl) (pe_ix ix_list (pv 0) (pv 1) (fun _ _ => rfl))))
      pss_nil)
    (pss_cons (ps_set (i := 3) nd rfl (.inl rfl) (pe_op op_mod (pe_callTy call_int1 (by rfl) T.b_int (by decide +kernel) (pa_cons (pv 2) pa_nil)) (pe_op op_mulW (pe_op op_mulW (pe_op op_pow pe_int pe_int) (pe_op op_pow pe_int pe_int)) (pe_op op_pow pe_int pe_int))))
    (pss_one (ps_ret (pe_lst (pa_cons (pe_op op_mul (pv 3) (pe_callTy call_int1 (by rfl) T.b_int (by decide +kernel) (pa_cons (pe_cmpR op_ge (pe_callB call_abs (by rfl) T.b_abs (by decide +kernel) (pa_cons (pv 2) pa_nil)) (pe_op op_pow pe_int pe_int) (nomark _)) pa_nil))) (pa_cons (pe_op op_mod (pe_callTy call_int1 (by rfl) T.b_int (by decide +kernel) (pa_cons (pv 2) pa_nil)) pe_int) (pa_cons (pe_op op_mul pe_int (pv 1)) pa_nil))))))))), ?_⟩
    have bb : ∀ b : Bool, -(2 ^ 64) < (if b then (1 : Int) else 0) ∧ (if b then (1 : Int) else 0) < 2 ^ 64 := by
      intro b
      cases b <;> decide
    have cp : CPow 10 50 := ⟨by decide, by decide, by decide⟩
    have fin : ∀ (c : Int), (tSeq (tAsg (tOp (rI (fun _ j => 0 < j) fun i j => .int (i % j)) (tCB (fun xs H Q => (∃ i, xs = [.int i] ∧ Q (.int i) H) ∨ ∃ k, xs = [.bl k] ∧ Q (.int (if k then 1 else 0)) H) (tCons (tVar 2) tNil)) (tOp (rI CMulW fun i j => .int (i * j)) (tOp (rI CMulW fun i j => .int (i * j)) (tOp (rI CPow fun i j => .int (i ^ j.toNat)) (tC (.int 10)) (tC (.int 50))) (tOp (rI CPow fun i j => .int (i ^ j.toNat)) (tC (.int 10)) (tC (.int 50)))) (tOp (rI CPow fun i j => .int (i ^ j.toNat)) (tC (.int 10)) (tC (.int 50))))) (gName 3))
      (tRet (tLst (tCons (tOp (rI CMul fun i j => .int (i * j)) (tVar 3) (tCB (fun xs H Q => (∃ i, xs = [.int i] ∧ Q (.int i) H) ∨ ∃ k, xs = [.bl k] ∧ Q (.int (if k then 1 else 0)) H) (tCons (tOp (rI0 fun i j => .bl (decide (j ≤ i))) (tCB (fun xs H Q => ∃ i, xs = [.int i] ∧ Q (.int (if i < 0 then -i else i)) H) (tCons (tVar 2) tNil)) (tOp (rI CPow fun i j => .int (i ^ j.toNat)) (tC (.int 10)) (tC (.int 18)))) tNil)))
        (tCons (tOp (rI (fun _ j => 0 < j) fun i j => .int (i % j)) (tCB (fun xs H Q => (∃ i, xs = [.int i] ∧ Q (.int i) H) ∨ ∃ k, xs = [.bl k] ∧ Q (.int (if k then 1 else 0)) H) (tCons (tVar 2) tNil)) (tC (.int 2147483647))) (tCons (tOp (rI CMul fun i j => .int (i * j)) (tC (.int 97)) (tVar 1)) tNil)))))) { nx := fun _ H' => Q .non H', rt := Q } [some (.ref sc), some (.int (k : Nat)), some (.int c), none] H := fun c => by
      refine ⟨.int c, rfl, .inl ⟨c, rfl, 10, 50, rfl, rfl, cp, 10, 50, rfl, rfl, cp, _, _, rfl, rfl, ?_, 10, 50, rfl, rfl, cp, _, _, rfl, rfl, ?_, _, _, rfl, rfl, ?_, ?_⟩⟩
      · exact wide_mul (a := 200) (b := 200) (by decide) (by decide) (by decide) (by decide) (by decide)
      · exact wide_mul (a := 400) (b := 200) (by decide) (by decide) (by decide) (by decide) (by decide)
      · show (0 : Int) < _
        decide
      refine ⟨_, rfl, .int c, rfl, c, rfl, 10, 18, rfl, rfl, ⟨by decide, by decide, by decide⟩, _, _, rfl, rfl, .inr ⟨_, rfl, _, _, rfl, rfl, .inr (bb _), .int c, rfl, .inl ⟨c, rfl, _, _, rfl, rfl, (by decide : (0 : Int) < 2147483647), .int (k : Nat), rfl, _, _, rfl, rfl, .inl ⟨by decide, by decide⟩, (show 3 ≤ sizeLine by decide), fun p hp => q p _ hp (same_upd hp) ⟨_, _, _, upd_same⟩⟩⟩⟩
    refine ⟨.int (k : Nat), rfl, .ref sc, rfl, sc, _, rfl, .inl hs, _, _, rfl, rfl, decide (k < ns.length), ?_, ?_⟩
    · dsimp only
      congr 1
      apply decide_eq_decide.mpr
      rw [List.length_map]
      omega
    by_cases h : k < ns.length
    · rw [decide_eq_true h]
      exact iteT ⟨.ref sc, rfl, .int (k : Nat), rfl, sc, _, (k : Nat), .int ns[k], rfl, rfl, hs, atI_nat (by rw [List.getElem?_map, List.getElem?_eq_getElem h]; rfl), fin _⟩
    · rw [decide_eq_false h]
      exact iteF (fin 0)
/-- something new may be changed -/
theorem But.mut {p a : Addr} {H H' : Hp} {o : HO} (s : But p H H') (h : H a = none) : But p H (L2.upd H' a o) := fun b x e => by
  by_cases hb : b = p
  · rw [hb, wo_self] at e
    cases e
  · rw [wo_ne hb] at e ⊢
    rw [upd_ne (ne_of_none e h)]
    exact s.at hb e
theorem Pile.sq {K : PySem.W.Frag} {H : Hp} {p : Addr} {xs : List V} (h : H p = some (.lst xs)) : SqL K H p xs := .inl (.inl h)
def spTake : Sp := fun vs H Q _ => ∃ (p : Addr) (m : Nat), vs = [.ref p, .int (m : Nat)] ∧ Pile H p ∧ 0 < m ∧ m < 1073741824 ∧ ∀ (d : Nat) H', d < m → But p H H' → Pile H' p → Q (.int (d : Nat)) H'
theorem ok_take (D : Dfn K mg "_law_take" s_law_take ["_law_pile_here", "_law_many"]) (T : Txt K mg w) (c_mixed : C8.Cal P w K mg base 1 "_law_mixed" spMixed []) : C8.Cal P w K mg base 2 "_law_take" spTake [] := by
  refine cal_of D sc_take (fun vs H Q E h => ?_) (fun cdv A outer s H vs Q E f hr h => ?_)
  · obtain ⟨a, b, rfl, _⟩ := h
    rfl
  · obtain ⟨p, m, rfl, ⟨g, c, k, hp⟩, h0, h1, q⟩ := h
    have nd := sc_take.nd
    refine ⟨_, (pss_cons (ps_if (pt_cmpR op_eq (pe_ix ix_list (pv 0) pe_int (fun _ _ => rfl)) pe_int (nomark _))
      (pss_cons (ps_asg (pe_op op_add (pe_ix ix_list (pv 0) pe_int (fun _ _ => rfl)) pe_int) (pg_sub (pv 0) pe_int set_list))
      (pss_one (ps_ret (pe_op op_mod (C8.pe_c c_mixed hr (by decide) rfl (pa_cons (pe_ix ix_list (pv 0) pe_int (fun _ _ => rfl)) (pa_cons (pe_ix ix_list (pv 0) pe_int (fun _ _ => rfl)) pa_nil))) (pv 1)))))
      pss_nil)
    (pss_cons (ps_set (i := 2) nd rfl (.inl rfl) (pe_op op_mod (pe_callTy call_int1 (by rfl) T.b_int (by decide +kernel) (pa_cons (pe_ix ix_list (pv 0) pe_int (fun _ _ => rfl)) pa_nil)) (pv 1)))
    (pss_cons (ps_asg (pe_op op_fdiv (pe_ix ix_list (pv 0) pe_int (fun _ _ => rfl)) (pv 1)) (pg_sub (pv 0) pe_int set_list))
    (pss_one (ps_ret (pv 2)))))), ?_⟩
    have md : ∀ n : Int, ∃ d : Nat, n % (m : Int) = (d : Int) ∧ d < m := fun n => by
      have h3 := Int.emod_nonneg n (show (m : Int) ≠ 0 by omega)
      have h4 := Int.emod_lt_of_pos n (show (0 : Int) < m by omega)
      exact ⟨(n % (m : Int)).toNat, by omega, by omega⟩
    refine ⟨.ref p, rfl, p, _, 0, .int g, rfl, rfl, Pile.sq hp, rfl, rfl, decide (V.int g = V.int 0), rfl, ?_⟩
    by_cases hg : V.int g = V.int 0
    · rw [decide_eq_true hg]
      refine iteT ⟨.ref p, rfl, p, _, 2, .int k, rfl, rfl, Pile.sq hp, rfl, k, 1, rfl, rfl, .ref p, rfl, p, _, 2, 2, rfl, rfl, hp, rfl, ?_⟩
      have hp2 : (upd H p (.lst ([V.int g, .int c, .int k].set 2 (.int (k + 1))))) p = some (.lst [V.int g, .int c, .int (k + 1)]) := upd_same
      refine ⟨.ref p, rfl, p, _, 1, .int c, rfl, rfl, Pile.sq hp2, rfl, .ref p, rfl, p, _, 2, .int (k + 1), rfl, rfl, Pile.sq hp2, rfl, _, _, rfl, fun n => ?_⟩
      obtain ⟨d, e, hd⟩ := md n
      refine ⟨.int (m : Nat), rfl, n, (m : Nat), rfl, rfl, (show (0 : Int) < m by omega), ?_⟩
      dsimp only
      rw [e]
      exact q d _ hd But.upd ⟨_, _, _, hp2⟩
    · rw [decide_eq_false hg]
      obtain ⟨d, e, hd⟩ := md g
      refine iteF ⟨.ref p, rfl, p, _, 0, .int g, rfl, rfl, Pile.sq hp, rfl, .inl ⟨g, rfl, .int (m : Nat), rfl, g, (m : Nat), rfl, rfl, (show (0 : Int) < m by omega), ?_⟩⟩
      dsimp only
      rw [e]
      refine ⟨.ref p, rfl, p, _, 0, .int g, rfl, rfl, Pile.sq hp, rfl, .int (m : Nat), rfl, g, (m : Nat), rfl, rfl, ⟨by omega, by omega⟩, .ref p, rfl, p, _, 0, 0, rfl, rfl, hp, rfl, ?_⟩
      exact ⟨.int (d : Nat), rfl, q d _ hd But.upd ⟨_, _, _, upd_same⟩⟩
theorem erase_map {α β : Type} (f : α → β) (l : List α) (d : Nat) : (l.map f).eraseIdx d = (l.eraseIdx d).map f := by
  rw [List.eraseIdx_eq_take_drop_succ, List.eraseIdx_eq_take_drop_succ, List.map_append, List.map_take, List.map_drop]
theorem erase_perm {α : Type} {l : List α} {d : Nat} (h : d < l.length) : ([l[d]] ++ l.eraseIdx d).Perm l := by
  rw [List.eraseIdx_eq_take_drop_succ]
  have e : l.take d ++ l[d] :: l.drop (d + 1) = l := by rw [← List.drop_eq_getElem_cons h, List.take_append_drop]
  conv => rhs; rw [← e]
  show (l[d] :: (l.take d ++ l.drop (d + 1))).Perm _
  exact List.perm_middle.symm
def spOrder : Sp := fun vs H Q _ => ∃ (p : Addr) (m : Nat), vs = [.ref p, .int (m : Nat)] ∧ Pile H p ∧ m ≤ 100 ∧ ∀ q H' (l : List Nat), H q = none → But p H H' → Pile H' p → l.Perm (List.range m) → H' q = some (.lst (l.map fun (x : Nat) => V.int (x : Int))) → Q (.ref q) H'
theorem ok_order (D : Dfn K mg "_law_order" s_law_order ["_law_pile_here", "_law_many"]) (T : Txt K mg w) (c_take : C8.Cal P w K mg base 2 "_law_take" spTake []) : C8.Cal P w K mg base 3 "_law_order" spOrder [] := by
  refine cal_of D sc_order (fun vs H Q E h => ?_) (fun cdv A outer s H vs Q E f hr h => ?_)
  · obtain ⟨a, b, rfl, _⟩ := h
    rfl
  · obtain ⟨p, m, rfl, hp, hm, q⟩ := h
    have nd := sc_order.nd
    refine ⟨_, (pss_cons (ps_set (i := 2) nd rfl (.inl rfl) (pe_listRg rfl rfl T.b_list (prg_1 rfl T.b_range (pv 1))))
    (pss_cons (ps_set (i := 3) nd rfl (.inl rfl) (pe_lst pa_nil))
    (pss_cons (ps_while PassesOwn.never (pt_cmpR (op_neD (hu64 hr)) (pv 2) (pe_lst pa_nil) (nomark _))
      (pss_one (ps_expr (pe_bm PySem.F.plainAttrs_list PySem.F.slot_list_append PySem.F.type_list_append mt_append (pv 3) (pa_cons (pe_bm PySem.F.plainAttrs_list PySem.F.slot_list_pop PySem.F.type_list_pop mt_popAt (pv 2) (pa_cons (C8.pe_c c_take hr (by decide) rfl (pa_cons (pv 0) (pa_cons (pe_callB call_len_seq (by rfl) T.b_len boot_len (pa_cons (pv 2) pa_nil)) pa_nil))) pa_nil)) pa_nil)))))
    (pss_one (ps_ret (pv 3)))))), ?_⟩
    have hpn : ∀ {b : Addr}, H b = none → b ≠ p := fun h => hp.ne h
    refine ⟨.int (m : Nat), rfl, (m : Nat), rfl, ?_, fun a ha => ?_⟩
    · exact .of_le (by omega) (by omega) (by omega) (by omega)
    refine ⟨(show 0 ≤ sizeLine by decide), fun b hb => ?_⟩
    have ea : rgV 0 (m : Nat) = (List.range m).map fun (x : Nat) => V.int (x : Int) := by
      unfold rgV
      simp
    rw [ea] at hb ⊢
    have hab : b ≠ a := fun e => by
      rw [e, upd_same] at hb
      cases hb
    rw [upd_ne hab] at hb
    have hap := hpn ha
    have hbp := hpn hb
    refine ⟨fun n σ H' => ∃ (ls fs : List Nat), σ = [some (V.ref p), some (V.int (m : Nat)), some (V.ref a), some (V.ref b)] ∧ But p H H' ∧ Pile H' p ∧ H' a = some (.lst (ls.map fun (x : Nat) => V.int (x : Int))) ∧ H' b = some (.lst (fs.map fun (x : Nat) => V.int (x : Int))) ∧ (fs ++ ls).Perm (List.range m) ∧ n = ls.length,
      ⟨m, List.range m, [], rfl, (But.mut (But.of_same (same_upd ha)) hb), ?_, ?_, upd_same, .refl _, by simp⟩, ?_⟩
    · obtain ⟨g, c, k, h⟩ := hp
      exact ⟨g, c, k, by rw [upd_ne hbp.symm, upd_ne hap.symm]; exact h⟩
    · rw [upd_ne hab.symm, upd_same]
    rintro n σ H1 ⟨ls, fs, rfl, bu, hp1, hla, hfb, perm, rfl⟩
    have hlen := perm.length_eq
    rw [List.length_append, List.length_range] at hlen
    refine ⟨.ref a, rfl, (show 0 ≤ sizeLine by decide), fun e he => ?_⟩
    have hea : a ≠ e := ne_of_none hla he
    have heb : b ≠ e := ne_of_none hfb he
    have hep : e ≠ p := hp1.ne he
    refine ⟨dL ls, .list [], .lst (xs := ls.map fun (x : Nat) => V.int (x : Int)) (.inl (.inl (by rw [upd_ne hea]; exact hla))) (dpAll_nat ls), .lst (.inl (.inl upd_same)) .nil, sh_dL ls, sh_nil, !decide (ls = []), ?_, ?_⟩
    · show V.bl (!PyData.eqv (dL ls) (.list [])) = _
      unfold dL
      rw [eqv_nil_map]
    by_cases hls : ls = []
    · rw [decide_eq_true hls]
      subst hls
      rw [List.append_nil] at perm
      refine iteF ⟨.ref b, rfl, q b _ fs hb (bu.trans (But.of_same (same_upd he))) ?_ perm (by rw [upd_ne heb]; exact hfb)⟩
      obtain ⟨g, c, k, h⟩ := hp1
      exact ⟨g, c, k, by rw [upd_ne hep.symm]; exact h⟩
    · rw [decide_eq_false hls]
      have hl0 : 0 < ls.length := List.length_pos_iff.mpr hls
      refine iteT ⟨_, fun σ' H' h => ⟨ls.length - 1, by omega, h⟩, ?_⟩
      have hp2 : Pile (upd H1 e (.lst [])) p := hp1.same (same_upd he)
      refine ⟨.ref b, rfl, .inl ⟨rfl, _, .inl (.inl (by rw [upd_ne heb]; exact hfb))⟩, .ref a, rfl, .inl ⟨rfl, _, .inl (.inl (by rw [upd_ne hea]; exact hla))⟩, .ref p, rfl, .ref a, rfl, a, _, rfl, .inl (.inl (.inl (by rw [upd_ne hea]; exact hla))), p, ls.length, by rw [List.length_map]; rfl, hp2, hl0, by omega, fun d H2 hd bu2 hp3 => ?_⟩
      have hla2 := bu2.at hap (o := .lst (ls.map fun (x : Nat) => V.int (x : Int))) (by rw [upd_ne hea]; exact hla)
      have hfb2 := bu2.at hbp (o := .lst (fs.map fun (x : Nat) => V.int (x : Int))) (by rw [upd_ne heb]; exact hfb)
      refine ⟨a, _, (d : Nat), d, .int (ls[d] : Nat), rfl, rfl, hla2, by omega, by omega, ?_, by rw [List.getElem?_map, List.getElem?_eq_getElem hd]; rfl, b, _, .int (ls[d] : Nat), rfl, rfl, by rw [upd_ne hab]; exact hfb2, ?_, ls.eraseIdx d, fs ++ [ls[d]], rfl, ?_, ?_, ?_, ?_, ?_, ?_⟩
      · rw [List.length_map, seqIndex_of (by omega) (by omega), Int.toNat_natCast]
      · rw [List.length_map, sizeLine_eq]
        omega
      · exact But.mut (But.mut ((bu.trans (But.of_same (same_upd he))).trans bu2) ha) hb
      · obtain ⟨g, c, k, h⟩ := hp3
        exact ⟨g, c, k, by rw [upd_ne hbp.symm, upd_ne hap.symm]; exact h⟩
      · rw [upd_ne hab.symm, upd_same]
        congr 2
        exact erase_map _ _ _
      · rw [upd_same, List.map_append]
        rfl
      · refine List.Perm.trans ?_ perm
        rw [List.append_assoc]
        exact List.Perm.append_left _ (erase_perm hd)
      · rw [List.length_eraseIdx, if_pos hd]
end
end Cw
end
section
namespace Cw
open PySem PySem.Spec PyProof.Rows L2
/-- a text by its signs -/
abbrev Sx (l : List Nat) : Str := ⟨l.toArray⟩
theorem Sx_inj {a b : List Nat} (h : Sx a = Sx b) : a = b := SX.S_inj h
theorem Sx_cat (a b : List Nat) : Sx a ++ Sx b = Sx (a ++ b) := SX.S_cat a b
theorem Sx_len (a : List Nat) : (Sx a).length = a.length := SX.S_len a
def stepsL : List Nat := [1, 3, 5, 7, 9, 11, 15, 17, 19, 21, 23, 25]
def bodyL (st : List Nat) (at_ sh sp k : Nat) : List Nat := st.take at_ ++ [97 + (sh + sp * k) % 26] ++ st.drop at_
def nmL (st : List Nat) (at_ sh sp k : Nat) : List Nat := bodyL st at_ sh sp k ++ if st.length < 11 ∧ k % 2 = 1 then [97] else []
def plainL : List Str := ["a", "b", "ab", "c", "ba", "abc", "aa", "bc", "aab", "ca", "cab", "d", "abd", "bca", "e"]
def z12 : Str := "zzzzzzzzzzzz"
def y12 : Str := "yyyyyyyyyyyy"
/-- what names promise -/
structure NOk (m : Nat) (z : List Str) : Prop where
  len : z.length = m
  nd : z.Nodup
  ok : ∀ x ∈ z, Valid x
  free : ¬ (z12 ∈ z ∧ y12 ∈ z)
theorem step_inj : ∀ sp ∈ stepsL, ∀ sh : Fin 26, ∀ k k' : Fin 7, (97 + (sh.val + sp * k.val) % 26 = 97 + (sh.val + sp * k'.val) % 26) → k = k' := by decide +kernel
theorem body_len {st : List Nat} {at_ sh sp k : Nat} : (bodyL st at_ sh sp k).length = st.length + 1 := by
  unfold bodyL
  simp only [List.length_append, List.length_take, List.length_drop, List.length_singleton]
  omega
theorem mem_body {st : List Nat} {at_ sh sp k c : Nat} : c ∈ bodyL st at_ sh sp k ↔ c ∈ st ∨ c = 97 + (sh + sp * k) % 26 := by
  unfold bodyL
  rw [List.mem_append, List.mem_append, List.mem_singleton]
  constructor
  · rintro ((h | h) | h)
    · exact .inl (List.mem_of_mem_take h)
    · exact .inr h
    · exact .inl (List.mem_of_mem_drop h)
  · rintro (h | h)
    · rw [← List.take_append_drop at_ st, List.mem_append] at h
      rcases h with h | h
      · exact .inl (.inl h)
      · exact .inr h
    · exact .inl (.inr h)
theorem names_ok {st : List Nat} {at_ sh sp m : Nat} (hst : ∀ c ∈ st, 97 ≤ c ∧ c ≤ 122) (hl : st.length ≤ 11) (hsh : sh < 26) (hsp : sp ∈ stepsL) (hm : m ≤ 7) : NOk m ((List.range m).map fun k => Sx (nmL st at_ sh sp k)) := by
  refine ⟨by simp, ?_, ?_, ?_⟩
  · rw [List.Nodup, List.pairwise_map]
    refine List.Pairwise.imp_of_mem ?_ (List.pairwise_lt_range (n := m))
    intro k k' hk hk' hlt he
    have hk := List.mem_range.mp hk
    have hk' := List.mem_range.mp hk'
    have e := Sx_inj he
    unfold nmL at e
    have hlen := congrArg List.length e
    rw [List.length_append, List.length_append, body_len, body_len] at hlen
    obtain ⟨e1, _⟩ := List.append_inj e (by rw [body_len, body_len])
    unfold bodyL at e1
    obtain ⟨e2, _⟩ := List.append_inj e1 (by rw [List.length_append, List.length_append]; rfl)
    have e3 := List.append_cancel_left e2
    have := step_inj sp hsp ⟨sh, hsh⟩ ⟨k, by omega⟩ ⟨k', by omega⟩ (List.cons.inj e3).1
    have := congrArg Fin.val this
    simp only at this
    omega
  · intro x hx
    obtain ⟨k, _, rfl⟩ := List.mem_map.mp hx
    have hlen : (nmL st at_ sh sp k).length = st.length + 1 + if st.length < 11 ∧ k % 2 = 1 then 1 else 0 := by
      unfold nmL
      rw [List.length_append, body_len]
      split <;> rfl
    refine ⟨?_, ?_, ?_⟩
    · rw [Sx_len, hlen]
      omega
    · rw [Sx_len, hlen]
      split <;> omega
    · intro c hc
      have hc' : c ∈ nmL st at_ sh sp k := by simpa using hc
      unfold nmL at hc'
      rw [List.mem_append, mem_body] at hc'
      rcases hc' with (h | h) | h
      · exact hst c h
      · omega
      · split at h
        · rw [List.mem_singleton] at h
          omega
        · cases h
  · rintro ⟨h1, h2⟩
    have key : ∀ (x : Nat) (k : Nat), x ≠ 97 → Sx (List.replicate 12 x) = Sx (nmL st at_ sh sp k) → st.length = 11 ∧ ∀ c ∈ st, c = x := fun x k hx he => by
      have e := Sx_inj he
      have hall : ∀ c ∈ nmL st at_ sh sp k, c = x := fun c hc => by
        rw [← e] at hc
        exact List.eq_of_mem_replicate hc
      have hlen := congrArg List.length e
      rw [List.length_replicate] at hlen
      unfold nmL at hlen hall
      rw [List.length_append, body_len] at hlen
      have hn : ¬ (st.length < 11 ∧ k % 2 = 1) := fun h => by
        rw [if_pos h] at hall
        exact hx (hall 97 (List.mem_append_right _ List.mem_cons_self)).symm
      rw [if_neg hn] at hlen hall
      refine ⟨by simpa using hlen.symm, fun c hc => hall c (List.mem_append_left _ (mem_body.mpr (.inl hc)))⟩
    obtain ⟨k, _, e1⟩ := List.mem_map.mp h1
    obtain ⟨k', _, e2⟩ := List.mem_map.mp h2
    have q1 := key 122 k (by decide) e1.symm
    have q2 := key 121 k' (by decide) e2.symm
    obtain ⟨c, hc⟩ : ∃ c, c ∈ st := List.exists_mem_of_length_pos (by omega)
    have a := q1.2 c hc
    have b := q2.2 c hc
    omega
theorem plain_ok : ∀ i : Fin 9, ∀ m : Fin 8, ((((plainL.drop i.val) ++ plainL).take m.val).length = m.val ∧ (((plainL.drop i.val) ++ plainL).take m.val).Nodup ∧ (∀ x ∈ ((plainL.drop i.val) ++ plainL).take m.val, 1 ≤ x.length ∧ x.length ≤ 3 ∧ ∀ c ∈ x.cps.toList, 97 ≤ c ∧ c ≤ 122)) := by decide +kernel
theorem plain_names {i m : Nat} (hi : i ≤ 8) (hm : m ≤ 7) : NOk m (((plainL.drop i) ++ plainL).take m) := by
  obtain ⟨h1, h2, h3⟩ := plain_ok ⟨i, by omega⟩ ⟨m, by omega⟩
  refine ⟨h1, h2, fun x hx => ?_, fun h => ?_⟩
  · obtain ⟨a, b, c⟩ := h3 x hx
    exact ⟨a, by omega, c⟩
  · have := (h3 _ h.1).2.1
    revert this
    decide
theorem letter_at : ∀ d : Fin 26, (PySem.Str.ofString "abcdefghijklmnopqrstuvwxyz").cps.toList[d.val]? = some (97 + d.val) := by decide +kernel
end Cw
end
section
namespace Cw
open PySem PySem.Spec PyProof.Rows L2
theorem cutS_to {l : List Nat} {i : Nat} (h : i ≤ l.length) : cutS (Sx l) none (some ((i : Nat) : Int)) = Sx (l.take i) := by
  unfold cutS
  rw [HT.sIx_none, HT.sIx_nat, Sx_len, Nat.min_eq_left h]
  simp
theorem cutS_from {l : List Nat} {i : Nat} (h : i ≤ l.length) : cutS (Sx l) (some ((i : Nat) : Int)) none = Sx (l.drop i) := by
  unfold cutS
  rw [HT.sIx_none, HT.sIx_nat, Sx_len, Nat.min_eq_left h]
  simp only
  rw [List.take_of_length_le (by simp)]
theorem joinL_ones : ∀ ls : List Nat, TL.joinL [] (ls.map fun c => [c]) = ls
  | [] => rfl
  | [c] => rfl
  | c :: d :: r => by
    show [c] ++ ([] ++ TL.joinL [] ((d :: r).map fun c => [c])) = _
    rw [joinL_ones (d :: r)]
    rfl
theorem join_ones (ls : List Nat) : Txt.join (Str.ofString "") (ls.map fun c => (Sx [c])) = Sx ls := by
  have h := SX.join_S [] (ls.map fun c => [c])
  rw [joinL_ones, List.map_map] at h
  exact h
theorem sum_ones (ls : List Nat) : ((ls.map fun c => (Sx [c])).map (·.length)).sum = ls.length := by
  induction ls with
  | nil => rfl
  | cons c r ih =>
    rw [List.map_cons, List.map_cons, List.sum_cons, ih, List.length_cons]
    show 1 + _ = _
    omega
section
variable {P : Program} {w : World} {K : PySem.W.Frag} {mg : Str → Option Value} {base : Heap}
def spNames : Sp := fun vs H Q _ => ∃ (p : Addr) (m : Nat), vs = [.ref p, .int (m : Nat)] ∧ Pile H p ∧ 1 ≤ m ∧ m ≤ 7 ∧ ∀ q H' (z : List Str), H q = none → But p H H' → Pile H' p → NOk m z → H' q = some (.lst (z.map V.str)) → Q (.ref q) H'
theorem ok_names (D : Dfn K mg "_law_names" s_law_names ["_law_pile_here", "_law_many"]) (T : Txt K mg w) (c_take : C8.Cal P w K mg base 2 "_law_take" spTake []) : C8.Cal P w K mg base 3 "_law_names" spNames [] := by
  refine cal_of D sc_names (fun vs H Q E h => ?_) (fun cdv A outer s H vs Q E f hr h => ?_)
  · obtain ⟨a, b, rfl, _⟩ := h
    rfl
  · obtain ⟨p, m, rfl, hp, hm1, hm7, q⟩ := h
    have nd := sc_names.nd
    refine ⟨_, (pss_cons (ps_set (i := 2) nd rfl (.inr rfl) pe_str)
    (pss_cons (ps_set (i := 3) nd rfl (.inr rfl) (pe_join pe_str (pe_lc (own := [("_law_k", 10)]) rfl nd (pi_range1 rfl T.b_range (pa_cons (C8.pe_c c_take hr (by decide) rfl (pa_cons (pv 0) (pa_cons pe_int pa_nil))) pa_nil)) (blkOk_by (by kernel_rfl)) (fun _ _ _ _ _ => (pg_name (i := 10) nd rfl (by first | exact Or.inl rfl | exact Or.inr rfl))) (fun _ _ _ _ _ => pts_nil) (fun _ _ _ _ _ => (pe_ix ix_str (pv 2) (C8.pe_c c_take hr (by decide) rfl (pa_cons (pv 0) (pa_cons pe_int pa_nil))) (fun _ _ => rfl))))))
    (pss_cons (ps_set (i := 4) nd rfl (.inr rfl) (C8.pe_c c_take hr (by decide) rfl (pa_cons (pv 0) (pa_cons (pe_op op_add (pe_callB call_len_str (by rfl) T.b_len boot_len (pa_cons (pv 3) pa_nil)) pe_int) pa_nil))))
    (pss_cons (ps_set (i := 5) nd rfl (.inr rfl) (C8.pe_c c_take hr (by decide) rfl (pa_cons (pv 0) (pa_cons pe_int pa_nil))))
    (pss_cons (ps_set (i := 6) nd rfl (.inr rfl) (pe_ix ix_list (pe_lst (pa_cons pe_int (pa_cons pe_int (pa_cons pe_int (pa_cons pe_int (pa_cons pe_int (pa_cons pe_int (pa_cons pe_int (pa_cons pe_int (pa_cons pe_int (pa_cons pe_int (pa_cons pe_int (pa_cons pe_int pa_nil))))))))))))) (C8.pe_c c_take hr (by decide) rfl (pa_cons (pv 0) (pa_cons pe_int pa_nil))) (fun _ _ => rfl)))
    (pss_cons (ps_if (PW.pt (pw_and (pt_cmpR op_eq (pe_op op_mod (pv 5) pe_int) pe_int (nomark _)) (pw_and1 (pt_cmpR op_lt (pv 1) pe_int (nomark _)))))
      (pss_cons (ps_set (i := 7) nd rfl (.inl rfl) (pe_lst (pa_cons pe_str (pa_cons pe_str (pa_cons pe_str (pa_cons pe_str (pa_cons pe_str (pa_cons pe_str (pa_cons pe_str (pa_cons pe_str (pa_cons pe_str (pa_cons pe_str (pa_cons pe_str (pa_cons pe_str (pa_cons pe_str (pa_cons pe_str (pa_cons pe_str pa_nil)))))))))))))))))
      (pss_one (ps_ret (pe_slice sl_list (pe_op op_cat (pe_slice sl_list (pv 7) (po_some (pe_op op_add (pe_op op_fdiv (pv 5) pe_int) (pe_op op_mod (pv 6) pe_int))) po_none) (pv 7)) po_none (po_some (pv 1))))))
      pss_nil)
    (pss_cons (ps_set (i := 8) nd rfl (.inr rfl) (pe_op op_mulS pe_str (pe_callTy call_int1 (by rfl) T.b_int (by decide +kernel) (pa_cons (pe_cmpR op_lt (pe_callB call_len_str (by rfl) T.b_len boot_len (pa_cons (pv 3) pa_nil)) pe_int (nomark _)) pa_nil))))
    (pss_cons (ps_setLc (i := 9) (own := [("_law_k", 10)]) rfl nd rfl rfl (sw_true rfl rfl rfl (by decide +kernel)) (pi_range1 rfl T.b_range (pa_cons (pv 1) pa_nil)) (blkOk_by (by kernel_rfl)) (fun _ _ _ _ _ => (pg_name (i := 10) nd rfl (by first | exact Or.inl rfl | exact Or.inr rfl))) (fun _ _ _ _ _ => pts_nil) (fun _ _ _ _ _ => (pe_op op_add_str (pe_op op_add_str (pe_slice sl_str (pv 3) po_none (po_some (pv 4))) (pe_ix ix_str (pv 2) (pe_op op_mod (pe_op op_add (pv 5) (pe_op op_mul (pv 6) (pv 10))) pe_int) (fun _ _ => rfl))) (pe_slice sl_str (pv 3) (po_some (pv 4)) po_none))))
    (pss_one (ps_ret (pe_lc (own := [("_law_k", 10), ("_law_name", 11)]) rfl nd (pi_enum (by rfl) T.b_enumerate (pa_cons (pv 9) pa_nil)) (blkOk_by (by kernel_rfl)) (fun _ _ _ _ _ => (pg_tupK (K := K) rfl (n := 2) rfl (pgs_cons (pg_name (i := 10) nd rfl (by first | exact Or.inl rfl | exact Or.inr rfl)) (pgs_cons (pg_name (i := 11) nd rfl (by first | exact Or.inl rfl | exact Or.inr rfl)) pgs_nil)))) (fun _ _ _ _ _ => pts_nil) (fun _ _ _ _ _ => (pe_op op_add_str (pv 11) (pe_op op_mulS (pv 8) (pe_op op_mod (pv 10) pe_int))))))))))))))), ?_⟩
    have hpn : ∀ {b : Addr}, H b = none → b ≠ p := fun h => hp.ne h
    -- the stem
    refine ⟨⟨_, rfl⟩, .ref p, rfl, p, 12, rfl, hp, by decide, by decide, fun dl H1 hdl bu1 hp1 => ⟨_, rfl, by omega, by omega, fun D1 hD1 => ?_⟩⟩
    have hD1p : D1 ≠ p := hp1.ne hD1
    rw [Int.toNat_natCast]
    refine lc_it (walk_range (lo := 0) (n := dl)) (fun i H' => But p H1 H' ∧ Pile H' p ∧ ∃ ls : List Nat, H' D1 = some (.lst ((ls.map fun c => (Sx [c])).map V.str)) ∧ ls.length = i ∧ ∀ c ∈ ls, 97 ≤ c ∧ c ≤ 122)
      ⟨But.of_same (same_upd hD1), hp1.same (same_upd hD1), [], upd_same, rfl, (fun _ h => absurd h List.not_mem_nil)⟩ (fun _ _ _ _ => trivial) (fun i v H2 H3 hi pv yv => ?_) (fun H2 pv => ?_)
    · obtain ⟨bu, hp2, ls, hls, hll, hlc⟩ := pv
      obtain ⟨rfl, rfl⟩ := yv
      refine ⟨rfl, _, rfl, .ref p, rfl, p, 26, rfl, hp2, by decide, by decide, fun d H4 hd bu4 hp4 => ?_⟩
      refine ⟨_, (d : Nat), 97 + d, rfl, rfl, (by decide), atI_nat (letter_at ⟨d, hd⟩), _, bu4.at hD1p hls, ?_, But.mut (bu.trans bu4) hD1, ?_, ls ++ [97 + d], ?_, ?_, ?_⟩
      · rw [List.length_map, List.length_map, hll, sizeLine_eq]
        omega
      · obtain ⟨g, c, k, h⟩ := hp4
        exact ⟨g, c, k, by rw [upd_ne hD1p.symm]; exact h⟩
      · rw [upd_same, List.map_append, List.map_append]
        rfl
      · rw [List.length_append, hll]
        rfl
      · intro c hc
        rw [List.mem_append, List.mem_singleton] at hc
        rcases hc with h | rfl
        · exact hlc c h
        · omega
    obtain ⟨bu2, hp2, st, hst, hstl, hstc⟩ := pv
    refine ⟨_, D1, st.map fun c => (Sx [c]), rfl, rfl, .inl (.inl (.inl hst)), ?_, ?_⟩
    · rw [sum_ones, List.length_map]
      show _ + _ * 0 ≤ _
      omega
    rw [join_ones]
    have hstl' : (Sx st).length = st.length := Sx_len st
    have b2 := bu1.trans bu2
    -- at, shift, step
    refine ⟨.ref p, rfl, .str (Sx st), rfl, Sx st, rfl, by rw [hstl', sizeLine_eq]; omega, _, 1, rfl, rfl, p, st.length + 1, by rw [hstl']; rfl, hp2, by omega, by omega, fun at_ H3 hat bu3 hp3 => ?_⟩
    refine ⟨.ref p, rfl, p, 26, rfl, hp3, by decide, by decide, fun sh H4 hsh bu4 hp4 => ?_⟩
    refine ⟨(show 12 ≤ sizeLine by decide), fun sq hsq => ?_⟩
    have hsp : sq ≠ p := hp4.ne hsq
    have b4 := (b2.trans bu3).trans bu4
    refine ⟨.ref p, rfl, p, 12, rfl, hp4.same (same_upd hsq), by decide, by decide, fun si H5 hsi bu5 hp5 => ?_⟩
    have hsq5 := bu5.at hsp (upd_same (H := H4) (a := sq) (o := .lst (stepsL.map fun (x : Nat) => V.int (x : Int))))
    have b5 := (b4.trans (But.of_same (same_upd (o := .lst (stepsL.map fun (x : Nat) => V.int (x : Int))) hsq))).trans bu5
    have hsl : si < stepsL.length := hsi
    have hmem : stepsL[si] ∈ stepsL := List.getElem_mem hsl
    generalize hspv : stepsL[si] = sp at hmem
    refine ⟨sq, _, (si : Nat), .int (sp : Nat), rfl, rfl, .inl (.inl hsq5), atI_nat (by rw [List.getElem?_map, List.getElem?_eq_getElem hsl, hspv]; rfl), ?_⟩
    have hH5 : ∀ {b : Addr}, H5 b = none → H b = none := fun {b} e => b5.new (hp5.ne e) e
    -- plain names
    have emod : (sh : Int) % 4 = ((sh % 4 : Nat) : Int) := by omega
    refine ⟨.int (sh : Nat), rfl, _, _, rfl, rfl, (by decide : (0 : Int) < 4), rfl, decide (sh % 4 = 3), ?_, ?_⟩
    · dsimp only
      congr 1
      apply decide_eq_decide.mpr
      rw [emod]
      constructor
      · intro h
        have := V.int.inj h
        omega
      · intro h
        rw [h]
        rfl
    by_cases h4 : sh % 4 = 3
    · rw [decide_eq_true h4]
      refine iteT ⟨.int (m : Nat), rfl, _, _, rfl, rfl, true, bt (by omega), iteT ⟨(show 15 ≤ sizeLine by decide), fun pl hpl => ?_⟩⟩
      have hple : (upd H5 pl (.lst (plainL.map V.str))) pl = some (.lst (plainL.map V.str)) := upd_same
      have eidx : (sh : Int) / 4 + (sp : Int) % 4 = ((sh / 4 + sp % 4 : Nat) : Int) := by omega
      have hi8 : sh / 4 + sp % 4 ≤ 8 := by omega
      refine ⟨.ref pl, rfl, .int (sh : Nat), rfl, _, _, rfl, rfl, ⟨by decide, by decide⟩, .int (sp : Nat), rfl, _, _, rfl, rfl, (by decide : (0 : Int) < 4), _, _, rfl, rfl, ((sh / 4 + sp % 4 : Nat) : Int), congrArg V.int eidx, pl, _, rfl, .inl (.inl hple), fun s1 hs1 => ?_⟩
      rw [cutV_from (by show _ ≤ 15; omega), ← List.map_drop]
      have hpl1 : pl ≠ s1 := ne_of_none hple hs1
      refine ⟨.ref pl, rfl, s1, pl, _, _, rfl, rfl, upd_same, by rw [upd_ne hpl1]; exact hple, ?_, fun s2 hs2 => ?_⟩
      · rw [List.length_map, List.length_drop, sizeLine_eq]
        show _ + 15 ≤ _
        have : plainL.length = 15 := rfl
        omega
      rw [← List.map_append]
      refine ⟨.int (m : Nat), rfl, (m : Nat), rfl, s2, _, rfl, .inl (.inl upd_same), fun s3 hs3 => ?_⟩
      rw [cutV_to (by rw [List.length_map, List.length_append]; have : plainL.length = 15 := rfl; omega), ← List.map_take]
      have sm : Same H5 (upd (upd (upd (upd H5 pl (.lst (plainL.map V.str))) s1 (.lst ((plainL.drop (sh / 4 + sp % 4)).map V.str))) s2 (.lst ((plainL.drop (sh / 4 + sp % 4) ++ plainL).map V.str))) s3 (.lst (((plainL.drop (sh / 4 + sp % 4) ++ plainL).take m).map V.str))) :=
        (((same_upd hpl).trans (same_upd hs1)).trans (same_upd hs2)).trans (same_upd hs3)
      refine q s3 _ _ (hH5 ?_) (b5.trans (But.of_same sm)) (hp5.same sm) (plain_names hi8 hm7) upd_same
      exact Same.back (((same_upd hpl).trans (same_upd hs1)).trans (same_upd hs2)) hs3
    rw [decide_eq_false h4]
    refine iteF (iteF ?_)
    -- tail
    have bv : ∀ b : Bool, (if b then (1 : Int) else 0) = 0 ∨ (if b then (1 : Int) else 0) = 1 := fun b => by cases b <;> simp
    have fin : ∀ (tl : List Nat), (tl = if st.length < 11 then [97] else []) → (tSeq (tAsg (tLc (iRng1 (tCons (tVar 1) tNil)) (gName 10) tYes (tOp (fun x y H Q => ∃ i j, x = .str i ∧ y = .str j ∧ i.length + j.length ≤ sizeLine ∧ Q (.str (i ++ j)) H) (tOp (fun x y H Q => ∃ i j, x = .str i ∧ y = .str j ∧ i.length + j.length ≤ sizeLine ∧ Q (.str (i ++ j)) H) (tSl rSlS (tVar 3) tNoPart (tPart (tVar 4))) (tOp rIxS (tVar 2) (tOp (rI (fun _ j => 0 < j) fun i j => .int (i % j)) (tOp (rI0 fun i j => .int (i + j)) (tVar 5) (tOp (rI CMul fun i j => .int (i * j)) (tVar 6) (tVar 10))) (tC (.int 26))))) (tSl rSlS (tVar 3) (tPart (tVar 4)) tNoPart)) [10]) (gName 9))
        (tRet (tLc (iEnum K (tCons (tVar 9) tNil)) (gTup K 2 (gCons (gName 10) (gCons (gName 11) gNil))) tYes (tOp (fun x y H Q => ∃ i j, x = .str i ∧ y = .str j ∧ i.length + j.length ≤ sizeLine ∧ Q (.str (i ++ j)) H) (tVar 11) (tOp rMulS (tVar 8) (tOp (rI (fun _ j => 0 < j) fun i j => .int (i % j)) (tVar 10) (tC (.int 2))))) [10, 11]))) { nx := fun _ H' => Q .non H', rt := Q }
        [some (.ref p), some (.int (m : Nat)), some (.str "abcdefghijklmnopqrstuvwxyz"), some (.str (Sx st)), some (.int (at_ : Nat)), some (.int (sh : Nat)), some (.int (sp : Nat)), none, some (.str (Sx tl)), none, none, none] H5 := fun tl htl => by
      have htl1 : tl.length ≤ 1 := by
        rw [htl]
        split <;> simp
      refine ⟨.int (m : Nat), rfl, (m : Nat), rfl, by omega, by omega, fun D2 hD2 => ?_⟩
      rw [Int.toNat_natCast]
      refine lc_it (walk_range (lo := 0) (n := m)) (fun i H' => Same H5 H' ∧ H' D2 = some (.lst (((List.range i).map fun k => Sx (bodyL st at_ sh sp k)).map V.str))) ⟨same_upd hD2, upd_same⟩ (fun _ _ _ _ => trivial) (fun i v H6 H7 hi pv yv => ?_) (fun H6 pv => ?_)
      · obtain ⟨sm, hls⟩ := pv
        obtain ⟨rfl, hv⟩ := yv
        replace hv : v = .int ((0 : Int) + (i : Nat)) := hv
        rw [Int.zero_add] at hv
        subst hv
        have hsz : (Sx st).length ≤ sizeLine := by rw [hstl', sizeLine_eq]; omega
        have ei : ((sh : Int) + (sp : Int) * (i : Int)) % 26 = (((sh + sp * i) % 26 : Nat) : Int) := by
          rw [Int.natCast_emod, Int.natCast_add, Int.natCast_mul]
          rfl
        have hlt : (sh + sp * i) % 26 < 26 := Nat.mod_lt _ (by decide)
        have hsp25 : (sp : Int) < 2 ^ 64 := by
          have : ∀ x ∈ stepsL, x ≤ 25 := by decide
          have := this sp hmem
          omega
        refine ⟨rfl, .str (Sx st), rfl, .int (at_ : Nat), rfl, (at_ : Nat), rfl, Sx st, rfl, hsz, ?_⟩
        rw [cutS_to (by omega)]
        refine ⟨_, rfl, .int (sh : Nat), rfl, .int (sp : Nat), rfl, .int (i : Nat), rfl, _, _, rfl, rfl, .inl ⟨by omega, hsp25⟩, _, _, rfl, rfl, _, _, rfl, rfl, (by decide : (0 : Int) < 26), _, (((sh + sp * i) % 26 : Nat) : Int), 97 + (sh + sp * i) % 26, rfl, congrArg V.int ei, (by decide), atI_nat (letter_at ⟨_, hlt⟩), ?_⟩
        refine ⟨_, _, rfl, rfl, ?_, .str (Sx st), rfl, .int (at_ : Nat), rfl, (at_ : Nat), rfl, Sx st, rfl, hsz, ?_⟩
        · rw [Sx_len, List.length_take, sizeLine_eq]
          show _ + 1 ≤ _
          omega
        rw [cutS_from (by omega)]
        have e1 : Sx (st.take at_) ++ (⟨#[97 + (sh + sp * i) % 26]⟩ : Str) ++ Sx (st.drop at_) = Sx (bodyL st at_ sh sp i) := by
          rw [show (⟨#[97 + (sh + sp * i) % 26]⟩ : Str) = Sx [97 + (sh + sp * i) % 26] from rfl, Sx_cat, Sx_cat]
          rfl
        refine ⟨_, _, rfl, rfl, ?_, ?_⟩
        · rw [show (⟨#[97 + (sh + sp * i) % 26]⟩ : Str) = Sx [97 + (sh + sp * i) % 26] from rfl, Sx_cat, Sx_len, Sx_len, sizeLine_eq]
          simp only [List.length_append, List.length_take, List.length_drop, List.length_singleton]
          omega
        rw [e1]
        refine ⟨_, hls, ?_, same_mut sm hD2, ?_⟩
        · rw [List.length_map, List.length_map, List.length_range, sizeLine_eq]
          omega
        · rw [upd_same, List.range_succ, List.map_append, List.map_append]
          rfl
      · obtain ⟨sm, hls⟩ := pv
        refine ⟨.ref D2, rfl, D2, _, rfl, .inl (.inl hls), fun D3 hD3 => ?_⟩
        have hlen : (((List.range m).map fun k => Sx (bodyL st at_ sh sp k)).map V.str).length = m := by simp
        refine lc_it (walk_enum (xs := ((List.range m).map fun k => Sx (bodyL st at_ sh sp k)).map V.str)) (fun i H' => Same H6 H' ∧ H' D3 = some (.lst (((List.range i).map fun k => Sx (nmL st at_ sh sp k)).map V.str))) ⟨same_upd hD3, upd_same⟩ (fun i H' _ p => .inl (.inl (p.1 _ _ hls))) (fun i v H7 H8 hi pv yv => ?_) (fun H7 pv => ?_)
        · obtain ⟨sm7, hls7⟩ := pv
          obtain ⟨t, _, vx, rfl, hnt, rfl, hx1, hx2⟩ := yv
          cases hx1
          rw [hlen] at hi
          replace hx2 : (((List.range m).map fun k => Sx (bodyL st at_ sh sp k)).map V.str)[i]? = some vx := hx2
          rw [List.getElem?_map, List.getElem?_map, List.getElem?_range hi] at hx2
          have ev := (Option.some.inj hx2).symm
          subst ev
          have s8 := same_upd (o := .tup [.int (i : Nat), .str (Sx (bodyL st at_ sh sp i))]) hnt
          have fin2 : ∀ (sf : List Nat), bodyL st at_ sh sp i ++ sf = nmL st at_ sh sp i → sf.length ≤ 1 → (∃ i1 j1 : Str, V.str (Sx (bodyL st at_ sh sp i)) = .str i1 ∧ V.str (Sx sf) = .str j1 ∧ i1.length + j1.length ≤ sizeLine ∧ ∃ acc, (upd H7 t (.tup [.int (i : Nat), .str (Sx (bodyL st at_ sh sp i))])) D3 = some (.lst acc) ∧ acc.length < sizeLine ∧
              (Same H6 (upd (upd H7 t (.tup [.int (i : Nat), .str (Sx (bodyL st at_ sh sp i))])) D3 (.lst (acc ++ [.str (i1 ++ j1)]))) ∧ (upd (upd H7 t (.tup [.int (i : Nat), .str (Sx (bodyL st at_ sh sp i))])) D3 (.lst (acc ++ [.str (i1 ++ j1)]))) D3 = some (.lst (((List.range (i + 1)).map fun k => Sx (nmL st at_ sh sp k)).map V.str)))) := fun sf hsf hl1 => by
            refine ⟨_, _, rfl, rfl, ?_, _, s8 _ _ hls7, ?_, same_mut (sm7.trans s8) hD3, ?_⟩
            · rw [Sx_len, Sx_len, body_len, sizeLine_eq]
              omega
            · rw [List.length_map, List.length_map, List.length_range, sizeLine_eq]
              omega
            · rw [upd_same, Sx_cat, hsf, List.range_succ, List.map_append, List.map_append]
              rfl
          refine ⟨t, _, rfl, .inl (.inl upd_same), rfl, .int (i : Nat), _, rfl, .str (Sx (bodyL st at_ sh sp i)), _, rfl, rfl, rfl, _, rfl, .str (Sx tl), rfl, .int (i : Nat), rfl, _, _, rfl, rfl, (by decide : (0 : Int) < 2), Sx tl, (i : Int) % 2, rfl, rfl, by omega, fun h => ?_, fun h => ?_⟩
          · refine fin2 [] ?_ (by simp)
            unfold nmL
            rw [if_neg (by omega)]
          · refine fin2 tl ?_ htl1
            unfold nmL
            rw [htl]
            by_cases c : st.length < 11
            · rw [if_pos c, if_pos ⟨c, by omega⟩]
            · rw [if_neg c, if_neg (fun h => c h.1)]
        · obtain ⟨sm7, hls7⟩ := pv
          rw [hlen] at hls7
          have s9 := sm.trans sm7
          exact q D3 H7 _ (hH5 (Same.back sm hD3)) (b5.trans (But.of_same s9)) (hp5.same s9) (names_ok hstc (by omega) hsh hmem hm7) hls7
    refine ⟨.str (Sx st), rfl, Sx st, rfl, by rw [hstl', sizeLine_eq]; omega, _, 11, rfl, rfl, .inr ⟨_, rfl, _, _, rfl, rfl, bv _, fun h => ?_, fun h => ?_⟩⟩
    · refine fin [] ?_
      rw [if_neg]
      intro hh
      rw [decide_eq_true (by rw [hstl']; omega)] at h
      exact absurd h (by decide)
    · refine fin [97] ?_
      rw [if_pos]
      by_cases hh : st.length < 11
      · exact hh
      · rw [decide_eq_false (by rw [hstl']; omega)] at h
        exact absurd h (by decide)
end
end Cw
end
section
namespace Cw
open PySem PySem.Spec PyProof.Rows L2
theorem sqL_but {K : PySem.W.Frag} {H H' : Hp} {p a : Addr} {xs : List V} (s : But p H H') (hne : a ≠ p) (h : SqL K H a xs) : SqL K H' a xs := sqL_same wo_same (sqL_same s (sqL_wo h hne))
theorem fx_but {H H' : Hp} {p : Addr} (s : But p H H') (hp : Pile H p) : Fx H H' := fun b xs h => by
  have hb : b ≠ p := fun e => by
    obtain ⟨g, c, k, q⟩ := hp
    subst e
    rcases h with h | ⟨_, h⟩ <;> rw [q] at h <;> cases h
  rcases h with h | ⟨o, h⟩
  · exact .inl (s.at hb h)
  · exact .inr ⟨o, s.at hb h⟩
theorem Pile.mut {H : Hp} {p a : Addr} {o : HO} (h : Pile H p) (hne : a ≠ p) : Pile (L2.upd H a o) p := by
  obtain ⟨g, c, k, q⟩ := h
  exact ⟨g, c, k, by rw [upd_ne hne.symm]; exact q⟩
theorem strs_get {z : List Str} {i : Nat} (h : i < z.length) : (z.map V.str)[i]? = some (.str z[i]) := by
  rw [List.getElem?_map, List.getElem?_eq_getElem h]
  rfl
section
variable {P : Program} {w : World} {K : PySem.W.Frag} {mg : Str → Option Value} {base : Heap}
def spColours : Sp := fun vs H Q _ => ∃ (p : Addr), vs = [.ref p] ∧ Pile H p ∧ ∀ q H' (cs : List Str), H q = none → But p H H' → Pile H' p → H' q = some (.lst (cs.map V.str)) → 1 ≤ cs.length → cs.length ≤ 3 → (∀ c ∈ cs, Valid c) → Q (.ref q) H'
theorem vld_lit (z : Str) (h : (decide (1 ≤ z.length) && (decide (z.length ≤ 12) && z.cps.toList.all fun c => decide (97 ≤ c) && decide (c ≤ 122))) = true) : Valid z := by
  rw [Bool.and_eq_true, Bool.and_eq_true, decide_eq_true_iff, decide_eq_true_iff, List.all_eq_true] at h
  refine ⟨h.1, h.2.1, fun c hc => ?_⟩
  have := h.2.2 c hc
  rw [Bool.and_eq_true, decide_eq_true_iff, decide_eq_true_iff] at this
  exact this
theorem col_ok : ∀ d : Fin 3, ∃ c : Str, ([V.str "red", V.str "blue", V.str "green"] : List V)[d.val]? = some (.str c) ∧ Valid c := by
  intro d
  match d with
  | ⟨0, _⟩ => exact ⟨"red", rfl, vld_lit _ (by decide +kernel)⟩
  | ⟨1, _⟩ => exact ⟨"blue", rfl, vld_lit _ (by decide +kernel)⟩
  | ⟨2, _⟩ => exact ⟨"green", rfl, vld_lit _ (by decide +kernel)⟩
theorem ok_colours (D : Dfn K mg "_law_colours" s_law_colours ["_law_pile_here"]) (T : Txt K mg w) (c_take : C8.Cal P w K mg base 2 "_law_take" spTake []) (c_order : C8.Cal P w K mg base 3 "_law_order" spOrder []) : C8.Cal P w K mg base 4 "_law_colours" spColours [] := by
  refine cal_of D sc_colours (fun vs H Q E h => ?_) (fun cdv A outer s H vs Q E f hr h => ?_)
  · obtain ⟨a, rfl, _⟩ := h
    rfl
  · obtain ⟨p, rfl, hp, q⟩ := h
    have nd := sc_colours.nd
    refine ⟨_, (pss_one (ps_ret (pe_lc (own := [("_law_k", 1)]) rfl nd (pi_list (pe_slice sl_list (C8.pe_c c_order hr (by decide) rfl (pa_cons (pv 0) (pa_cons pe_int pa_nil))) po_none (po_some (pe_op op_add pe_int (C8.pe_c c_take hr (by decide) rfl (pa_cons (pv 0) (pa_cons pe_int pa_nil))))))) (blkOk_by (by kernel_rfl)) (fun _ _ _ _ _ => (pg_name (i := 1) nd rfl (by first | exact Or.inl rfl | exact Or.inr rfl))) (fun _ _ _ _ _ => pts_nil) (fun _ _ _ _ _ => (pe_ix (ix_listK (K := K) rfl) (pe_lst (pa_cons pe_str (pa_cons pe_str (pa_cons pe_str pa_nil)))) (pv 1) (fun _ _ => rfl)))))), ?_⟩
    refine ⟨.ref p, rfl, p, 3, rfl, hp, by decide, fun oq H1 l hoq bu1 hp1 hperm hl => ?_⟩
    have hop := hp.ne hoq
    refine ⟨.ref p, rfl, p, 3, rfl, hp1, by decide, by decide, fun d H2 hd bu2 hp2 => ⟨_, _, rfl, rfl, _, rfl, oq, _, rfl, .inl (.inl (bu2.at hop hl)), fun sl hsl => ?_⟩⟩
    have hlen : l.length = 3 := by rw [hperm.length_eq, List.length_range]
    rw [show (1 : Int) + (d : Nat) = ((1 + d : Nat) : Int) by omega, cutV_to (by rw [List.length_map, hlen]; omega), ← List.map_take]
    have hsl2 : (upd H2 sl (.lst ((l.take (1 + d)).map fun (x : Nat) => V.int (x : Int)))) sl = some (.lst ((l.take (1 + d)).map fun (x : Nat) => V.int (x : Int))) := upd_same
    have bu3 : But p H (upd H2 sl (.lst ((l.take (1 + d)).map fun (x : Nat) => V.int (x : Int)))) := (bu1.trans bu2).trans (But.of_same (same_upd hsl))
    have hp3 : Pile (upd H2 sl (.lst ((l.take (1 + d)).map fun (x : Nat) => V.int (x : Int)))) p := hp2.same (same_upd hsl)
    generalize upd H2 sl (.lst ((l.take (1 + d)).map fun (x : Nat) => V.int (x : Int))) = H3 at *
    refine ⟨sl, rfl, ⟨_, .inl (.inl hsl2)⟩, fun D1 hD1 => ?_⟩
    refine lc_it (walk_list (xs := (l.take (1 + d)).map fun (x : Nat) => V.int (x : Int))) (fun i H' => Same H3 H' ∧ ∃ cs : List Str, H' D1 = some (.lst (cs.map V.str)) ∧ cs.length = i ∧ ∀ c ∈ cs, Valid c) ⟨same_upd hD1, [], upd_same, rfl, (fun _ h => absurd h List.not_mem_nil)⟩ (fun i H' _ p => .inl (.inl (p.1 _ _ hsl2))) (fun i v H4 H5 hi pv yv => ?_) (fun H4 pv => ?_)
    · obtain ⟨sm, cs, hcs, hcl, hcv⟩ := pv
      obtain ⟨rfl, hv⟩ := yv
      rw [List.getElem?_map] at hv
      obtain ⟨x, hx1, rfl⟩ := Option.map_eq_some_iff.mp hv
      have hx3 : x < 3 := by
        have := hperm.mem_iff.mp (List.mem_of_mem_take (List.mem_of_getElem? hx1))
        exact List.mem_range.mp this
      obtain ⟨c, hc1, hc2⟩ := col_ok ⟨x, hx3⟩
      refine ⟨rfl, (show 3 ≤ sizeLine by decide), fun ll hll => ⟨_, rfl, ll, _, (x : Nat), .str c, rfl, rfl, .inl (.inl upd_same), atI_nat hc1, _, same_upd hll _ _ hcs, ?_, same_mut (sm.trans (same_upd hll)) hD1, cs ++ [c], ?_, ?_, ?_⟩⟩
      · rw [List.length_map, hcl, sizeLine_eq]
        rw [List.length_map, List.length_take] at hi
        omega
      · rw [upd_same, List.map_append]
        rfl
      · rw [List.length_append, hcl]
        rfl
      · intro y hy
        rw [List.mem_append, List.mem_singleton] at hy
        rcases hy with h | rfl
        · exact hcv y h
        · exact hc2
    · obtain ⟨sm, cs, hcs, hcl, hcv⟩ := pv
      rw [List.length_map, List.length_take, hlen] at hcl
      have hD1H : H D1 = none := bu3.new (hp3.ne hD1) hD1
      exact q D1 H4 cs hD1H (bu3.trans (But.of_same sm)) (hp3.same sm) hcs (by omega) (by omega) hcv
/-- a list of facts that grows while draws are taken -/
def FI (K : PySem.W.Frag) (H : Hp) (p f : Addr) (z : List Str) (n : Nat) (H' : Hp) : Prop := But p H H' ∧ Pile H' p ∧ ∃ (xs : List V) (fs : List Fc), H' f = some (.lst xs) ∧ DpAll K H' xs (fs.map fD) ∧ (∀ f ∈ fs, FOk z f) ∧ xs.length ≤ n
theorem FI.take {H H1 H2 : Hp} {p f : Addr} {z : List Str} {n : Nat} (hf : f ≠ p) (h : FI K H p f z n H1) (bu : But p H1 H2) (hp : Pile H2 p) : FI K H p f z n H2 := by
  obtain ⟨b, hp1, xs, fs, h1, h2, h3, h4⟩ := h
  exact ⟨b.trans bu, hp, xs, fs, bu.at hf h1, dpAll_fx (fx_but bu hp1) (fDs fs) h2, h3, h4⟩
theorem FI.same {H H1 H2 : Hp} {p f : Addr} {z : List Str} {n : Nat} (h : FI K H p f z n H1) (s : Same H1 H2) : FI K H p f z n H2 := by
  obtain ⟨b, hp1, xs, fs, h1, h2, h3, h4⟩ := h
  exact ⟨b.trans (But.of_same s), hp1.same s, xs, fs, s _ _ h1, dpAll_same s h2, h3, h4⟩
def spFacts2 (K : PySem.W.Frag) : Sp := fun vs H Q _ => ∃ (p na : Addr) (mx : Nat) (z : List Str), vs = [.ref p, .ref na, .int (mx : Nat)] ∧ Pile H p ∧ na ≠ p ∧ SqL K H na (z.map V.str) ∧ z ≠ [] ∧ z.length ≤ 24 ∧ mx ≤ 1000 ∧
  ∀ (q : Addr) (H' : Hp) (xs : List V) (fs : List Fc), H q = none → But p H H' → Pile H' p → H' q = some (.lst xs) → DpAll K H' xs (fs.map fD) → (∀ f ∈ fs, FOk z f) → fs.length ≤ mx → Q (.ref q) H'
theorem kd_in : ∀ d : Fin 5, ∃ i : Fin 3, ([V.int 0, V.int 0, V.int 1, V.int 1, V.int 2] : List V)[d.val]? = some (.int (i.val : Nat)) := by
  intro d
  match d with
  | ⟨0, _⟩ => exact ⟨0, rfl⟩
  | ⟨1, _⟩ => exact ⟨0, rfl⟩
  | ⟨2, _⟩ => exact ⟨1, rfl⟩
  | ⟨3, _⟩ => exact ⟨1, rfl⟩
  | ⟨4, _⟩ => exact ⟨2, rfl⟩
theorem kd3 : ∀ d : Fin 3, ∃ c : Str, ([V.str "in", V.str "apart", V.str "cover"] : List V)[d.val]? = some (.str c) ∧ (c = "in" ∨ c = "apart" ∨ c = "cover") := by
  intro d
  match d with
  | ⟨0, _⟩ => exact ⟨"in", rfl, .inl rfl⟩
  | ⟨1, _⟩ => exact ⟨"apart", rfl, .inr (.inl rfl)⟩
  | ⟨2, _⟩ => exact ⟨"cover", rfl, .inr (.inr rfl)⟩
theorem kd2 : ∀ d : Fin 2, ∃ c : Str, ([V.str "in", V.str "apart"] : List V)[d.val]? = some (.str c) ∧ (c = "in" ∨ c = "apart" ∨ c = "cover") := by
  intro d
  match d with
  | ⟨0, _⟩ => exact ⟨"in", rfl, .inl rfl⟩
  | ⟨1, _⟩ => exact ⟨"apart", rfl, .inr (.inl rfl)⟩
theorem ok_facts2 (D : Dfn K mg "_law_facts" s_law_facts ["_law_pile_here", "_law_names_here", "_law_most"]) (T : Txt K mg w) (c_take : C8.Cal P w K mg base 2 "_law_take" spTake []) : C8.Cal P w K mg base 3 "_law_facts" (spFacts2 K) [] := by
  refine cal_of D sc_facts (fun vs H Q E h => ?_) (fun cdv A outer s H vs Q E f hr h => ?_)
  · obtain ⟨a, b, c, z, rfl, _⟩ := h
    rfl
  · obtain ⟨p, na, mx, z, rfl, hp, hnp, hs, hz0, hz, hmx, q⟩ := h
    have nd := sc_facts.nd
    refine ⟨_, (pss_cons (ps_set (i := 3) nd rfl (.inl rfl) (pe_lst pa_nil))
    (pss_cons (ps_set (i := 4) nd rfl (.inl rfl) (C8.pe_c c_take hr (by decide) rfl (pa_cons (pv 0) (pa_cons pe_int pa_nil))))
    (pss_cons (ps_for PassesOwn.never rfl (pi_range1 rfl T.b_range (pa_cons (C8.pe_c c_take hr (by decide) rfl (pa_cons (pv 0) (pa_cons (pe_op op_add (pv 2) pe_int) pa_nil))) pa_nil)) (pg_name (i := 5) nd rfl (.inl rfl))
      (pss_cons (ps_set (i := 6) nd rfl (.inl rfl) (pe_ix ix_list (pe_lst (pa_cons pe_str (pa_cons pe_str (pa_cons pe_str pa_nil)))) (pe_ix ix_list (pe_lst (pa_cons pe_int (pa_cons pe_int (pa_cons pe_int (pa_cons pe_int (pa_cons pe_int pa_nil)))))) (C8.pe_c c_take hr (by decide) rfl (pa_cons (pv 0) (pa_cons pe_int pa_nil))) (fun _ _ => rfl)) (fun _ _ => rfl)))
      (pss_cons (ps_if (pt_cmpR op_eq (pv 4) pe_int (nomark _))
        (pss_one (ps_set (i := 6) nd rfl (.inl rfl) pe_str))
        pss_nil)
      (pss_cons (ps_if (pt_cmpR op_eq (pv 4) pe_int (nomark _))
        (pss_one (ps_set (i := 6) nd rfl (.inl rfl) (pe_ix ix_list (pe_lst (pa_cons pe_str (pa_cons pe_str pa_nil))) (C8.pe_c c_take hr (by decide) rfl (pa_cons (pv 0) (pa_cons pe_int pa_nil))) (fun _ _ => rfl))))
        pss_nil)
      (pss_cons (ps_set (i := 7) nd rfl (.inl rfl) (pe_ix ix_list (pv 1) (C8.pe_c c_take hr (by decide) rfl (pa_cons (pv 0) (pa_cons (pe_callB call_len_seq (by rfl) T.b_len boot_len (pa_cons (pv 1) pa_nil)) pa_nil))) (fun _ _ => rfl)))
      (pss_cons (ps_set (i := 8) nd rfl (.inl rfl) (pe_ix ix_list (pv 1) (C8.pe_c c_take hr (by decide) rfl (pa_cons (pv 0) (pa_cons (pe_callB call_len_seq (by rfl) T.b_len boot_len (pa_cons (pv 1) pa_nil)) pa_nil))) (fun _ _ => rfl)))
      (pss_one (ps_expr (pe_bm PySem.F.plainAttrs_list PySem.F.slot_list_append PySem.F.type_list_append mt_append (pv 3) (pa_cons (pe_tup (pa_cons (pv 6) (pa_cons (pv 7) (pa_cons (pv 8) pa_nil)))) pa_nil))))))))))
    (pss_one (ps_ret (pv 3)))))), ?_⟩
    have hzl : 0 < z.length := List.length_pos_iff.mpr hz0
    refine ⟨(show 0 ≤ sizeLine by decide), fun fa hfa => ?_⟩
    have hfp := hp.ne hfa
    have i0 : FI K H p fa z 0 (upd H fa (.lst [])) := ⟨But.of_same (same_upd hfa), hp.same (same_upd hfa), [], [], upd_same, .nil, (fun _ h => absurd h List.not_mem_nil), Nat.le_refl _⟩
    refine ⟨.ref p, rfl, p, 5, rfl, i0.2.1, by decide, by decide, fun wy H1 hwy bu1 hp1 => ?_⟩
    have i1 := i0.take hfp bu1 hp1
    refine ⟨.ref p, rfl, .int (mx : Nat), rfl, _, 1, rfl, rfl, p, mx + 1, rfl, hp1, by omega, by omega, fun nn H2 hnn bu2 hp2 => ⟨_, rfl, by omega, by omega, ?_⟩⟩
    have i2 := i1.take hfp bu2 hp2
    rw [Int.toNat_natCast]
    refine for_it (walk_range (lo := 0) (n := nn)) (fun i σ H' => FI K H p fa z i H' ∧ ∃ a b c d, σ = [some (V.ref p), some (V.ref na), some (V.int (mx : Nat)), some (V.ref fa), some (V.int (wy : Nat)), a, b, c, d]) ⟨i2, _, _, _, _, rfl⟩ (fun _ _ _ _ _ => trivial) (fun i v σ H3 H4 hi pv yv => ?_) (fun σ H3 pv => ?_)
    · obtain ⟨fi, u0, u1, u2, u3, rfl⟩ := pv
      obtain ⟨rfl, rfl⟩ := yv
      have rest : ∀ (DD : Ends) (kd : Str) (H5 : Hp), (kd = "in" ∨ kd = "apart" ∨ kd = "cover") → FI K H p fa z i H5 → (∀ σ' H', (FI K H p fa z (i + 1) H' ∧ ∃ a b c d, σ' = [some (V.ref p), some (V.ref na), some (V.int (mx : Nat)), some (V.ref fa), some (V.int (wy : Nat)), a, b, c, d]) → DD.nx σ' H') →
          (tSeq (tAsg (tOp (rIxL K) (tVar 1) (tCall spTake [] C8.E0 (tCons (tVar 0) (tCons (tCB (rLenS K) (tCons (tVar 1) tNil)) tNil)))) (gName 7)) (tSeq (tAsg (tOp (rIxL K) (tVar 1) (tCall spTake [] C8.E0 (tCons (tVar 0) (tCons (tCB (rLenS K) (tCons (tVar 1) tNil)) tNil)))) (gName 8)) (tDrop (tBM K "list" rAppend (tVar 3) (tCons (tTup (tCons (tVar 6) (tCons (tVar 7) (tCons (tVar 8) tNil)))) tNil))))) DD
            [some (V.ref p), some (V.ref na), some (V.int (mx : Nat)), some (V.ref fa), some (V.int (wy : Nat)), some (V.int (0 + (i : Nat))), some (V.str kd), u2, u3] H5 := fun DD kd H5 hkd f5 hD => by
        have bb := f5.1
        refine ⟨.ref na, rfl, .ref p, rfl, .ref na, rfl, na, _, rfl, .inl (sqL_but bb hnp hs), p, z.length, by rw [List.length_map]; rfl, f5.2.1, hzl, by omega, fun d1 H6 hd1 bu6 hp6 => ?_⟩
        have f6 := f5.take hfp bu6 hp6
        refine ⟨na, _, (d1 : Nat), .str z[d1], rfl, rfl, sqL_but f6.1 hnp hs, atI_nat (strs_get hd1), ?_⟩
        refine ⟨.ref na, rfl, .ref p, rfl, .ref na, rfl, na, _, rfl, .inl (sqL_but f6.1 hnp hs), p, z.length, by rw [List.length_map]; rfl, hp6, hzl, by omega, fun d2 H7 hd2 bu7 hp7 => ?_⟩
        have f7 := f6.take hfp bu7 hp7
        refine ⟨na, _, (d2 : Nat), .str z[d2], rfl, rfl, sqL_but f7.1 hnp hs, atI_nat (strs_get hd2), ?_⟩
        have f70 := f7
        obtain ⟨b7, _, xs, fs, h1, h2, h3, h4⟩ := f7
        refine ⟨.ref fa, rfl, .inl ⟨rfl, _, .inl (.inl h1)⟩, .str kd, rfl, .str z[d1], rfl, .str z[d2], rfl, (show 3 ≤ sizeLine by decide), fun t ht => ?_⟩
        have st := same_upd (o := .tup [.str kd, .str z[d1], .str z[d2]]) ht
        refine ⟨fa, xs, .ref t, rfl, rfl, st _ _ h1, by rw [sizeLine_eq]; have := hi; omega, hD _ _ ⟨⟨But.mut (b7.trans (But.of_same st)) hfa, (hp7.same st).mut hfp, xs ++ [.ref t], fs ++ [(kd, z[d1], z[d2])], upd_same, ?_, ?_, ?_⟩, _, _, _, _, rfl⟩⟩
        · have fx : Fx (upd H7 t (.tup [.str kd, .str z[d1], .str z[d2]])) (upd (upd H7 t (.tup [.str kd, .str z[d1], .str z[d2]])) fa (.lst (xs ++ [.ref t]))) := .lst (st _ _ h1)
          rw [List.map_append]
          exact dpAll_snoc (dpAll_fx fx (fDs fs) (dpAll_same st h2)) (dp_of_eT (l := fL (kd, z[d1], z[d2])) (sqT_fx fx (.inl (.inl upd_same))))
        · intro g hg
          rw [List.mem_append, List.mem_singleton] at hg
          rcases hg with h | rfl
          · exact h3 g h
          · exact ⟨hkd, List.getElem_mem hd1, List.getElem_mem hd2⟩
        · rw [List.length_append]
          exact Nat.succ_le_succ h4
      -- the kind
      refine ⟨(show 3 ≤ sizeLine by decide), fun a1 ha1 => ⟨(show 5 ≤ sizeLine by decide), fun a2 ha2 => ?_⟩⟩
      have s2 := (same_upd (o := .lst [.str "in", .str "apart", .str "cover"]) ha1).trans (same_upd (o := .lst [.int 0, .int 0, .int 1, .int 1, .int 2]) ha2)
      have h12 : a1 ≠ a2 := fun e => by rw [← e, upd_same] at ha2; cases ha2
      have f4 := fi.same s2
      have ha1p : a1 ≠ p := fi.2.1.ne ha1
      have ha2p : a2 ≠ p := (fi.2.1.same (same_upd ha1)).ne ha2
      refine ⟨.ref p, rfl, p, 5, rfl, f4.2.1, by decide, by decide, fun d H5 hd bu5 hp5 => ?_⟩
      have f5 := f4.take hfp bu5 hp5
      obtain ⟨i3, hi3⟩ := kd_in ⟨d, hd⟩
      obtain ⟨kd0, hk1, hk2⟩ := kd3 i3
      refine ⟨a2, _, (d : Nat), .int (i3.val : Nat), rfl, rfl, .inl (.inl (bu5.at ha2p upd_same)), atI_nat hi3, a1, _, (i3.val : Nat), .str kd0, rfl, rfl, .inl (.inl (bu5.at ha1p (by rw [upd_ne h12, upd_same]))), atI_nat hk1, ?_⟩
      refine ⟨_, rfl, rfl, decide (V.int (wy : Nat) = V.int 1), rfl, ?_⟩
      by_cases h1 : V.int (wy : Nat) = V.int 1
      · rw [decide_eq_true h1]
        refine iteT ⟨_, rfl, rfl, false, bf (fun e => ?_), iteF (rest _ "in" H5 (.inl rfl) f5 fun _ _ h => h)⟩
        rw [h1] at e
        cases e
      · rw [decide_eq_false h1]
        refine iteF ⟨_, rfl, rfl, decide (V.int (wy : Nat) = V.int 2), rfl, ?_⟩
        by_cases h2 : V.int (wy : Nat) = V.int 2
        · rw [decide_eq_true h2]
          refine iteT ⟨(show 2 ≤ sizeLine by decide), fun a3 ha3 => ?_⟩
          have ha3p : a3 ≠ p := f5.2.1.ne ha3
          have f6 := f5.same (same_upd (o := .lst [.str "in", .str "apart"]) ha3)
          refine ⟨.ref p, rfl, p, 2, rfl, f6.2.1, by decide, by decide, fun d3 H7 hd3 bu7 hp7 => ?_⟩
          obtain ⟨kd4, hk3, hk4⟩ := kd2 ⟨d3, hd3⟩
          exact ⟨a3, _, (d3 : Nat), .str kd4, rfl, rfl, .inl (.inl (bu7.at ha3p upd_same)), atI_nat hk3, rest _ kd4 H7 hk4 (f6.take hfp bu7 hp7) fun _ _ h => h⟩
        · rw [decide_eq_false h2]
          exact iteF (rest _ kd0 H5 hk2 f5 fun _ _ h => h)
    · obtain ⟨⟨bu, hp3, xs, fs, h1, h2, h3, h4⟩, u0, u1, u2, u3, rfl⟩ := pv
      refine ⟨.ref fa, rfl, q fa H3 xs fs hfa bu hp3 h1 h2 h3 ?_⟩
      have := dpAll_len h2
      rw [List.length_map] at this
      omega
end
end Cw
end
section
namespace Cw
open PySem PySem.Spec PyProof.Rows L2
/-- a put or a wipe over names -/
def CoatOk (z : List Str) (d : List Str) : Prop := (∃ c r : Str, d = [("put" : Str), c, r] ∧ Valid c ∧ r ∈ z) ∨ ∃ r : Str, d = [("wipe" : Str), r] ∧ r ∈ z
/-- lists of texts, each an own list, at places of a kind -/
def LL (N : Addr → Prop) (H : Hp) : List V → List (List Str) → Prop := Paired fun v p => ∃ a, v = .ref a ∧ N a ∧ H a = some (.lst (p.map V.str))
theorem LL.same {N : Addr → Prop} {H H' : Hp} (s : Same H H') : ∀ {vs : List V} {ps : List (List Str)}, LL N H vs ps → LL N H' vs ps
  | _, _, .nil => .nil
  | _, _, .cons ⟨a, h1, hn, h2⟩ t => .cons ⟨a, h1, hn, s _ _ h2⟩ (LL.same s t)
theorem LL.len {N : Addr → Prop} {H : Hp} {vs : List V} {ps : List (List Str)} (h : LL N H vs ps) : vs.length = ps.length := Paired.length h
theorem LL.at {N : Addr → Prop} {H : Hp} : ∀ {vs : List V} {ps : List (List Str)} {i : Nat} {v : V}, LL N H vs ps → vs[i]? = some v → ∃ p a, ps[i]? = some p ∧ v = .ref a ∧ H a = some (.lst (p.map V.str))
  | _, _, _, _, .nil, e => by simp at e
  | _, _, 0, v, .cons ⟨a, h1, hn, h2⟩ t, e => by
    simp at e
    subst e
    exact ⟨_, a, rfl, h1, h2⟩
  | _, _, i + 1, v, .cons _ t, e => by
    obtain ⟨p, a, h1, h2, h3⟩ := LL.at (i := i) (v := v) t (by simpa using e)
    exact ⟨p, a, by simpa using h1, h2, h3⟩
theorem LL.app {N : Addr → Prop} {H : Hp} : ∀ {vs ws : List V} {ps qs : List (List Str)}, LL N H vs ps → LL N H ws qs → LL N H (vs ++ ws) (ps ++ qs)
  | _, _, _, _, .nil, k => k
  | _, _, _, _, .cons h t, k => .cons h (LL.app t k)
section
variable {P : Program} {w : World} {K : PySem.W.Frag} {mg : Str → Option Value} {base : Heap}
def spCoats2 (K : PySem.W.Frag) : Sp := fun vs H Q _ => ∃ (p na ca : Addr) (mx : Nat) (z cs : List Str), vs = [.ref p, .ref na, .ref ca, .int (mx : Nat)] ∧ Pile H p ∧ na ≠ p ∧ ca ≠ p ∧ SqL K H na (z.map V.str) ∧ z ≠ [] ∧ z.length ≤ 24 ∧ SqL K H ca (cs.map V.str) ∧ cs ≠ [] ∧ cs.length ≤ 24 ∧ (∀ c ∈ cs, Valid c) ∧ mx ≤ 1000 ∧
  ∀ (q : Addr) (H' : Hp) (xs : List V) (ds : List (List Str)), H q = none → But p H H' → Pile H' p → H' q = some (.lst xs) → DpAll K H' xs (ds.map eT) → (∀ d ∈ ds, CoatOk z d) → ds.length ≤ mx → Q (.ref q) H'
theorem ok_coats2 (D : Dfn K mg "_law_coats" s_law_coats ["_law_pile_here", "_law_names_here", "_law_colours_here", "_law_most"]) (T : Txt K mg w) (c_take : C8.Cal P w K mg base 2 "_law_take" spTake []) : C8.Cal P w K mg base 3 "_law_coats" (spCoats2 K) [] := by
  refine cal_of D sc_coats (fun vs H Q E h => ?_) (fun cdv A outer s H vs Q E f hr h => ?_)
  · obtain ⟨a, b, c, d, z, cs, rfl, _⟩ := h
    rfl
  · obtain ⟨p, na, ca, mx, z, cs, rfl, hp, hnp, hcp, hs, hz0, hz, hcs, hc0, hcl, hcv, hmx, q⟩ := h
    have nd := sc_coats.nd
    refine ⟨_, (pss_cons (ps_set (i := 4) nd rfl (.inl rfl) (pe_lst pa_nil))
    (pss_cons (ps_for PassesOwn.never rfl (pi_range1 rfl T.b_range (pa_cons (C8.pe_c c_take hr (by decide) rfl (pa_cons (pv 0) (pa_cons (pe_op op_add (pv 3) pe_int) pa_nil))) pa_nil)) (pg_name (i := 5) nd rfl (.inl rfl))
      (pss_cons (ps_set (i := 6) nd rfl (.inl rfl) (pe_ix ix_list (pv 1) (C8.pe_c c_take hr (by decide) rfl (pa_cons (pv 0) (pa_cons (pe_callB call_len_seq (by rfl) T.b_len boot_len (pa_cons (pv 1) pa_nil)) pa_nil))) (fun _ _ => rfl)))
      (pss_cons (ps_set (i := 7) nd rfl (.inl rfl) (pe_ix ix_list (pv 2) (C8.pe_c c_take hr (by decide) rfl (pa_cons (pv 0) (pa_cons (pe_callB call_len_seq (by rfl) T.b_len boot_len (pa_cons (pv 2) pa_nil)) pa_nil))) (fun _ _ => rfl)))
      (pss_one (ps_expr (pe_bm PySem.F.plainAttrs_list PySem.F.slot_list_append PySem.F.type_list_append mt_append (pv 4) (pa_cons (pe_ix ix_list (pe_lst (pa_cons (pe_tup (pa_cons pe_str (pa_cons (pv 7) (pa_cons (pv 6) pa_nil)))) (pa_cons (pe_tup (pa_cons pe_str (pa_cons (pv 6) pa_nil))) pa_nil))) (pe_callTy call_int1 (by rfl) T.b_int (by decide +kernel) (pa_cons (pe_cmpR op_eq (C8.pe_c c_take hr (by decide) rfl (pa_cons (pv 0) (pa_cons pe_int pa_nil))) pe_int (nomark _)) pa_nil)) (fun _ _ => rfl)) pa_nil)))))))
    (pss_one (ps_ret (pv 4))))), ?_⟩
    have hzl : 0 < z.length := List.length_pos_iff.mpr hz0
    have hcl0 : 0 < cs.length := List.length_pos_iff.mpr hc0
    refine ⟨(show 0 ≤ sizeLine by decide), fun fa hfa => ?_⟩
    have hfp := hp.ne hfa
    refine ⟨.ref p, rfl, .int (mx : Nat), rfl, _, 1, rfl, rfl, p, mx + 1, rfl, hp.same (same_upd hfa), by omega, by omega, fun nn H2 hnn bu2 hp2 => ⟨_, rfl, by omega, by omega, ?_⟩⟩
    rw [Int.toNat_natCast]
    refine for_it (walk_range (lo := 0) (n := nn)) (fun i σ H' => But p H H' ∧ Pile H' p ∧ (∃ (xs : List V) (ds : List (List Str)), H' fa = some (.lst xs) ∧ DpAll K H' xs (ds.map eT) ∧ (∀ d ∈ ds, CoatOk z d) ∧ ds.length ≤ i) ∧ ∃ a b c, σ = [some (V.ref p), some (V.ref na), some (V.ref ca), some (V.int (mx : Nat)), some (V.ref fa), a, b, c])
      ⟨(But.of_same (same_upd hfa)).trans bu2, hp2, ⟨[], [], bu2.at hfp upd_same, .nil, (fun _ h => absurd h List.not_mem_nil), Nat.le_refl _⟩, _, _, _, rfl⟩ (fun _ _ _ _ _ => trivial) (fun i v σ H3 H4 hi pv yv => ?_) (fun σ H3 pv => ?_)
    · obtain ⟨b3, hp3, ⟨xs, ds, hx, hd, hdk, hdl⟩, u0, u1, u2, rfl⟩ := pv
      obtain ⟨rfl, rfl⟩ := yv
      refine ⟨.ref na, rfl, .ref p, rfl, .ref na, rfl, na, _, rfl, .inl (sqL_but b3 hnp hs), p, z.length, by rw [List.length_map]; rfl, hp3, hzl, by omega, fun d1 H5 hd1 bu5 hp5 => ?_⟩
      have b5 := b3.trans bu5
      refine ⟨na, _, (d1 : Nat), .str z[d1], rfl, rfl, sqL_but b5 hnp hs, atI_nat (strs_get hd1), ?_⟩
      refine ⟨.ref ca, rfl, .ref p, rfl, .ref ca, rfl, ca, _, rfl, .inl (sqL_but b5 hcp hcs), p, cs.length, by rw [List.length_map]; rfl, hp5, hcl0, by omega, fun d2 H6 hd2 bu6 hp6 => ?_⟩
      have b6 := b5.trans bu6
      refine ⟨ca, _, (d2 : Nat), .str cs[d2], rfl, rfl, sqL_but b6 hcp hcs, atI_nat (strs_get hd2), ?_⟩
      have hx6 := (bu5.trans bu6).at hfp hx
      have hd6 := dpAll_fx (fx_but bu6 hp5) (eTs ds) (dpAll_fx (fx_but bu5 hp3) (eTs ds) hd)
      refine ⟨.ref fa, rfl, .inl ⟨rfl, _, .inl (.inl hx6)⟩, .str cs[d2], rfl, .str z[d1], rfl, (show 3 ≤ sizeLine by decide), fun t1 ht1 => ⟨.str z[d1], rfl, (show 2 ≤ sizeLine by decide), fun t2 ht2 => ⟨(show 2 ≤ sizeLine by decide), fun l1 hl1 => ?_⟩⟩⟩
      have s1 := same_upd (o := .tup [.str "put", .str cs[d2], .str z[d1]]) ht1
      have s2 := same_upd (o := .tup [.str "wipe", .str z[d1]]) ht2
      have s3 := same_upd (o := .lst [.ref t1, .ref t2]) hl1
      have sm := (s1.trans s2).trans s3
      have hq1 : (upd (upd (upd H6 t1 (.tup [.str "put", .str cs[d2], .str z[d1]])) t2 (.tup [.str "wipe", .str z[d1]])) l1 (.lst [.ref t1, .ref t2])) t1 = some (.tup ([("put" : Str), cs[d2], z[d1]].map V.str)) := (s2.trans s3) _ _ upd_same
      have hq2 : (upd (upd (upd H6 t1 (.tup [.str "put", .str cs[d2], .str z[d1]])) t2 (.tup [.str "wipe", .str z[d1]])) l1 (.lst [.ref t1, .ref t2])) t2 = some (.tup ([("wipe" : Str), z[d1]].map V.str)) := s3 _ _ upd_same
      have hq3 : (upd (upd (upd H6 t1 (.tup [.str "put", .str cs[d2], .str z[d1]])) t2 (.tup [.str "wipe", .str z[d1]])) l1 (.lst [.ref t1, .ref t2])) l1 = some (.lst [.ref t1, .ref t2]) := upd_same
      have hp7 := hp6.same sm
      have hx7 := sm _ _ hx6
      have hd7 := dpAll_same sm hd6
      have b7 := b6.trans (But.of_same sm)
      have hl1p : l1 ≠ p := ((hp6.same s1).same s2).ne hl1
      generalize upd (upd (upd H6 t1 (.tup [.str "put", .str cs[d2], .str z[d1]])) t2 (.tup [.str "wipe", .str z[d1]])) l1 (.lst [.ref t1, .ref t2]) = H7 at *
      refine ⟨.ref p, rfl, p, 4, rfl, hp7, by decide, by decide, fun d3 H8 hd3 bu8 hp8 => ⟨rfl, .inr ⟨_, rfl, ?_⟩⟩⟩
      have fin : ∀ (t : Addr) (d : List Str), CoatOk z d → H7 t = some (.tup (d.map V.str)) → ∃ l xs' y, V.ref fa = .ref l ∧ [V.ref t] = [y] ∧ H8 l = some (.lst xs') ∧ xs'.length < sizeLine ∧
          (But p H (upd H8 l (.lst (xs' ++ [y]))) ∧ Pile (upd H8 l (.lst (xs' ++ [y]))) p ∧ (∃ (xs : List V) (ds : List (List Str)), (upd H8 l (.lst (xs' ++ [y]))) fa = some (.lst xs) ∧ DpAll K (upd H8 l (.lst (xs' ++ [y]))) xs (ds.map eT) ∧ (∀ d ∈ ds, CoatOk z d) ∧ ds.length ≤ i + 1) ∧
            ∃ a b c, [some (V.ref p), some (V.ref na), some (V.ref ca), some (V.int (mx : Nat)), some (V.ref fa), some (V.int (0 + (i : Nat))), some (V.str z[d1]), some (V.str cs[d2])] = [some (V.ref p), some (V.ref na), some (V.ref ca), some (V.int (mx : Nat)), some (V.ref fa), a, b, c]) := fun t d hco ht => by
        have hx8 := bu8.at hfp hx7
        have hlx : xs.length = ds.length := by rw [dpAll_len hd, List.length_map]
        have fx8 := fx_but bu8 hp7
        have fx : Fx H8 (upd H8 fa (.lst (xs ++ [.ref t]))) := .lst hx8
        refine ⟨fa, xs, .ref t, rfl, rfl, hx8, by rw [sizeLine_eq]; have := hi; omega, But.mut (b7.trans bu8) hfa, hp8.mut hfp, ⟨xs ++ [.ref t], ds ++ [d], upd_same, ?_, ?_, ?_⟩, _, _, _, rfl⟩
        · rw [List.map_append]
          exact dpAll_snoc (dpAll_fx fx (eTs ds) (dpAll_fx fx8 (eTs ds) hd7)) (dp_of_eT (sqT_fx fx (sqT_fx fx8 (.inl (.inl ht)))))
        · intro g hg
          rw [List.mem_append, List.mem_singleton] at hg
          rcases hg with h | rfl
          · exact hdk g h
          · exact hco
        · rw [List.length_append]
          exact Nat.succ_le_succ hdl
      by_cases hw : V.int (d3 : Nat) = V.int 0
      · rw [decide_eq_true hw]
        exact ⟨l1, _, 1, .ref t2, rfl, rfl, .inl (.inl (bu8.at hl1p hq3)), rfl, fin t2 _ (.inr ⟨_, rfl, List.getElem_mem hd1⟩) hq2⟩
      · rw [decide_eq_false hw]
        exact ⟨l1, _, 0, .ref t1, rfl, rfl, .inl (.inl (bu8.at hl1p hq3)), rfl, fin t1 _ (.inl ⟨_, _, rfl, hcv _ (List.getElem_mem hd2), List.getElem_mem hd1⟩) hq1⟩
    · obtain ⟨b3, hp3, ⟨xs, ds, hx, hd, hdk, hdl⟩, u0, u1, u2, rfl⟩ := pv
      exact ⟨.ref fa, rfl, q fa H3 xs ds hfa b3 hp3 hx hd hdk (by omega)⟩
def spKeeps (K : PySem.W.Frag) : Sp := fun vs H Q _ => ∃ (pa fa : Addr) (pt : List Str) (fc : Fc), vs = [.ref pa, .ref fa] ∧ SqL K H pa (pt.map V.str) ∧ SqT K H fa ((fL fc).map V.str) ∧ Q (.bl (keepsM pt fc)) H
theorem ok_keeps (D : Dfn K mg "_law_keeps" s_law_keeps ["_law_patch", "_law_fact"]) (T : Txt K mg w) : C8.Cal P w K mg base 1 "_law_keeps" (spKeeps K) [] := by
  refine cal_of D sc_keeps (fun vs H Q E h => ?_) (fun cdv A outer s H vs Q E f hr h => ?_)
  · obtain ⟨a, b, c, d, rfl, _⟩ := h
    rfl
  · obtain ⟨pa, fa, pt, fc, rfl, hp, hf, q⟩ := h
    have nd := sc_keeps.nd
    refine ⟨_, (pss_cons (ps_asg (pv 1) (pg_tup (n := 3) rfl (pgs_cons (pg_name (i := 2) nd rfl (.inl rfl)) (pgs_cons (pg_name (i := 3) nd rfl (.inl rfl)) (pgs_cons (pg_name (i := 4) nd rfl (.inl rfl)) pgs_nil)))))
    (pss_cons (ps_if (pt_cmpR op_eq (pv 2) pe_str (nomark _))
      (pss_one (ps_ret (pe_or (pe_cmpR op_notIn_seq (pv 3) (pv 0) rfl) (pe_one (pe_cmpR op_in_seq (pv 4) (pv 0) rfl)))))
      pss_nil)
    (pss_cons (ps_if (pt_cmpR op_eq (pv 2) pe_str (nomark _))
      (pss_one (ps_ret (pe_or (pe_cmpR op_notIn_seq (pv 3) (pv 0) rfl) (pe_one (pe_cmpR op_notIn_seq (pv 4) (pv 0) rfl)))))
      pss_nil)
    (pss_one (ps_ret (pe_or (pe_cmpR op_in_seq (pv 3) (pv 0) rfl) (pe_one (pe_cmpR op_in_seq (pv 4) (pv 0) rfl)))))))), ?_⟩
    refine ⟨.ref fa, rfl, fa, _, rfl, hf, rfl, _, _, rfl, _, _, rfl, _, _, rfl, rfl, ?_⟩
    have no : ∀ x : Str, (!inV (.str x) (pt.map V.str)) = decide (x ∉ pt) := fun x => by rw [inV_str]; simp
    refine ⟨.str fc.1, rfl, rfl, decide (V.str fc.1 = V.str "in"), rfl, ?_⟩
    by_cases h1 : V.str fc.1 = V.str "in"
    · rw [decide_eq_true h1]
      have e : keepsM pt fc = (decide (fc.2.1 ∉ pt) || decide (fc.2.2 ∈ pt)) := by unfold keepsM; rw [V.str.inj h1]; rfl
      rw [e] at q
      refine iteT ⟨.str fc.2.1, rfl, .ref pa, rfl, pa, _, rfl, .inl hp, rfl, flat_str _, decide (fc.2.1 ∉ pt), congrArg V.bl (no _), ?_⟩
      by_cases a : fc.2.1 ∉ pt
      · rw [decide_eq_true a] at q ⊢
        exact iteT q
      · rw [decide_eq_false a] at q ⊢
        refine iteF ⟨.str fc.2.2, rfl, .ref pa, rfl, pa, _, rfl, .inl hp, rfl, flat_str _, ?_⟩
        show Q (.bl (inV (.str fc.2.2) (pt.map V.str))) H
        rw [inV_str]
        exact q
    · rw [decide_eq_false h1]
      refine iteF ⟨.str fc.1, rfl, rfl, decide (V.str fc.1 = V.str "apart"), rfl, ?_⟩
      by_cases h2 : V.str fc.1 = V.str "apart"
      · rw [decide_eq_true h2]
        have e : keepsM pt fc = (decide (fc.2.1 ∉ pt) || decide (fc.2.2 ∉ pt)) := by unfold keepsM; rw [V.str.inj h2]; rfl
        rw [e] at q
        refine iteT ⟨.str fc.2.1, rfl, .ref pa, rfl, pa, _, rfl, .inl hp, rfl, flat_str _, decide (fc.2.1 ∉ pt), congrArg V.bl (no _), ?_⟩
        by_cases a : fc.2.1 ∉ pt
        · rw [decide_eq_true a] at q ⊢
          exact iteT q
        · rw [decide_eq_false a] at q ⊢
          refine iteF ⟨.str fc.2.2, rfl, .ref pa, rfl, pa, _, rfl, .inl hp, rfl, flat_str _, ?_⟩
          show Q (.bl (!inV (.str fc.2.2) (pt.map V.str))) H
          rw [no]
          exact q
      · rw [decide_eq_false h2]
        have e : keepsM pt fc = (decide (fc.2.1 ∈ pt) || decide (fc.2.2 ∈ pt)) := by
          unfold keepsM
          rw [if_neg (fun h => h1 (congrArg V.str h)), if_neg (fun h => h2 (congrArg V.str h))]
        rw [e] at q
        refine iteF ⟨.str fc.2.1, rfl, .ref pa, rfl, pa, _, rfl, .inl hp, rfl, flat_str _, decide (fc.2.1 ∈ pt), congrArg V.bl inV_str, ?_⟩
        by_cases a : fc.2.1 ∈ pt
        · rw [decide_eq_true a] at q ⊢
          exact iteT q
        · rw [decide_eq_false a] at q ⊢
          refine iteF ⟨.str fc.2.2, rfl, .ref pa, rfl, pa, _, rfl, .inl hp, rfl, flat_str _, ?_⟩
          show Q (.bl (inV (.str fc.2.2) (pt.map V.str))) H
          rw [inV_str]
          exact q
theorem allP_len : ∀ z : List Str, (allP z).length = 2 ^ z.length
  | [] => rfl
  | n :: r => by
    show (allP r ++ (allP r).map (n :: ·)).length = _
    rw [List.length_append, List.length_map, allP_len r, List.length_cons, Nat.pow_succ]
    omega
def spAll (K : PySem.W.Frag) : Sp := fun vs H Q _ => ∃ (na : Addr) (z : List Str), vs = [.ref na] ∧ SqL K H na (z.map V.str) ∧ z.length ≤ 7 ∧ ∀ (q : Addr) (H' : Hp) (xs : List V), H q = none → Same H H' → H' q = some (.lst xs) → LL (fun a => H a = none) H' xs (allP z) → Q (.ref q) H'
theorem ok_all (D : Dfn K mg "_law_all" s_law_all ["_law_names_here"]) (T : Txt K mg w) : C8.Cal P w K mg base 1 "_law_all" (spAll K) [] := by
  refine cal_of D sc_all (fun vs H Q E h => ?_) (fun cdv A outer s H vs Q E f hr h => ?_)
  · obtain ⟨a, b, rfl, _⟩ := h
    rfl
  · obtain ⟨na, z, rfl, hs, hz, q⟩ := h
    have nd := sc_all.nd
    refine ⟨_, (pss_cons (ps_set (i := 1) nd rfl (.inl rfl) (pe_lst (pa_cons (pe_lst pa_nil) pa_nil)))
    (pss_cons (ps_for PassesOwn.never rfl (pi_list (pe_revL (pv 0))) (pg_name (i := 2) nd rfl (.inr rfl))
      (pss_one (ps_set (i := 1) nd rfl (.inl rfl) (pe_op op_cat (pv 1) (pe_lc (own := [("_law_patch", 3)]) rfl nd (pi_list (pv 1)) (blkOk_by (by kernel_rfl)) (fun _ _ _ _ _ => (pg_name (i := 3) nd rfl (by first | exact Or.inl rfl | exact Or.inr rfl))) (fun _ _ _ _ _ => pts_nil) (fun _ _ _ _ _ => (pe_op op_cat (pe_lst (pa_cons (pv 2) pa_nil)) (pv 3))))))))
    (pss_one (ps_ret (pv 1))))), ?_⟩
    refine ⟨(show 0 ≤ sizeLine by decide), fun e he => ⟨(show 1 ≤ sizeLine by decide), fun f0 hf0 => ?_⟩⟩
    have s0 := (same_upd (o := .lst []) he).trans (same_upd (o := .lst [.ref e]) hf0)
    have hef : e ≠ f0 := fun h => by rw [← h, upd_same] at hf0; cases hf0
    have hf0H : H f0 = none := Same.back (same_upd he) hf0
    refine ⟨.ref na, rfl, na, _, rfl, sqL_same s0 hs, fun rv hrv => ?_⟩
    have s1 := s0.trans (same_upd (o := .lst (z.map V.str).reverse) hrv)
    refine ⟨rv, rfl, ⟨_, .inl (.inl upd_same)⟩, for_it (walk_list (xs := (z.map V.str).reverse)) (fun i σ H' => Same H H' ∧ H' rv = some (.lst (z.map V.str).reverse) ∧ ∃ (fa : Addr) (xs : List V) (x y : Option V), σ = [some (V.ref na), some (V.ref fa), x, y] ∧ H fa = none ∧ H' fa = some (.lst xs) ∧ LL (fun a => H a = none) H' xs (allP (z.drop (z.length - i)))) ⟨s1, upd_same, f0, [.ref e], _, _, rfl, hf0H, ?_, ?_⟩ (fun i σ H' _ p => .inl (.inl p.2.1)) (fun i v σ H2 H3 hi pv yv => ?_) (fun σ H2 pv => ?_)⟩
    · exact same_upd hrv _ _ upd_same
    · rw [Nat.sub_zero, List.drop_length]
      exact .cons ⟨e, rfl, he, same_upd hrv _ _ (by rw [upd_ne hef, upd_same]; rfl)⟩ .nil
    · obtain ⟨sm, hr2, fa, xs, x, y, rfl, hfaH, hfa, hll⟩ := pv
      obtain ⟨rfl, hv⟩ := yv
      rw [List.length_reverse, List.length_map] at hi
      have hzi : z.length - (i + 1) < z.length := by omega
      have ev : v = .str z[z.length - (i + 1)] := by
        rw [List.getElem?_reverse (by rw [List.length_map]; exact hi), List.length_map, show z.length - 1 - i = z.length - (i + 1) by omega, strs_get hzi] at hv
        exact (Option.some.inj hv).symm
      subst ev
      have hxl : xs.length ≤ 128 := by
        rw [hll.len, allP_len]
        calc 2 ^ (z.drop (z.length - i)).length ≤ 2 ^ 7 := Nat.pow_le_pow_right (by decide) (by rw [List.length_drop]; omega)
          _ = 128 := rfl
      refine ⟨.ref fa, rfl, .ref fa, rfl, fa, rfl, ⟨xs, .inl (.inl hfa)⟩, fun D1 hD1 => ?_⟩
      refine lc_it (walk_list (xs := xs)) (fun j H' => Same H3 H' ∧ ∃ ws, H' D1 = some (.lst ws) ∧ LL (fun a => H a = none) (wo H' D1) ws (((allP (z.drop (z.length - i))).take j).map (z[z.length - (i + 1)] :: ·))) ⟨same_upd hD1, [], upd_same, .nil⟩ (fun j H' _ p => .inl (.inl (p.1 _ _ hfa))) (fun j v H4 H5 hj pv yv => ?_) (fun H4 pv => ?_)
      · obtain ⟨sm4, ws, hws, hll4⟩ := pv
        obtain ⟨rfl, hv⟩ := yv
        obtain ⟨pt, pa, hp1, rfl, hpa⟩ := hll.at hv
        have hj' : j < (allP (z.drop (z.length - i))).length := by rw [← hll.len]; exact hj
        refine ⟨rfl, .str z[z.length - (i + 1)], rfl, (show 1 ≤ sizeLine by decide), fun a1 ha1 => ⟨.ref pa, rfl, a1, pa, _, pt.map V.str, rfl, rfl, upd_same, same_upd ha1 _ _ (sm4 _ _ hpa), ?_, fun a2 ha2 => ?_⟩⟩
        · have hpl : pt.length ≤ 7 := by
            have : ∀ (y : List Str) (q : List Str), q ∈ allP y → q.length ≤ y.length := by
              intro y
              induction y with
              | nil => intro q hq; rw [List.mem_singleton.mp hq]; exact Nat.le_refl _
              | cons n r ih =>
                intro q hq
                rcases List.mem_append.mp hq with h | h
                · exact Nat.le_succ_of_le (ih q h)
                · obtain ⟨q', h1, rfl⟩ := List.mem_map.mp h
                  exact Nat.succ_le_succ (ih q' h1)
            have h2 := this _ pt (List.mem_of_getElem? hp1)
            rw [List.length_drop] at h2
            omega
          rw [List.length_map, sizeLine_eq]
          show 1 + _ ≤ _
          omega
        have s5 := (same_upd (o := .lst [.str z[z.length - (i + 1)]]) ha1).trans (same_upd (o := .lst ([.str z[z.length - (i + 1)]] ++ pt.map V.str)) ha2)
        have hD1a : a2 ≠ D1 := fun h => by
          rw [h, same_upd ha1 _ _ hws] at ha2
          cases ha2
        refine ⟨ws, s5 _ _ hws, ?_, same_mut (sm4.trans s5) hD1, ws ++ [.ref a2], upd_same, ?_⟩
        · rw [hll4.len, List.length_map, List.length_take, sizeLine_eq]
          have := hll.len
          omega
        · rw [wo_upd, ← List.take_append_getElem hj', List.map_append]
          refine LL.app (hll4.same (But.of_same s5)) (.cons ⟨a2, rfl, Same.back ((sm.trans sm4).trans (same_upd ha1)) ha2, ?_⟩ .nil)
          rw [wo_ne hD1a, upd_same]
          have : (allP (z.drop (z.length - i)))[j] = pt := Option.some.inj ((List.getElem?_eq_getElem hj').symm.trans hp1)
          rw [this]
          rfl
      · obtain ⟨sm4, ws, hws, hll4⟩ := pv
        have hll4' := hll4.same (H' := H4) wo_same
        refine ⟨fa, D1, xs, ws, rfl, rfl, sm4 _ _ hfa, hws, ?_, fun p hp => ?_⟩
        · rw [hll4.len, List.length_map, List.length_take, sizeLine_eq]
          have := hll.len
          omega
        have s6 := (sm.trans sm4).trans (same_upd (o := .lst (xs ++ ws)) hp)
        refine ⟨s6, same_upd hp _ _ (sm4 _ _ hr2), p, xs ++ ws, _, _, rfl, Same.back (sm.trans sm4) hp, upd_same, ?_⟩
        have e1 : z.drop (z.length - (i + 1)) = z[z.length - (i + 1)] :: z.drop (z.length - i) := by
          rw [List.drop_eq_getElem_cons hzi, show z.length - (i + 1) + 1 = z.length - i by omega]
        rw [e1]
        show LL _ _ _ (allP (z.drop (z.length - i)) ++ (allP (z.drop (z.length - i))).map (z[z.length - (i + 1)] :: ·))
        rw [hll.len, List.take_length] at hll4'
        exact LL.app ((hll.same sm4).same (same_upd hp)) (hll4'.same (same_upd hp))
    · obtain ⟨sm, hr2, fa, xs, x, y, rfl, hfaH, hfa, hll⟩ := pv
      rw [List.length_reverse, List.length_map, Nat.sub_self] at hll
      exact ⟨.ref fa, rfl, q fa H2 xs hfaH sm hfa hll⟩
end
end Cw
end
section
namespace Cw
open PySem PySem.Spec PyProof.Rows L2
theorem pa_mono {α β : Type} {R S : α → β → Prop} (h : ∀ a b, R a b → S a b) : ∀ {l : List α} {m : List β}, Paired R l m → Paired S l m
  | _, _, .nil => .nil
  | _, _, .cons a t => .cons (h _ _ a) (pa_mono h t)
theorem pa_at {α β : Type} {R : α → β → Prop} : ∀ {l : List α} {m : List β} {i : Nat} {a : α}, Paired R l m → l[i]? = some a → ∃ b, m[i]? = some b ∧ R a b
  | _, _, _, _, .nil, e => by simp at e
  | _, _, 0, a, .cons h t, e => by
    simp at e
    subst e
    exact ⟨_, rfl, h⟩
  | _, _, i + 1, a, .cons _ t, e => by
    obtain ⟨b, h1, h2⟩ := pa_at (i := i) (a := a) t (by simpa using e)
    exact ⟨b, by simpa using h1, h2⟩
theorem pa_app {α β : Type} {R : α → β → Prop} : ∀ {l l' : List α} {m m' : List β}, Paired R l m → Paired R l' m' → Paired R (l ++ l') (m ++ m')
  | _, _, _, _, .nil, k => k
  | _, _, _, _, .cons h t, k => .cons h (pa_app t k)
theorem pa_len {α β : Type} {R : α → β → Prop} {l : List α} {m : List β} (h : Paired R l m) : l.length = m.length := Paired.length h
theorem pa_dp {K : PySem.W.Frag} {H : Hp} {α : Type} {f : α → PyData} : ∀ {l : List V} {m : List α}, Paired (fun v x => Dp K H v (f x)) l m → DpAll K H l (m.map f)
  | _, _, .nil => .nil
  | _, _, .cons h t => .cons h (pa_dp t)
theorem dp_pa {K : PySem.W.Frag} {H : Hp} {α : Type} {f : α → PyData} : ∀ {l : List V} {m : List α}, DpAll K H l (m.map f) → Paired (fun v x => Dp K H v (f x)) l m
  | _, [], h => by cases h; exact .nil
  | _, x :: r, h => by
    cases h with
    | cons h1 h2 => exact .cons h1 (dp_pa h2)
theorem pa_drop {α β : Type} {R : α → β → Prop} : ∀ (n : Nat) {l : List α} {m : List β}, Paired R l m → Paired R (l.drop n) (m.drop n)
  | 0, _, _, h => h
  | _ + 1, _, _, .nil => .nil
  | n + 1, _, _, .cons _ t => pa_drop n t
theorem filt_succ {α : Type} {q : α → Bool} {l : List α} {i : Nat} (h : i < l.length) : (l.take (i + 1)).filter q = (l.take i).filter q ++ if q l[i] = true then [l[i]] else [] := by
  rw [← List.take_append_getElem h, List.filter_append]
  congr 1
  by_cases c : q l[i] = true
  · rw [if_pos c, List.filter_cons_of_pos c, List.filter_nil]
  · rw [if_neg c, List.filter_cons_of_neg c, List.filter_nil]
/-- a comprehension that keeps some items of a list -/
theorem lc_filt {K : PySem.W.Frag} {α : Type} {E : Hp → V → α → Prop} (hE : ∀ H H' v x, Same H H' → E H v x → E H' v x) {a : Addr} {xs : List V} {as : List α} {tt : TT} {vs : List Nat} {σ : L2.St} {H1 : Hp} {D : Addr} {Qd : Hp → Prop} {i : Nat}
    (hx : SqL K H1 a xs) (hll : Paired (E H1) xs as) (hz : xs.length < sizeLine) (hD : H1 D = none) (hw : ∀ v, wipe ((wipe σ vs).set i v) vs = wipe σ vs) (hi : i < (wipe σ vs).length) (q : α → Bool)
    (ht : ∀ x v H' (R : Bool → Hp → Prop), x ∈ as → Same H1 H' → E H' v x → (∀ H'', Same H' H'' → R (q x) H'') → tt ((wipe σ vs).set i (some v)) H' R) (hd : ∀ H' ws, Same H1 H' → H' D = some (.lst ws) → Paired (E H1) ws (as.filter q) → Qd H') :
    ∃ W : Nat → Nat → Hp → Prop, (∃ m, W 0 m (upd H1 D (.lst []))) ∧ ∀ j m H, W j m H →
      ((Itl K a).stop j H ∧ Qd H) ∨ ((Itl K a).go j H ∧ ∃ Nx : Hp → Prop, (∀ H', Nx H' → ∃ m', m' < m ∧ W (j + 1) m' H') ∧ ∀ x H', (Itl K a).yld j H x H' → gName i x (wipe σ vs) H' fun σ2 H2 => wipe σ2 vs = wipe σ vs ∧ tt σ2 H2 fun b H3 =>
        if b = true then tVar i σ2 H3 fun y H4 => ∃ acc, H4 D = some (.lst acc) ∧ acc.length < sizeLine ∧ Nx (upd H4 D (.lst (acc ++ [y]))) else Nx H3) := by
  have hlen := pa_len hll
  refine lc_it (walk_list (xs := xs)) (fun j H' => Same H1 H' ∧ ∃ ws, H' D = some (.lst ws) ∧ Paired (E H1) ws ((as.take j).filter q)) ⟨same_upd hD, [], upd_same, .nil⟩ (fun j H' _ p => sqL_same p.1 hx) (fun j v H2 H3 hj pv yv => ?_) (fun H2 pv => ?_)
  · obtain ⟨sm, ws, hws, hp⟩ := pv
    obtain ⟨rfl, hv⟩ := yv
    obtain ⟨x, hx1, hx2⟩ := pa_at hll hv
    have hj' : j < as.length := by omega
    have ex : as[j] = x := Option.some.inj ((List.getElem?_eq_getElem hj').symm.trans hx1)
    refine ⟨hw _, ht x v H3 _ (List.mem_of_getElem? hx1) sm (hE _ _ _ _ sm hx2) fun H4 sm4 => ?_⟩
    cases hq : q x with
    | true =>
      refine ⟨v, List.getElem?_set_self hi, ws, sm4 _ _ hws, ?_, same_mut (sm.trans sm4) hD, ws ++ [v], upd_same, ?_⟩
      · have h1 := pa_len hp
        have h2 := List.length_filter_le q (as.take j)
        rw [List.length_take] at h2
        omega
      · rw [filt_succ hj', ex, if_pos hq]
        exact pa_app hp (.cons hx2 .nil)
    | false =>
      refine ⟨sm.trans sm4, ws, sm4 _ _ hws, ?_⟩
      rw [filt_succ hj', ex, if_neg (by rw [hq]; decide), List.append_nil]
      exact hp
  · obtain ⟨sm, ws, hws, hp⟩ := pv
    rw [hlen, List.take_length] at hp
    exact hd H2 ws sm hws hp
/-- a patch as a list -/
def PL (H : Hp) (v : V) (p : List Str) : Prop := ∃ a, v = .ref a ∧ H a = some (.lst (p.map V.str))
theorem PL.same (H H' : Hp) (v : V) (p : List Str) (s : Same H H') (h : PL H v p) : PL H' v p := by
  obtain ⟨a, h1, h2⟩ := h
  exact ⟨a, h1, s _ _ h2⟩
theorem fxd_same {K : PySem.W.Frag} {α : Type} {f : α → PyData} (H H' : Hp) (v : V) (x : α) (s : Same H H') (h : Dp K H v (f x)) : Dp K H' v (f x) := dp_same s h
/-- what is asked of texts that are compared -/
def SokA (ps : List (List Str)) : Prop := ∀ p ∈ ps, ∀ x ∈ p, PyData.strOk x = true
theorem SokA.filt {ps : List (List Str)} (h : SokA ps) (q : List Str → Bool) : SokA (ps.filter q) := fun p hp => h p (List.mem_filter.mp hp).1
theorem fact_sok {z : List Str} (hv : ∀ x ∈ z, Valid x) {f : Fc} (ok : FOk z f) : ∀ x ∈ fL f, PyData.strOk x = true := by
  intro x hx
  unfold fL at hx
  simp only [List.mem_cons, List.not_mem_nil, or_false] at hx
  rcases hx with rfl | rfl | rfl
  · rcases ok.k with e | e | e <;> rw [e] <;> decide +kernel
  · exact sok_valid (hv _ ok.a)
  · exact sok_valid (hv _ ok.b)
theorem sh_fD {z : List Str} (hv : ∀ x ∈ z, Valid x) {fs : List Fc} (ok : ∀ f ∈ fs, FOk z f) : SeqAt.shaped (.list (fs.map fD)) = true :=
  sh_list (fun f hf => cl_eT (fact_sok hv (ok f hf))) (fun f _ => Nat.le_trans dp_eTd (by decide))
theorem allP_mem : ∀ {z p : List Str}, p ∈ allP z → ∀ x ∈ p, x ∈ z
  | [], p, h, x, hx => by
    rw [List.mem_singleton.mp h] at hx
    cases hx
  | n :: r, p, h, x, hx => by
    rcases List.mem_append.mp h with h | h
    · exact List.mem_cons_of_mem _ (allP_mem h x hx)
    · obtain ⟨p', h1, rfl⟩ := List.mem_map.mp h
      rcases List.mem_cons.mp hx with rfl | hx
      · exact List.mem_cons_self
      · exact List.mem_cons_of_mem _ (allP_mem h1 x hx)
theorem allP_sok {z : List Str} (hv : ∀ x ∈ z, Valid x) : SokA (allP z) := fun p hp x hx => sok_valid (hv x (allP_mem hp x hx))
section
variable {P : Program} {w : World} {K : PySem.W.Frag} {mg : Str → Option Value} {base : Heap}
def spPoss (K : PySem.W.Frag) : Sp := fun vs H Q _ => ∃ (na fa : Addr) (z : List Str) (xs : List V) (fs : List Fc), vs = [.ref na, .ref fa] ∧ SqL K H na (z.map V.str) ∧ z.length ≤ 7 ∧ (∀ x ∈ z, Valid x) ∧ SqL K H fa xs ∧ DpAll K H xs (fs.map fD) ∧ (∀ f ∈ fs, FOk z f) ∧ fs.length ≤ 1200 ∧
  ∀ (q : Addr) (H' : Hp) (ys : List V), H q = none → Same H H' → H' q = some (.lst ys) → Paired (PL H') ys (possM z fs) → ys.length ≤ 128 → Q (.ref q) H'
theorem ok_poss (D : Dfn K mg "_law_possible" s_law_possible ["_law_names_here", "_law_facts_here"]) (T : Txt K mg w) (c_all : C8.Cal P w K mg base 1 "_law_all" (spAll K) []) (c_keeps : C8.Cal P w K mg base 1 "_law_keeps" (spKeeps K) []) : C8.Cal P w K mg base 2 "_law_possible" (spPoss K) [] := by
  refine cal_of D sc_possible (fun vs H Q E h => ?_) (fun cdv A outer s H vs Q E f hr h => ?_)
  · obtain ⟨a, b, c, d, e, rfl, _⟩ := h
    rfl
  · obtain ⟨na, fa, z, xs, fs, rfl, hs, hz, hv, hx, hd, hok, hfl, q⟩ := h
    have nd := sc_possible.nd
    refine ⟨_, (pss_one (ps_ret (pe_lc (own := [("_law_patch", 2)]) rfl nd (pi_list (C8.pe_c c_all hr (by decide) rfl (pa_cons (pv 0) pa_nil))) (blkOk_by (by kernel_rfl)) (fun _ _ _ _ _ => (pg_name (i := 2) nd rfl (by first | exact Or.inl rfl | exact Or.inr rfl))) (fun _ _ _ _ _ => (pts_one (pt_cmpR (op_eqDK (K := K) rfl (hu64 hr)) (pe_lc (own := [("_law_fact", 3)]) rfl nd (pi_listK (K := K) rfl (pv 1)) (blkOk_by (by kernel_rfl)) (fun _ _ _ _ _ => (pg_name (i := 3) nd rfl (by first | exact Or.inl rfl | exact Or.inr rfl))) (fun _ _ _ _ _ => (pts_one (pt_not (pt_val (C8.pe_c c_keeps hr (by decide) rfl (pa_cons (pv 2) (pa_cons (pv 3) pa_nil))))))) (fun _ _ _ _ _ => (pv 3))) (pe_lst pa_nil) (nomark _)))) (fun _ _ _ _ _ => (pv 2))))), ?_⟩
    refine ⟨.ref na, rfl, na, z, rfl, hs, hz, fun q0 H1 ps hq0 sm1 e1 hll => ⟨q0, rfl, ⟨ps, .inl (.inl e1)⟩, fun D1 hD1 => ?_⟩⟩
    have hpl : ps.length ≤ 128 := by
      rw [hll.len, allP_len]
      calc 2 ^ z.length ≤ 2 ^ 7 := Nat.pow_le_pow_right (by decide) hz
        _ = 128 := rfl
    have hfx : xs.length = fs.length := by rw [dpAll_len hd, List.length_map]
    refine lc_filt (E := PL) PL.same (.inl (.inl e1)) (pa_mono (fun v p h => let ⟨a, h1, _, h2⟩ := h; ⟨a, h1, h2⟩) hll) (by rw [sizeLine_eq]; omega) hD1 (fun _ => rfl) (show 2 < 4 by decide) (fun p => decide (fs.filter (fun f => !keepsM p f) = [])) (fun p v H2 R hp sm2 hpv hR => ?_) (fun H2 ws sm2 hws hpw => ?_)
    · obtain ⟨pa, rfl, hpa⟩ := hpv
      have s12 := sm1.trans sm2
      refine ⟨.ref fa, rfl, fa, rfl, ⟨xs, sqL_same s12 hx⟩, fun D2 hD2 => ?_⟩
      refine lc_filt (E := fun H v f => Dp K H v (fD f)) (fun H H' v x s h => dp_same s h) (sqL_same s12 hx) (dp_pa (dpAll_same s12 hd)) (by rw [sizeLine_eq]; omega) hD2 (fun _ => rfl) (show 3 < 4 by decide) (fun f => !keepsM p f) (fun fc v2 H3 R2 hfc sm3 hfv hR2 => ?_) (fun H3 ws2 sm3 hws2 hpw2 => ?_)
      · obtain ⟨t, rfl, ht⟩ := dp_eT hfv
        exact ⟨.ref pa, rfl, .ref t, rfl, pa, t, p, fc, rfl, .inl (.inl (sm3 _ _ hpa)), ht, keepsM p fc, rfl, hR2 H3 (Same.refl _)⟩
      · refine ⟨(show 0 ≤ sizeLine by decide), fun e he => ?_⟩
        have se := same_upd (o := .lst []) he
        have hsub : ∀ f ∈ fs.filter (fun f => !keepsM p f), FOk z f := fun f hf => hok f (List.mem_filter.mp hf).1
        refine ⟨.list ((fs.filter fun f => !keepsM p f).map fD), .list [], .lst (.inl (.inl (se _ _ hws2))) (dpAll_same (sm3.trans se) (pa_dp hpw2)), .lst (.inl (.inl upd_same)) .nil, sh_fD hv hsub, sh_nil, decide (fs.filter (fun f => !keepsM p f) = []), congrArg V.bl (eqv_nil_map _), hR _ (sm3.trans se)⟩
    · refine q D1 H2 ws (Same.back sm1 hD1) (sm1.trans sm2) hws (pa_mono (fun v p h => PL.same _ _ _ _ sm2 h) hpw) ?_
      rw [pa_len hpw]
      exact Nat.le_trans (List.length_filter_le _ _) (by rw [← hll.len]; exact hpl)
theorem last_at {d : List Str} (h : d ≠ []) : atI (d.map V.str) (-1) = some (.str (reg d)) := by
  cases d with
  | nil => exact absurd rfl h
  | cons k r => exact atI_end
def spCovered (K : PySem.W.Frag) : Sp := fun vs H Q _ => ∃ (pa da : Addr) (k : Nat) (xs ys : List V) (ps ds : List (List Str)), vs = [.ref pa, .ref da, .int (k : Nat)] ∧ SqL K H pa xs ∧ Paired (PL H) xs ps ∧ xs.length ≤ 200 ∧ SqL K H da ys ∧ DpAll K H ys (ds.map eT) ∧ (∀ d ∈ ds, d ≠ []) ∧ SokA ds ∧ k < ds.length ∧ ds.length ≤ 100 ∧
  ∀ H', Same H H' → Q (.bl (coveredM ps ds k)) H'
theorem rg_get {ds : List (List Str)} {k : Nat} (h : k < ds.length) : rg ds k = reg ds[k] := by
  unfold rg
  rw [List.getD_eq_getElem?_getD, List.getElem?_eq_getElem h]
  rfl
theorem ok_covered (D : Dfn K mg "_law_covered" s_law_covered ["_law_patches", "_law_deeds", "_law_k"]) (T : Txt K mg w) : C8.Cal P w K mg base 1 "_law_covered" (spCovered K) [] := by
  refine cal_of D sc_covered (fun vs H Q E h => ?_) (fun cdv A outer s H vs Q E f hr h => ?_)
  · obtain ⟨a, b, c, d, e, f, g, rfl, _⟩ := h
    rfl
  · obtain ⟨pa, da, k, xs, ys, ps, ds, rfl, hx, hp, hxl, hy, hd, hne, hsok, hk, hdl, q⟩ := h
    have nd := sc_covered.nd
    have hyl : ys.length = ds.length := by rw [dpAll_len hd, List.length_map]
    refine ⟨_, (pss_cons (ps_for PassesOwn.never rfl (pi_list (pv 0)) (pg_name (i := 3) nd rfl (.inr rfl))
      (pss_one (ps_if (PW.pt (pw_and (pt_cmpR op_in_seq (pe_ix ix_tup (pe_ix ix_list (pv 1) (pv 2) (fun _ _ => rfl)) (pe_un un_neg pe_int) (fun _ _ => rfl)) (pv 3) rfl) (pw_and1 (pt_cmpR (op_eqD (hu64 hr)) (pe_lc (own := [("_law_deed", 4)]) rfl nd (pi_list (pe_slice sl_list (pv 1) (po_some (pe_op op_add (pv 2) pe_int)) po_none)) (blkOk_by (by kernel_rfl)) (fun _ _ _ _ _ => (pg_name (i := 4) nd rfl (by first | exact Or.inl rfl | exact Or.inr rfl))) (fun _ _ _ _ _ => (pts_one (pt_cmpR (op_inK (K := K) rfl) (pe_ix (ix_tupK (K := K) rfl) (pv 4) (pe_un un_neg pe_int) (fun _ _ => rfl)) (pv 3) rfl))) (fun _ _ _ _ _ => (pv 4))) (pe_lst pa_nil) (nomark _)))))
        (pss_one (ps_ret pe_bl))
        pss_nil)))
    (pss_one (ps_ret pe_bl))), ?_⟩
    obtain ⟨tk, hk1, hk2⟩ := line_to hd hk
    refine ⟨.ref pa, rfl, pa, rfl, ⟨xs, hx⟩, for_it (walk_list (xs := xs)) (fun i σ H' => Same H H' ∧ coveredM (ps.take i) ds k = true ∧ ∃ x, σ = [some (V.ref pa), some (V.ref da), some (V.int (k : Nat)), x, none]) ⟨Same.refl _, rfl, _, rfl⟩ (fun i σ H' _ p => sqL_same p.1 hx) (fun i v σ H1 H2 hi pv yv => ?_) (fun σ H1 pv => ?_)⟩
    · obtain ⟨sm, hcv, x0, rfl⟩ := pv
      obtain ⟨rfl, hv⟩ := yv
      obtain ⟨p, hp1, pad, rfl, hpad⟩ := pa_at hp hv
      have hi' : i < ps.length := by rw [← pa_len hp]; exact hi
      have ep : ps[i] = p := Option.some.inj ((List.getElem?_eq_getElem hi').symm.trans hp1)
      have hcs : coveredM (ps.take (i + 1)) ds k = (coveredM (ps.take i) ds k && !(decide (rg ds k ∈ p) && decide ((ds.drop (k + 1)).filter (fun d => decide (reg d ∈ p)) = []))) := by
        unfold coveredM
        rw [← List.take_append_getElem hi', List.all_append, ep]
        simp
      have hstop : (decide (rg ds k ∈ p) && decide ((ds.drop (k + 1)).filter (fun d => decide (reg d ∈ p)) = [])) = true → coveredM ps ds k = false := fun h => by
        unfold coveredM
        rw [List.all_eq_false]
        exact ⟨p, List.mem_of_getElem? hp1, by rw [h]; decide⟩
      refine ⟨.ref da, rfl, .int (k : Nat), rfl, da, ys, (k : Nat), .ref tk, rfl, rfl, sqL_same sm hy, atI_nat hk1, 1, rfl, tk, _, -1, .str (reg ds[k]), rfl, rfl, sqT_same sm hk2, last_at (hne _ (List.getElem_mem hk)), .ref pad, rfl, pad, _, rfl, .inl (.inl (.inl (sm _ _ hpad))), rfl, flat_str _, decide (reg ds[k] ∈ p), congrArg V.bl inV_str, ?_⟩
      rw [rg_get hk] at hcs hstop
      by_cases hm : reg ds[k] ∈ p
      · rw [decide_eq_true hm] at hcs hstop ⊢
        refine iteT ⟨.ref da, rfl, .int (k : Nat), rfl, (k : Nat), 1, rfl, rfl, _, rfl, da, ys, rfl, sqL_same sm hy, fun sl hsl => ?_⟩
        dsimp only
        rw [show ((k : Nat) : Int) + 1 = ((k + 1 : Nat) : Int) by omega, cutV_from (by omega)]
        have s2 := sm.trans (same_upd (o := .lst (ys.drop (k + 1))) hsl)
        have hsl2 : (upd H2 sl (.lst (ys.drop (k + 1)))) sl = some (.lst (ys.drop (k + 1))) := upd_same
        have ss : Same H2 (upd H2 sl (.lst (ys.drop (k + 1)))) := same_upd hsl
        generalize upd H2 sl (.lst (ys.drop (k + 1))) = H3 at *
        refine ⟨sl, rfl, ⟨_, .inl (.inl hsl2)⟩, fun D1 hD1 => ?_⟩
        refine lc_filt (E := fun H v d => Dp K H v (eT d)) (fun H H' v x s h => dp_same s h) (.inl (.inl hsl2)) (dp_pa (by rw [List.map_drop]; exact dpAll_drop (k + 1) (dpAll_same s2 hd))) (by rw [List.length_drop, sizeLine_eq]; omega) hD1 (fun _ => rfl) (show 4 < 5 by decide) (fun d => decide (reg d ∈ p)) (fun d v2 H4 R hd4 sm4 hdv hR => ?_) (fun H4 ws sm4 hws hpw => ?_)
        · obtain ⟨t, rfl, ht⟩ := dp_eT hdv
          exact ⟨.ref t, rfl, 1, rfl, t, _, -1, .str (reg d), rfl, rfl, ht, last_at (hne _ (List.mem_of_mem_drop hd4)), .ref pad, rfl, pad, _, rfl, .inl (.inl (.inl ((s2.trans sm4) _ _ hpad))), rfl, flat_str _, decide (reg d ∈ p), congrArg V.bl inV_str, hR _ (Same.refl _)⟩
        · refine ⟨(show 0 ≤ sizeLine by decide), fun e he => ?_⟩
          have se := same_upd (o := .lst []) he
          refine ⟨.list (((ds.drop (k + 1)).filter fun d => decide (reg d ∈ p)).map eT), .list [], .lst (.inl (.inl (se _ _ hws))) (dpAll_same (sm4.trans se) (pa_dp hpw)), .lst (.inl (.inl upd_same)) .nil, sh_eTs (fun d hd => hsok d (List.mem_of_mem_drop (List.mem_filter.mp hd).1)), sh_nil, decide ((ds.drop (k + 1)).filter (fun d => decide (reg d ∈ p)) = []), congrArg V.bl (eqv_nil_map _), ?_⟩
          have s5 := (s2.trans sm4).trans se
          by_cases hem : (ds.drop (k + 1)).filter (fun d => decide (reg d ∈ p)) = []
          · rw [decide_eq_true hem] at hstop ⊢
            rw [hstop rfl] at q
            exact iteT (q _ s5)
          · rw [decide_eq_false hem] at hcs ⊢
            exact iteF ⟨s5, by rw [hcs, hcv]; rfl, _, rfl⟩
      · rw [decide_eq_false hm] at hcs ⊢
        exact iteF (iteF ⟨sm, by rw [hcs, hcv]; rfl, _, rfl⟩)
    · obtain ⟨sm, hcv, x0, rfl⟩ := pv
      rw [pa_len hp, List.take_length] at hcv
      rw [hcv] at q
      exact q _ sm
end
end Cw
end
section
namespace Cw
open PySem PySem.Spec PyProof.Rows L2
theorem rgV_lat (ds : List (List Str)) (k : Nat) (h : k < ds.length) : rgV ((k : Int) + 1) (ds.length : Nat) = (lat ds k).map fun (x : Nat) => V.int (x : Int) := by
  unfold rgV lat
  rw [List.range'_eq_map_range, List.map_map, show (((ds.length : Nat) : Int) - ((k : Int) + 1)).toNat = ds.length - (k + 1) by omega]
  apply List.map_congr_left
  intro i _
  show V.int ((k : Int) + 1 + (i : Nat)) = V.int ((k + 1 + i : Nat) : Int)
  congr 1
theorem lat_get {ds : List (List Str)} {j i : Nat} (h : i < (lat ds j).length) : (lat ds j)[i] = j + 1 + i := by
  simp [lat]
section
variable {P : Program} {w : World} {K : PySem.W.Frag} {mg : Str → Option Value} {base : Heap}
def spDue (K : PySem.W.Frag) : Sp := fun vs H Q _ => ∃ (pa da : Addr) (k : Nat) (xs ys : List V) (ps ds : List (List Str)), vs = [.ref pa, .ref da, .int (k : Nat)] ∧ SqL K H pa xs ∧ Paired (PL H) xs ps ∧ xs.length ≤ 200 ∧ SokA ps ∧ SqL K H da ys ∧ DpAll K H ys (ds.map eT) ∧ (∀ d ∈ ds, d ≠ []) ∧ k < ds.length ∧ ds.length ≤ 100 ∧
  ∀ v H', AnsV H H' v (dueM ps ds k) → Q v H'
theorem ok_due (D : Dfn K mg "_law_due" s_law_due ["_law_patches", "_law_deeds", "_law_k"]) (T : Txt K mg w) : C8.Cal P w K mg base 1 "_law_due" (spDue K) [] := by
  refine cal_of D sc_due (fun vs H Q E h => ?_) (fun cdv A outer s H vs Q E f hr h => ?_)
  · obtain ⟨a, b, c, d, e, f, g, rfl, _⟩ := h
    rfl
  · obtain ⟨pa, da, k, xs, ys, ps, ds, rfl, hx, hp, hxl, hsok, hy, hd, hne, hk, hdl, q⟩ := h
    have nd := sc_due.nd
    have hyl : ys.length = ds.length := by rw [dpAll_len hd, List.length_map]
    refine ⟨_, (pss_cons (ps_setLc (i := 3) (own := [("_law_patch", 7)]) rfl nd rfl rfl (sw_true rfl rfl rfl (by decide +kernel)) (pi_list (pv 0)) (blkOk_by (by kernel_rfl)) (fun _ _ _ _ _ => (pg_name (i := 7) nd rfl (by first | exact Or.inl rfl | exact Or.inr rfl))) (fun _ _ _ _ _ => (pts_one (pt_cmpR (op_inK (K := K) rfl) (pe_ix (ix_tupK (K := K) rfl) (pe_ix (ix_listK (K := K) rfl) (pv 1) (pv 2) (fun _ _ => rfl)) (pe_un un_neg pe_int) (fun _ _ => rfl)) (pv 7) rfl))) (fun _ _ _ _ _ => (pv 7)))
    (pss_cons (ps_if (pt_cmpR (op_eqD (hu64 hr)) (pv 3) (pe_lst pa_nil) (nomark _))
      (pss_one (ps_ret (pe_lst pa_nil)))
      pss_nil)
    (pss_cons (ps_set (i := 4) nd rfl (.inl rfl) (pe_listRg rfl rfl T.b_list (prg_2 rfl T.b_range (pe_op op_add (pv 2) pe_int) (pe_callB call_len_seq (by rfl) T.b_len boot_len (pa_cons (pv 1) pa_nil)))))
    (pss_cons (ps_for PassesOwn.never rfl (pi_list (pv 4)) (pg_name (i := 5) nd rfl (.inr rfl))
      (pss_one (ps_if (pt_cmpR (op_eqD (hu64 hr)) (pe_lc (own := [("_law_patch", 7)]) rfl nd (pi_list (pv 3)) (blkOk_by (by kernel_rfl)) (fun _ _ _ _ _ => (pg_name (i := 7) nd rfl (by first | exact Or.inl rfl | exact Or.inr rfl))) (fun _ _ _ _ _ => (pts_one (pt_cmpR (op_notInK (K := K) rfl) (pe_ix (ix_tupK (K := K) rfl) (pe_ix (ix_listK (K := K) rfl) (pv 1) (pv 5) (fun _ _ => rfl)) (pe_un un_neg pe_int) (fun _ _ => rfl)) (pv 7) rfl))) (fun _ _ _ _ _ => (pv 7))) (pe_lst pa_nil) (nomark _))
        (pss_one (ps_ret (pe_lst (pa_cons (pv 5) pa_nil))))
        pss_nil)))
    (pss_cons (ps_for PassesOwn.never rfl (pi_list (pv 4)) (pg_name (i := 5) nd rfl (.inr rfl))
      (pss_one (ps_for PassesOwn.never rfl (pi_range2 rfl T.b_range (pa_cons (pe_op op_add (pv 5) pe_int) (pa_cons (pe_callB call_len_seq (by rfl) T.b_len boot_len (pa_cons (pv 1) pa_nil)) pa_nil))) (pg_name (i := 6) nd rfl (.inr rfl))
        (pss_one (ps_if (pt_cmpR (op_eqD (hu64 hr)) (pe_lc (own := [("_law_patch", 7)]) rfl nd (pi_list (pv 0)) (blkOk_by (by kernel_rfl)) (fun _ _ _ _ _ => (pg_name (i := 7) nd rfl (by first | exact Or.inl rfl | exact Or.inr rfl))) (fun _ _ _ _ _ => (pts_one (PW.pt (pw_and (pt_cmpR (op_notInK (K := K) rfl) (pe_ix (ix_tupK (K := K) rfl) (pe_ix (ix_listK (K := K) rfl) (pv 1) (pv 5) (fun _ _ => rfl)) (pe_un un_neg pe_int) (fun _ _ => rfl)) (pv 7) rfl) (pw_and1 (pt_cmpR (op_notInK (K := K) rfl) (pe_ix (ix_tupK (K := K) rfl) (pe_ix (ix_listK (K := K) rfl) (pv 1) (pv 6) (fun _ _ => rfl)) (pe_un un_neg pe_int) (fun _ _ => rfl)) (pv 7) rfl)))))) (fun _ _ _ _ _ => (pv 7))) (pe_lst pa_nil) (nomark _))
          (pss_one (ps_ret (pe_lst (pa_cons (pv 5) (pa_cons (pv 6) pa_nil)))))
          pss_nil)))))
    (pss_one (ps_ret pe_non))))))), ?_⟩
    have hit : ∀ j, j < ds.length → ∃ t : Addr, ys[j]? = some (.ref t) ∧ SqT K H t (((ds.getD j [])).map V.str) ∧ atI ((ds.getD j []).map V.str) (-1) = some (.str (rg ds j)) := fun j hj => by
      obtain ⟨t, h1, h2⟩ := line_to hd hj
      have e : ds.getD j [] = ds[j] := by
        rw [List.getD_eq_getElem?_getD, List.getElem?_eq_getElem hj]
        rfl
      refine ⟨t, h1, by rw [e]; exact h2, ?_⟩
      unfold rg
      exact last_at (by rw [e]; exact hne _ (List.getElem_mem hj))
    have nin : ∀ (x : Str) (p : List Str), (!inV (.str x) (p.map V.str)) = decide (x ∉ p) := fun x p => by rw [inV_str]; simp
    obtain ⟨tk, hk1, hk2, hk3⟩ := hit k hk
    refine ⟨.ref pa, rfl, pa, rfl, ⟨xs, hx⟩, fun D1 hD1 => ?_⟩
    refine lc_filt (E := PL) PL.same hx hp (by rw [sizeLine_eq]; omega) hD1 (fun _ => rfl) (show 7 < 8 by decide) (fun p => decide (rg ds k ∈ p)) (fun p v H2 R hpm sm hpv hR => ?_) (fun H2 ws sm hws hpw => ?_)
    · obtain ⟨pad, rfl, hpad⟩ := hpv
      exact ⟨.ref da, rfl, .int (k : Nat), rfl, da, ys, (k : Nat), .ref tk, rfl, rfl, sqL_same sm hy, atI_nat hk1, 1, rfl, tk, _, -1, .str (rg ds k), rfl, rfl, sqT_same sm hk2, hk3, .ref pad, rfl, pad, _, rfl, .inl (.inl (.inl hpad)), rfl, flat_str _, decide (rg ds k ∈ p), congrArg V.bl inV_str, hR _ (Same.refl _)⟩
    have hwl : ws.length ≤ 200 := by
      rw [pa_len hpw]
      have h1 := List.length_filter_le (fun p => decide (rg ds k ∈ p)) ps
      have h2 := pa_len hp
      omega
    refine ⟨.ref D1, rfl, (show 0 ≤ sizeLine by decide), fun e he => ?_⟩
    have se := same_upd (o := .lst []) he
    have s2 := sm.trans se
    have hpw2 := pa_mono (fun v p h => PL.same _ _ _ _ s2 h) hpw
    have dpl : ∀ {H' : Hp} {vs : List V} {qs : List (List Str)}, Paired (PL H') vs qs → DpAll K H' vs (qs.map eL) := fun h => pa_dp (pa_mono (fun v p h => by
      obtain ⟨a, h1, h2⟩ := h
      rw [h1]
      exact dp_of_eL (.inl (.inl h2))) h)
    refine ⟨.list ((hereM ps ds k).map eL), .list [], .lst (.inl (.inl (se _ _ hws))) (dpl hpw2), .lst (.inl (.inl upd_same)) .nil, sh_eLs (hsok.filt _), sh_nil, decide (hereM ps ds k = []), congrArg V.bl (eqv_nil_map _), ?_⟩
    by_cases h0 : hereM ps ds k = []
    · rw [decide_eq_true h0]
      refine iteT ⟨(show 0 ≤ sizeLine by decide), fun p hp0 => q _ _ ?_⟩
      unfold dueM
      rw [if_pos h0]
      exact ⟨p, rfl, Same.back s2 hp0, s2.trans (same_upd hp0), upd_same⟩
    rw [decide_eq_false h0]
    have hdue : dueM ps ds k = ((lat ds k).findSome? (d1 ps ds k)).or ((lat ds k).findSome? fun j => (lat ds j).findSome? (d2 ps ds j)) := by
      unfold dueM
      rw [if_neg h0]
    have hws2 := se _ _ hws
    generalize upd H2 e (.lst []) = H3 at *
    clear se he e
    refine iteF ⟨.int (k : Nat), rfl, _, 1, rfl, rfl, .ref da, rfl, da, ys, rfl, .inl (sqL_same s2 hy), _, _, rfl, rfl, ?_, fun lq hlq => ?_⟩
    · exact .of_le (by omega) (by omega) (by omega) (by omega)
    rw [hyl, rgV_lat ds k hk]
    have s3 := s2.trans (same_upd (o := .lst ((lat ds k).map fun (x : Nat) => V.int (x : Int))) hlq)
    have hlq3 : (upd H3 lq (.lst ((lat ds k).map fun (x : Nat) => V.int (x : Int)))) lq = some (.lst ((lat ds k).map fun (x : Nat) => V.int (x : Int))) := upd_same
    have hws3 := same_upd (o := .lst ((lat ds k).map fun (x : Nat) => V.int (x : Int))) hlq _ _ hws2
    generalize upd H3 lq (.lst ((lat ds k).map fun (x : Nat) => V.int (x : Int))) = H4 at *
    clear hlq
    have hget : ∀ {i : Nat} {v : V}, ((lat ds k).map fun (x : Nat) => V.int (x : Int))[i]? = some v → ∃ (hi : i < (lat ds k).length), v = .int ((lat ds k)[i] : Nat) ∧ (lat ds k)[i] < ds.length := fun {i v} e => by
      rw [List.getElem?_map] at e
      obtain ⟨x, h1, h2⟩ := Option.map_eq_some_iff.mp e
      obtain ⟨hi, e2⟩ := List.getElem?_eq_some_iff.mp h1
      exact ⟨hi, by rw [e2]; exact h2.symm, (mem_lat.mp (List.getElem_mem hi)).2⟩
    refine ⟨.ref lq, rfl, lq, rfl, ⟨_, .inl (.inl hlq3)⟩, for_it (walk_list (xs := (lat ds k).map fun (x : Nat) => V.int (x : Int))) (fun i σ H' => Same H4 H' ∧ ((lat ds k).take i).findSome? (d1 ps ds k) = none ∧ ∃ x, σ = [some (V.ref pa), some (V.ref da), some (V.int (k : Nat)), some (V.ref D1), some (V.ref lq), x, none, none]) ⟨Same.refl _, rfl, _, rfl⟩ (fun _ _ _ _ p => .inl (.inl (p.1 _ _ hlq3))) (fun i v σ H5 H6 hi pv y => ?_) (fun σ H5 pv => ?_)⟩
    · obtain ⟨sm5, hno, x0, rfl⟩ := pv
      obtain ⟨rfl, hv⟩ := y
      obtain ⟨hi2, rfl, hjl⟩ := hget hv
      generalize hj : (lat ds k)[i] = j at *
      obtain ⟨t, ht1, ht2, ht3⟩ := hit j hjl
      have s5 := s3.trans sm5
      have hws5 := sm5 _ _ hws3
      refine ⟨.ref D1, rfl, D1, rfl, ⟨ws, .inl (.inl hws5)⟩, fun D2 hD2 => ?_⟩
      refine lc_filt (E := PL) PL.same (.inl (.inl hws5)) (pa_mono (fun v p h => PL.same _ _ _ _ s5 h) hpw) (by rw [sizeLine_eq]; omega) hD2 (fun _ => rfl) (show 7 < 8 by decide) (fun p => decide (rg ds j ∉ p)) (fun p v H7 R hpm sm7 hpv hR => ?_) (fun H7 ws2 sm7 hws2 hpw2 => ?_)
      · obtain ⟨pad, rfl, hpad⟩ := hpv
        have s7 := s5.trans sm7
        exact ⟨.ref da, rfl, .int (j : Nat), rfl, da, ys, (j : Nat), .ref t, rfl, rfl, sqL_same s7 hy, atI_nat ht1, 1, rfl, t, _, -1, .str (rg ds j), rfl, rfl, sqT_same s7 ht2, ht3, .ref pad, rfl, pad, _, rfl, .inl (.inl (.inl hpad)), rfl, flat_str _, decide (rg ds j ∉ p), congrArg V.bl (nin _ _), hR _ (Same.refl _)⟩
      · refine ⟨(show 0 ≤ sizeLine by decide), fun e he => ?_⟩
        have se := same_upd (o := .lst []) he
        have s8 := (s5.trans sm7).trans se
        refine ⟨.list (((hereM ps ds k).filter fun p => decide (rg ds j ∉ p)).map eL), .list [], .lst (.inl (.inl (se _ _ hws2))) (dpl (pa_mono (fun v p h => PL.same _ _ _ _ (sm7.trans se) h) hpw2)), .lst (.inl (.inl upd_same)) .nil, sh_eLs ((hsok.filt _).filt _), sh_nil, decide ((hereM ps ds k).filter (fun p => decide (rg ds j ∉ p)) = []), congrArg V.bl (eqv_nil_map _), ?_⟩
        by_cases hc : (hereM ps ds k).filter (fun p => decide (rg ds j ∉ p)) = []
        · rw [decide_eq_true hc]
          refine iteT ⟨.int (j : Nat), rfl, (show 1 ≤ sizeLine by decide), fun p hp0 => q _ _ ?_⟩
          rw [hdue, fS_hit hi2 hno (b := [j]) (by rw [hj]; unfold d1; rw [if_pos hc])]
          exact ⟨p, rfl, Same.back s8 hp0, s8.trans (same_upd hp0), upd_same⟩
        · rw [decide_eq_false hc]
          exact iteF ⟨(sm5.trans sm7).trans se, fS_more hi2 hno (by rw [hj]; unfold d1; rw [if_neg hc]), _, rfl⟩
    · obtain ⟨sm5, hno, x0, rfl⟩ := pv
      rw [List.length_map, List.take_length] at hno
      rw [hno] at hdue
      replace hdue : dueM ps ds k = (lat ds k).findSome? fun j => (lat ds j).findSome? (d2 ps ds j) := hdue
      have s5 := s3.trans sm5
      have hlq5 := sm5 _ _ hlq3
      refine ⟨.ref lq, rfl, lq, rfl, ⟨_, .inl (.inl hlq5)⟩, for_it (walk_list (xs := (lat ds k).map fun (x : Nat) => V.int (x : Int))) (fun i σ H' => Same H5 H' ∧ ((lat ds k).take i).findSome? (fun j => (lat ds j).findSome? (d2 ps ds j)) = none ∧ ∃ x y, σ = [some (V.ref pa), some (V.ref da), some (V.int (k : Nat)), some (V.ref D1), some (V.ref lq), x, y, none]) ⟨Same.refl _, rfl, _, _, rfl⟩ (fun _ _ _ _ p => .inl (.inl (p.1 _ _ hlq5))) (fun i v σ H6 H7 hi pv y => ?_) (fun σ H6 pv => ?_)⟩
      · obtain ⟨sm6, hno2, x1, y1, rfl⟩ := pv
        obtain ⟨rfl, hv⟩ := y
        obtain ⟨hi2, rfl, hjl⟩ := hget hv
        generalize hj : (lat ds k)[i] = j at *
        obtain ⟨t, ht1, ht2, ht3⟩ := hit j hjl
        have s6 := s5.trans sm6
        refine ⟨.int (j : Nat), rfl, _, 1, rfl, rfl, .ref da, rfl, da, ys, rfl, .inl (sqL_same s6 hy), (j : Int) + 1, (ys.length : Nat), rfl, ⟨by omega, by omega, by omega, by omega⟩, ?_⟩
        have en : ((ys.length : Int) - ((j : Int) + 1)).toNat = ds.length - (j + 1) := by omega
        rw [en]
        have hll : (lat ds j).length = ds.length - (j + 1) := by
          unfold lat
          exact List.length_range'
        refine for_it (walk_range (lo := (j : Int) + 1) (n := ds.length - (j + 1))) (fun i2 σ H' => Same H7 H' ∧ ((lat ds j).take i2).findSome? (d2 ps ds j) = none ∧ ∃ y, σ = [some (V.ref pa), some (V.ref da), some (V.int (k : Nat)), some (V.ref D1), some (V.ref lq), some (V.int (j : Nat)), y, none]) ⟨Same.refl _, rfl, _, rfl⟩ (fun _ _ _ _ _ => trivial) (fun i2 v2 σ H8 H9 hj2 pv y => ?_) (fun σ H8 pv => ?_)
        · obtain ⟨sm8, hno3, y2, rfl⟩ := pv
          obtain ⟨rfl, hv2⟩ := y
          replace hv2 : v2 = .int ((j : Int) + 1 + (i2 : Nat)) := hv2
          rw [show (j : Int) + 1 + (i2 : Nat) = ((j + 1 + i2 : Nat) : Int) by omega] at hv2
          subst hv2
          have hi2l : i2 < (lat ds j).length := by omega
          have eli : (lat ds j)[i2] = j + 1 + i2 := lat_get hi2l
          generalize hi3 : j + 1 + i2 = i3 at *
          have hi3l : i3 < ds.length := by omega
          obtain ⟨u, hu1, hu2, hu3⟩ := hit i3 hi3l
          have s8 := s6.trans sm8
          refine ⟨.ref pa, rfl, pa, rfl, ⟨xs, sqL_same s8 hx⟩, fun D2 hD2 => ?_⟩
          refine lc_filt (E := PL) PL.same (sqL_same s8 hx) (pa_mono (fun v p h => PL.same _ _ _ _ s8 h) hp) (by rw [sizeLine_eq]; omega) hD2 (fun _ => rfl) (show 7 < 8 by decide) (fun p => decide (rg ds j ∉ p) && decide (rg ds i3 ∉ p)) (fun p v H10 R hpm sm10 hpv hR => ?_) (fun H10 ws2 sm10 hws10 hpw10 => ?_)
          · obtain ⟨pad, rfl, hpad⟩ := hpv
            have s10 := s8.trans sm10
            refine ⟨.ref da, rfl, .int (j : Nat), rfl, da, ys, (j : Nat), .ref t, rfl, rfl, sqL_same s10 hy, atI_nat ht1, 1, rfl, t, _, -1, .str (rg ds j), rfl, rfl, sqT_same s10 ht2, ht3, .ref pad, rfl, pad, _, rfl, .inl (.inl (.inl hpad)), rfl, flat_str _, decide (rg ds j ∉ p), congrArg V.bl (nin _ _), ?_⟩
            replace hR := hR _ (Same.refl _)
            by_cases c1 : rg ds j ∉ p
            · rw [decide_eq_true c1] at hR ⊢
              exact iteT ⟨.ref da, rfl, .int (i3 : Nat), rfl, da, ys, (i3 : Nat), .ref u, rfl, rfl, sqL_same s10 hy, atI_nat hu1, 1, rfl, u, _, -1, .str (rg ds i3), rfl, rfl, sqT_same s10 hu2, hu3, .ref pad, rfl, pad, _, rfl, .inl (.inl (.inl hpad)), rfl, flat_str _, decide (rg ds i3 ∉ p), congrArg V.bl (nin _ _), hR⟩
            · rw [decide_eq_false c1] at hR ⊢
              exact iteF hR
          · refine ⟨(show 0 ≤ sizeLine by decide), fun e he => ?_⟩
            have se := same_upd (o := .lst []) he
            have s11 := (s8.trans sm10).trans se
            refine ⟨.list ((ps.filter fun p => decide (rg ds j ∉ p) && decide (rg ds i3 ∉ p)).map eL), .list [], .lst (.inl (.inl (se _ _ hws10))) (dpl (pa_mono (fun v p h => PL.same _ _ _ _ (sm10.trans se) h) hpw10)), .lst (.inl (.inl upd_same)) .nil, sh_eLs (hsok.filt _), sh_nil, decide (ps.filter (fun p => decide (rg ds j ∉ p) && decide (rg ds i3 ∉ p)) = []), congrArg V.bl (eqv_nil_map _), ?_⟩
            by_cases hc : ps.filter (fun p => decide (rg ds j ∉ p) && decide (rg ds i3 ∉ p)) = []
            · rw [decide_eq_true hc]
              refine iteT ⟨.int (j : Nat), rfl, .int (i3 : Nat), rfl, (show 2 ≤ sizeLine by decide), fun p hp0 => q _ _ ?_⟩
              rw [hdue, fS_hit hi2 hno2 (b := [j, i3]) (by rw [hj]; exact fS_hit hi2l hno3 (by rw [eli]; unfold d2; rw [if_pos hc]))]
              exact ⟨p, rfl, Same.back s11 hp0, s11.trans (same_upd hp0), upd_same⟩
            · rw [decide_eq_false hc]
              exact iteF ⟨(sm8.trans sm10).trans se, fS_more hi2l hno3 (by rw [eli]; unfold d2; rw [if_neg hc]), _, rfl⟩
        · obtain ⟨sm8, hno3, y2, rfl⟩ := pv
          rw [← hll, List.take_length] at hno3
          exact ⟨sm6.trans sm8, fS_more hi2 hno2 (by rw [hj]; exact hno3), _, _, rfl⟩
      · obtain ⟨sm6, hno2, x1, y1, rfl⟩ := pv
        rw [List.length_map, List.take_length] at hno2
        refine q _ _ ?_
        rw [hdue, hno2]
        exact ⟨rfl, s5.trans sm6⟩
end
end Cw
end
section
namespace Cw
open PySem PySem.Spec PyProof.Rows L2
theorem poss_of {z : List Str} {fs : List Fc} {p : List Str} (h1 : p ∈ allP z) (h2 : ∀ f ∈ fs, keepsM p f = true) : possM z fs ≠ [] := List.ne_nil_of_mem (mem_poss.mpr ⟨h1, h2⟩)
theorem wo_back {H : Hp} {p a : Addr} {o : HO} (h : wo H p a = some o) : a ≠ p ∧ H a = some o := by
  by_cases e : a = p
  · rw [e, wo_self] at h
    cases h
  · rw [wo_ne e] at h
    exact ⟨e, h⟩
section
variable {P : Program} {w : World} {K : PySem.W.Frag} {mg : Str → Option Value} {base : Heap}
def spHeld (K : PySem.W.Frag) : Sp := fun vs H Q _ => ∃ (p na : Addr) (mx : Nat) (z : List Str), vs = [.ref p, .ref na, .int (mx : Nat)] ∧ Pile H p ∧ na ≠ p ∧ SqL K H na (z.map V.str) ∧ z ≠ [] ∧ z.length ≤ 7 ∧ (∀ x ∈ z, Valid x) ∧ mx ≤ 1000 ∧
  ∀ (q : Addr) (H' : Hp) (xs : List V) (fs : List Fc), H q = none → But p H H' → Pile H' p → H' q = some (.lst xs) → DpAll K H' xs (fs.map fD) → (∀ f ∈ fs, FOk z f) → fs.length ≤ mx → possM z fs ≠ [] → Q (.ref q) H'
theorem ok_held (D : Dfn K mg "_law_held" s_law_held ["_law_pile_here", "_law_names_here", "_law_most"]) (T : Txt K mg w) (c_all : C8.Cal P w K mg base 1 "_law_all" (spAll K) []) (c_facts : C8.Cal P w K mg base 3 "_law_facts" (spFacts2 K) []) (c_keeps : C8.Cal P w K mg base 1 "_law_keeps" (spKeeps K) []) : C8.Cal P w K mg base 4 "_law_held" (spHeld K) [] := by
  refine cal_of D sc_held (fun vs H Q E h => ?_) (fun cdv A outer s H vs Q E f hr h => ?_)
  · obtain ⟨a, b, c, d, rfl, _⟩ := h
    rfl
  · obtain ⟨p, na, mx, z, rfl, hp, hnp, hs, hz0, hz, hvz, hmx, q⟩ := h
    have nd := sc_held.nd
    refine ⟨_, (pss_cons (ps_set (i := 3) nd rfl (.inl rfl) (pe_lst pa_nil))
    (pss_cons (ps_set (i := 4) nd rfl (.inl rfl) (C8.pe_c c_all hr (by decide) rfl (pa_cons (pv 1) pa_nil)))
    (pss_cons (ps_for PassesOwn.never rfl (pi_list (C8.pe_c c_facts hr (by decide) rfl (pa_cons (pv 0) (pa_cons (pv 1) (pa_cons (pv 2) pa_nil))))) (pg_name (i := 5) nd rfl (.inr rfl))
      (pss_cons (ps_setLc (i := 6) (own := [("_law_patch", 7)]) rfl nd rfl rfl (sw_true rfl rfl rfl (by decide +kernel)) (pi_list (pv 4)) (blkOk_by (by kernel_rfl)) (fun _ _ _ _ _ => (pg_name (i := 7) nd rfl (by first | exact Or.inl rfl | exact Or.inr rfl))) (fun _ _ _ _ _ => (pts_one (pt_val (C8.pe_c c_keeps hr (by decide) rfl (pa_cons (pv 7) (pa_cons (pv 5) pa_nil)))))) (fun _ _ _ _ _ => (pv 7)))
      (pss_one (ps_if (pt_cmpR (op_neD (hu64 hr)) (pv 6) (pe_lst pa_nil) (nomark _))
        (pss_cons (ps_set (i := 4) nd rfl (.inl rfl) (pv 6))
        (pss_one (ps_expr (pe_bm PySem.F.plainAttrs_list PySem.F.slot_list_append PySem.F.type_list_append mt_append (pv 3) (pa_cons (pv 5) pa_nil)))))
        pss_nil))))
    (pss_one (ps_ret (pv 3)))))), ?_⟩
    refine ⟨(show 0 ≤ sizeLine by decide), fun fh hfh => ?_⟩
    have hfhp := hp.ne hfh
    have s0 := same_upd (o := .lst []) hfh
    refine ⟨.ref na, rfl, na, z, rfl, sqL_same s0 hs, hz, fun pq H1 ps0 hpq sm1 e1 hll => ?_⟩
    have hpl0 : ps0.length ≤ 128 := by
      rw [hll.len, allP_len]
      calc 2 ^ z.length ≤ 2 ^ 7 := Nat.pow_le_pow_right (by decide) hz
        _ = 128 := rfl
    have hpqf : pq ≠ fh := fun e => by rw [e, upd_same] at hpq; cases hpq
    have hfh1 : H1 fh = some (.lst []) := sm1 _ _ upd_same
    have hp1 : Pile H1 p := (hp.same s0).same sm1
    have hPL0 : Paired (PL (wo H1 fh)) ps0 (allP z) := pa_mono (fun v pt h => by
      obtain ⟨a, h1, hn, h2⟩ := h
      have : a ≠ fh := fun e => by rw [e, upd_same] at hn; cases hn
      exact ⟨a, h1, by rw [wo_ne this]; exact h2⟩) hll
    refine ⟨.ref p, rfl, .ref na, rfl, .int (mx : Nat), rfl, p, na, mx, z, rfl, hp1, hnp, sqL_same (s0.trans sm1) hs, hz0, by omega, hmx, fun fq H2 gx gs hfq bu2 hp2 hgx hgd hgok hgl => ⟨fq, rfl, ⟨gx, .inl (.inl hgx)⟩, ?_⟩⟩
    have hfqf : fq ≠ fh := fun e => by rw [e, hfh1] at hfq; cases hfq
    have hfqp : fq ≠ p := hp1.ne hfq
    have hgx' : (wo H2 fh) fq = some (.lst gx) := by rw [wo_ne hfqf]; exact hgx
    have hgd' : DpAll K (wo H2 fh) gx (gs.map fD) := by
      have fx : Fx H2 (wo H2 fh) := fun b xs h => by
        have hne : b ≠ fh := fun e => by
          have := bu2.at hfhp hfh1
          subst e
          rcases h with h | ⟨_, h⟩ <;> rw [this] at h <;> cases h
        rcases h with h | ⟨o, h⟩
        · exact .inl (by rw [wo_ne hne]; exact h)
        · exact .inr ⟨o, by rw [wo_ne hne]; exact h⟩
      exact dpAll_fx fx (fDs gs) hgd
    -- the patches' list behind the draws
    have hbw : But p (wo H1 fh) (wo H2 fh) := fun b o e => by
      obtain ⟨h1, h2⟩ := wo_back e
      obtain ⟨h3, h4⟩ := wo_back h2
      rw [wo_ne h1, wo_ne h3]
      exact bu2.at h1 h4
    have hpp : ∀ {a : Addr} {l : List Str}, H1 a = some (.lst (l.map V.str)) → (upd H fh (.lst [])) a = none → a ≠ p := fun {a l} h1 h2 e => by
      have := (hp.same s0).ne h2
      exact this e
    have hPL2 : Paired (PL (wo H2 fh)) ps0 (allP z) := pa_mono (fun v pt h => by
      obtain ⟨a, h1, hn, h2⟩ := h
      have haf : a ≠ fh := fun e => by rw [e, upd_same] at hn; cases hn
      exact ⟨a, h1, by rw [wo_ne haf]; exact bu2.at (hpp h2 hn) h2⟩) hll
    have hpq2 : (wo H2 fh) pq = some (.lst ps0) := by
      rw [wo_ne hpqf]
      exact bu2.at ((hp.same s0).ne hpq) e1
    have hfh2 := bu2.at hfhp hfh1
    have b2 : But p H H2 := ((But.of_same s0).trans (But.of_same sm1)).trans bu2
    have hgxl : gx.length = gs.length := by rw [dpAll_len hgd, List.length_map]
    refine for_it (walk_list (xs := gx)) (fun i σ H' => But p H H' ∧ Pile H' p ∧ Same (wo H2 fh) (wo H' fh) ∧ ∃ (pq : Addr) (ws : List V) (ps : List (List Str)) (xs : List V) (fs : List Fc) (u v : Option V), σ = [some (V.ref p), some (V.ref na), some (V.int (mx : Nat)), some (V.ref fh), some (V.ref pq), u, v, none] ∧
        H' fh = some (.lst xs) ∧ DpAll K (wo H' fh) xs (fs.map fD) ∧ (∀ f ∈ fs, FOk z f) ∧ fs.length ≤ i ∧ (wo H' fh) pq = some (.lst ws) ∧ Paired (PL (wo H' fh)) ws ps ∧ ws.length ≤ 128 ∧ ps ≠ [] ∧ ∀ pt ∈ ps, pt ∈ allP z ∧ ∀ f ∈ fs, keepsM pt f = true)
      ⟨b2, hp2, Same.refl _, pq, ps0, allP z, [], [], none, none, rfl, hfh2, .nil, (fun _ h => absurd h List.not_mem_nil), Nat.le_refl _, hpq2, hPL2, hpl0, ?_, fun pt h => ⟨h, fun _ h => absurd h List.not_mem_nil⟩⟩ (fun i σ H' _ pv => .inl (.inl (wo_back (pv.2.2.1 _ _ hgx')).2)) (fun i v σ H3 H4 hi pv yv => ?_) (fun σ H3 pv => ?_)
    · intro h
      have := allP_len z
      rw [h] at this
      have h2 := Nat.two_pow_pos z.length
      rw [← this] at h2
      exact Nat.lt_irrefl 0 h2
    · obtain ⟨b3, hp3, sg, pq, ws, ps, xs, fs, u, v0, rfl, hfh3, hd3, hok3, hl3, hpq3, hPL3, hwl, hne3, hkp3⟩ := pv
      obtain ⟨rfl, hv⟩ := yv
      obtain ⟨dd, hdd, hdv⟩ := dpAll_get (dpAll_same sg hgd') hv
      rw [List.getElem?_map] at hdd
      obtain ⟨g, hg1, rfl⟩ := Option.map_eq_some_iff.mp hdd
      obtain ⟨t, rfl, ht⟩ := dp_eT hdv
      have ht' : SqT K H4 t ((fL g).map V.str) := sqT_same wo_same ht
      obtain ⟨hpqf3, hpqH⟩ := wo_back hpq3
      refine ⟨.ref pq, rfl, pq, rfl, ⟨ws, .inl (.inl hpqH)⟩, fun D1 hD1 => ?_⟩
      have hD1f : D1 ≠ fh := fun e => by rw [e, hfh3] at hD1; cases hD1
      refine lc_filt (E := fun H v pt => PL (wo H fh) v pt) (fun H H' v x s h => PL.same _ _ _ _ (But.of_same s) h) (.inl (.inl hpqH)) hPL3 (by rw [sizeLine_eq]; omega) hD1 (fun _ => rfl) (show 7 < 8 by decide) (fun pt => keepsM pt g) (fun pt v H5 R hpm sm5 hpv hR => ?_) (fun H5 ws5 sm5 hws5 hpw5 => ?_)
      · obtain ⟨pad, rfl, hpad⟩ := hpv
        exact ⟨.ref pad, rfl, .ref t, rfl, pad, t, pt, g, rfl, .inl (.inl (wo_back hpad).2), sqT_same sm5 ht', keepsM pt g, rfl, hR _ (Same.refl _)⟩
      · refine ⟨.ref D1, rfl, (show 0 ≤ sizeLine by decide), fun e he => ?_⟩
        have se := same_upd (o := .lst []) he
        have s6 := sm5.trans se
        have hsk : SokA ps := fun pt hpt x hx => sok_valid (hvz x (allP_mem (hkp3 pt hpt).1 x hx))
        have hpw6 : Paired (PL (wo (upd H5 e (.lst [])) fh)) ws5 (ps.filter fun pt => keepsM pt g) := pa_mono (fun v pt h => PL.same _ _ _ _ (But.of_same s6) h) hpw5
        refine ⟨.list ((ps.filter fun pt => keepsM pt g).map eL), .list [], .lst (.inl (.inl (se _ _ hws5))) (pa_dp (pa_mono (fun v pt h => by
          obtain ⟨a, h1, h2⟩ := h
          rw [h1]
          exact dp_of_eL (.inl (.inl (wo_back h2).2))) hpw6)), .lst (.inl (.inl upd_same)) .nil, sh_eLs (hsk.filt _), sh_nil, !decide (ps.filter (fun pt => keepsM pt g) = []), congrArg (fun b => V.bl (!b)) (eqv_nil_map _), ?_⟩
        have hfh6 := s6 _ _ hfh3
        have sg6 : Same (wo H4 fh) (wo (upd H5 e (.lst [])) fh) := But.of_same s6
        by_cases hc : ps.filter (fun pt => keepsM pt g) = []
        · rw [decide_eq_true hc]
          exact iteF ⟨b3.trans (But.of_same s6), hp3.same s6, sg.trans sg6, pq, ws, ps, xs, fs, _, _, rfl, hfh6, dpAll_same sg6 hd3, hok3, by omega, sg6 _ _ hpq3, pa_mono (fun v pt h => PL.same _ _ _ _ sg6 h) hPL3, hwl, hne3, hkp3⟩
        · rw [decide_eq_false hc]
          have hxl : xs.length = fs.length := by rw [dpAll_len hd3, List.length_map]
          refine iteT ⟨.ref D1, rfl, .ref fh, rfl, .inl ⟨rfl, _, .inl (.inl hfh6)⟩, .ref t, rfl, fh, xs, .ref t, rfl, rfl, hfh6, by rw [sizeLine_eq]; omega, But.mut (b3.trans (But.of_same s6)) hfh, (hp3.same s6).mut hfhp, ?_, D1, ws5, ps.filter (fun pt => keepsM pt g), xs ++ [.ref t], fs ++ [g], _, _, rfl, upd_same, ?_, ?_, ?_, ?_, ?_, ?_, hc, ?_⟩
          · rw [wo_upd]
            exact sg.trans sg6
          · rw [wo_upd, List.map_append]
            exact dpAll_snoc (dpAll_same sg6 hd3) (dp_same sg6 (dp_of_eT ht))
          · intro f hf
            rw [List.mem_append, List.mem_singleton] at hf
            rcases hf with h | rfl
            · exact hok3 f h
            · exact hgok _ (List.mem_of_getElem? hg1)
          · rw [List.length_append]
            exact Nat.succ_le_succ hl3
          · rw [wo_upd, wo_ne hD1f]
            exact se _ _ hws5
          · rw [wo_upd]
            exact hpw6
          · rw [pa_len hpw6]
            have h1 := List.length_filter_le (fun pt => keepsM pt g) ps
            have h2 := pa_len hPL3
            omega
          · intro pt hpt
            obtain ⟨h1, h2⟩ := List.mem_filter.mp hpt
            refine ⟨(hkp3 pt h1).1, fun f hf => ?_⟩
            rw [List.mem_append, List.mem_singleton] at hf
            rcases hf with h | rfl
            · exact (hkp3 pt h1).2 f h
            · exact h2
    · obtain ⟨b3, hp3, sg, pq, ws, ps, xs, fs, u, v0, rfl, hfh3, hd3, hok3, hl3, hpq3, hPL3, hwl, hne3, hkp3⟩ := pv
      obtain ⟨pt, hpt⟩ := List.exists_mem_of_ne_nil _ hne3
      exact ⟨.ref fh, rfl, q fh H3 xs fs hfh b3 hp3 hfh3 (dpAll_same wo_same hd3) hok3 (by omega) (poss_of (hkp3 pt hpt).1 (hkp3 pt hpt).2)⟩
end
end Cw
end
section
namespace Cw
open PySem PySem.Spec PyProof.Rows L2
/-- what covers refuses: the list's two items -/
def refM (z : List Str) (ds : List (List Str)) (v : V) : Str × V := match badAt ds with
  | some i => ("deed", .int (i : Nat))
  | none => match unk z ds with
    | some x => ("region", .str x)
    | none => ("number", v)
section
variable {P : Program} {w : World} {K : PySem.W.Frag} {mg : Str → Option Value} {base : Heap}
def spRefused (K : PySem.W.Frag) : Sp := fun vs H Q _ => ∃ (a r : Addr) (v : V) (z : List Str) (Ms : List Nat) (ds : List (List Str)) (o : Option Nat), vs = [.ref a, .ref r, v] ∧ Fcts K H a z Ms ∧ Rw K H r ds ∧ (∀ d ∈ ds, DeedOk d) ∧ ds.length ≤ 30 ∧ IxV K H ds.length v o ∧
  (badAt ds = none → unk z ds = none → o = none) ∧ ∀ (q : Addr) (H' : Hp), H q = none → Same H H' → H' q = some (.lst [.str (refM z ds v).1, (refM z ds v).2]) → Q (.ref q) H'
theorem ok_refused (D : Dfn K mg "_law_refused" s_law_refused ["_law_facts_here", "_law_row", "_law_index"]) (T : Txt K mg w) (c_covers : CalX P w K mg base 5 "covers" (spCovers K)) : C8.Cal P w K mg base 6 "_law_refused" (spRefused K) [] := by
  refine cal_of D sc_refused (fun vs H Q E h => ?_) (fun cdv A outer s H vs Q E f hr h => ?_)
  · obtain ⟨a, b, c, d, e, f, g, rfl, _⟩ := h
    rfl
  · obtain ⟨a, r, v, z, Ms, ds, o, rfl, hF, hR, hok, hl, hix, hno, q⟩ := h
    have nd := sc_refused.nd
    refine ⟨_, (pss_cons (ps_set (i := 3) nd rfl (.inl rfl) pe_non)
    (pss_cons (ps_try_keep (i := 4) (j := 3) (c := .ref (He.ga K "CoatError")) rfl rfl rfl nd rfl rfl rfl rfl ⟨rfl, by decide, .inl T.g_CoatError⟩ rfl rfl rfl (fun W pn xe tk pp => pss_one (ps_expr (pe_cx c_covers hr (by decide) rfl tk (pa_cons (pv 0) (pa_cons (pv 1) (pa_cons (pv 2) pa_nil)))))))
    (pss_cons (ps_if (pt_not (pt_val (pe_callB call_isK (by rfl) T.b_isinstance (by decide +kernel) (pa_cons (pv 3) (pa_cons (pe_bltn (v := .ty "ValueError") (u := .type "ValueError") rfl T.b_ValueError (by decide +kernel) rfl) pa_nil)))))
      (pss_one (ps_ret (pe_lst pa_nil)))
      pss_nil)
    (pss_cons (ps_if (pt_val (pe_callB call_isK (by rfl) T.b_isinstance (by decide +kernel) (pa_cons (pv 3) (pa_cons (pe_glob (v := .ref _) rfl T.g_InvalidNumber rfl) pa_nil))))
      (pss_one (ps_ret (pe_lst (pa_cons pe_str (pa_cons (pe_xk (pv 3)) pa_nil)))))
      pss_nil)
    (pss_cons (ps_if (pt_val (pe_callB call_isK (by rfl) T.b_isinstance (by decide +kernel) (pa_cons (pv 3) (pa_cons (pe_glob (v := .ref _) rfl T.g_InvalidDeed rfl) pa_nil))))
      (pss_one (ps_ret (pe_lst (pa_cons pe_str (pa_cons (pe_xk (pv 3)) pa_nil)))))
      pss_nil)
    (pss_one (ps_ret (pe_lst (pa_cons pe_str (pa_cons (pe_and (pe_callB call_isK (by rfl) T.b_isinstance (by decide +kernel) (pa_cons (pv 3) (pa_cons (pe_glob (v := .ref _) rfl T.g_UnknownRegion rfl) pa_nil))) (pe_one (pe_xk (pv 3)))) pa_nil)))))))))), ?_⟩
    refine ⟨.ref a, rfl, .ref r, rfl, v, rfl, a, r, v, z, Ms, ds, o, rfl, hF, hR, hok, hl, hix, fun i hi d H' sm hd => ?_, fun x hn hx d H' sm hd => ?_, fun hn hu ho d H' sm hd => ?_, fun k hn hu ho => ?_⟩
    · refine ⟨T.xm_InvalidDeed, fun b hb => ?_⟩
      have hbd : b ≠ d := fun e => by rw [e, upd_same] at hb; cases hb
      have h1 : (upd (upd H' d (.xd [("index", .int (i : Nat))])) b (kex b (.ref (He.ga K "InvalidDeed")) (some d))) b = some (kex b (.ref (He.ga K "InvalidDeed")) (some d)) := upd_same
      have h2 : (upd (upd H' d (.xd [("index", .int (i : Nat))])) b (kex b (.ref (He.ga K "InvalidDeed")) (some d))) d = some (.xd [("index", .int (i : Nat))]) := by rw [upd_ne hbd.symm, upd_same]
      have s3 := (sm.trans (same_upd (o := .xd [("index", .int (i : Nat))]) hd)).trans (same_upd (o := kex b (.ref (He.ga K "InvalidDeed")) (some d)) hb)
      generalize upd (upd H' d (.xd [("index", .int (i : Nat))])) b (kex b (.ref (He.ga K "InvalidDeed")) (some d)) = H3 at *
      refine ⟨.ref b, rfl, b, _, some d, .ty "ValueError", _, true, rfl, h1, .inr ⟨d, _, rfl, h2⟩, T.ex_InvalidDeed, .ty "ValueError", T.kv_InvalidDeed, true, rfl, iteF ?_⟩
      refine ⟨.ref b, rfl, b, _, some d, _, _, false, rfl, h1, .inr ⟨d, _, rfl, h2⟩, T.ex_InvalidDeed, .own _, T.ki_InvalidDeed_InvalidNumber, false, rfl, iteF ?_⟩
      refine ⟨.ref b, rfl, b, _, some d, _, _, true, rfl, h1, .inr ⟨d, _, rfl, h2⟩, T.ex_InvalidDeed, .own _, T.ki_InvalidDeed_InvalidDeed, true, rfl, iteT ?_⟩
      refine ⟨.ref b, rfl, b, _, d, _, _, rfl, h1, h2, T.xf_InvalidDeed, T.no_InvalidDeed, rfl, (show 2 ≤ sizeLine by decide), fun p hp => q p _ (Same.back s3 hp) (s3.trans (same_upd hp)) ?_⟩
      unfold refM
      rw [hi, upd_same]
    · refine ⟨T.xm_UnknownRegion, fun b hb => ?_⟩
      have hbd : b ≠ d := fun e => by rw [e, upd_same] at hb; cases hb
      have h1 : (upd (upd H' d (.xd [("region", .str x)])) b (kex b (.ref (He.ga K "UnknownRegion")) (some d))) b = some (kex b (.ref (He.ga K "UnknownRegion")) (some d)) := upd_same
      have h2 : (upd (upd H' d (.xd [("region", .str x)])) b (kex b (.ref (He.ga K "UnknownRegion")) (some d))) d = some (.xd [("region", .str x)]) := by rw [upd_ne hbd.symm, upd_same]
      have s3 := (sm.trans (same_upd (o := .xd [("region", .str x)]) hd)).trans (same_upd (o := kex b (.ref (He.ga K "UnknownRegion")) (some d)) hb)
      generalize upd (upd H' d (.xd [("region", .str x)])) b (kex b (.ref (He.ga K "UnknownRegion")) (some d)) = H3 at *
      refine ⟨.ref b, rfl, b, _, some d, .ty "ValueError", _, true, rfl, h1, .inr ⟨d, _, rfl, h2⟩, T.ex_UnknownRegion, .ty "ValueError", T.kv_UnknownRegion, true, rfl, iteF ?_⟩
      refine ⟨.ref b, rfl, b, _, some d, _, _, false, rfl, h1, .inr ⟨d, _, rfl, h2⟩, T.ex_UnknownRegion, .own _, T.ki_UnknownRegion_InvalidNumber, false, rfl, iteF ?_⟩
      refine ⟨.ref b, rfl, b, _, some d, _, _, false, rfl, h1, .inr ⟨d, _, rfl, h2⟩, T.ex_UnknownRegion, .own _, T.ki_UnknownRegion_InvalidDeed, false, rfl, iteF ?_⟩
      refine ⟨.ref b, rfl, b, _, some d, _, _, true, rfl, h1, .inr ⟨d, _, rfl, h2⟩, T.ex_UnknownRegion, .own _, T.ki_UnknownRegion_UnknownRegion, true, rfl, iteT ?_⟩
      refine ⟨.ref b, rfl, b, _, d, _, _, rfl, h1, h2, T.xf_UnknownRegion, T.no_UnknownRegion, rfl, (show 2 ≤ sizeLine by decide), fun p hp => q p _ (Same.back s3 hp) (s3.trans (same_upd hp)) ?_⟩
      unfold refM
      rw [hn, upd_same]
      simp only [hx]
    · refine ⟨T.xm_InvalidNumber, fun b hb => ?_⟩
      have hbd : b ≠ d := fun e => by rw [e, upd_same] at hb; cases hb
      have h1 : (upd (upd H' d (.xd [("number", v)])) b (kex b (.ref (He.ga K "InvalidNumber")) (some d))) b = some (kex b (.ref (He.ga K "InvalidNumber")) (some d)) := upd_same
      have h2 : (upd (upd H' d (.xd [("number", v)])) b (kex b (.ref (He.ga K "InvalidNumber")) (some d))) d = some (.xd [("number", v)]) := by rw [upd_ne hbd.symm, upd_same]
      have s3 := (sm.trans (same_upd (o := .xd [("number", v)]) hd)).trans (same_upd (o := kex b (.ref (He.ga K "InvalidNumber")) (some d)) hb)
      generalize upd (upd H' d (.xd [("number", v)])) b (kex b (.ref (He.ga K "InvalidNumber")) (some d)) = H3 at *
      refine ⟨.ref b, rfl, b, _, some d, .ty "ValueError", _, true, rfl, h1, .inr ⟨d, _, rfl, h2⟩, T.ex_InvalidNumber, .ty "ValueError", T.kv_InvalidNumber, true, rfl, iteF ?_⟩
      refine ⟨.ref b, rfl, b, _, some d, _, _, true, rfl, h1, .inr ⟨d, _, rfl, h2⟩, T.ex_InvalidNumber, .own _, T.ki_InvalidNumber_InvalidNumber, true, rfl, iteT ?_⟩
      refine ⟨.ref b, rfl, b, _, d, _, _, rfl, h1, h2, T.xf_InvalidNumber, T.no_InvalidNumber, rfl, (show 2 ≤ sizeLine by decide), fun p hp => q p _ (Same.back s3 hp) (s3.trans (same_upd hp)) ?_⟩
      unfold refM
      rw [hn, upd_same]
      simp only [hu]
    · rw [hno hn hu] at ho
      cases ho
end
end Cw
end
section
namespace Cw
open PySem PySem.Spec PyProof.Rows L2
theorem mk_same {H1 H2 : Hp} {x dx : Addr} {o : HO} (hx : H1 x = none) (hdx : H1 dx = none) (bu : But x (upd (upd H1 dx (.own x)) x o) H2) : Same H1 H2 := fun b u e => by
  have h1 := ne_of_none e hx
  have h2 := ne_of_none e hdx
  exact bu.at h1 (by rw [upd_ne h1, upd_ne h2]; exact e)
theorem mk_pre {H1 : Hp} {x dx : Addr} {o : HO} (hx : H1 x = none) (hdx : H1 dx = none) : Same H1 (upd (upd H1 dx (.own x)) x o) := fun b u e => by
  rw [upd_ne (ne_of_none e hx), upd_ne (ne_of_none e hdx)]
  exact e
theorem coat_deed {z d : List Str} (hv : ∀ x ∈ z, Valid x) (h : CoatOk z d) : DeedOk d := by
  rcases h with ⟨c, r, rfl, hc, hr⟩ | ⟨r, rfl, hr⟩
  · refine ⟨_, _, rfl, .inl ⟨.inl rfl, rfl⟩, fun x hx => ?_⟩
    simp only [List.mem_cons, List.not_mem_nil, or_false] at hx
    rcases hx with rfl | rfl
    · exact hc
    · exact hv _ hr
  · refine ⟨_, _, rfl, .inr ⟨rfl, rfl⟩, fun x hx => ?_⟩
    simp only [List.mem_cons, List.not_mem_nil, or_false] at hx
    subst hx
    exact hv _ hr
theorem coat_reg {z d : List Str} (h : CoatOk z d) : reg d ∈ z := by
  rcases h with ⟨c, r, rfl, hc, hr⟩ | ⟨r, rfl, hr⟩
  · exact hr
  · exact hr
theorem coat_ne {z d : List Str} (h : CoatOk z d) : d ≠ [] := by
  rcases h with ⟨c, r, rfl, hc, hr⟩ | ⟨r, rfl, hr⟩
  · exact List.cons_ne_nil _ _
  · exact List.cons_ne_nil _ _
theorem coat_bad {z d : List Str} (h : CoatOk z d) : bad d = false := by
  rcases h with ⟨c, r, rfl, hc, hr⟩ | ⟨r, rfl, hr⟩
  · rfl
  · rfl
theorem coat_sok {z d : List Str} (hv : ∀ x ∈ z, Valid x) (h : CoatOk z d) : ∀ x ∈ d, PyData.strOk x = true := by
  intro x hx
  rcases h with ⟨c, r, rfl, hc, hr⟩ | ⟨r, rfl, hr⟩
  · simp only [List.mem_cons, List.not_mem_nil, or_false] at hx
    rcases hx with rfl | rfl | rfl
    · decide +kernel
    · exact sok_valid hc
    · exact sok_valid (hv _ hr)
  · simp only [List.mem_cons, List.not_mem_nil, or_false] at hx
    rcases hx with rfl | rfl
    · decide +kernel
    · exact sok_valid (hv _ hr)
theorem badAt_none {ds : List (List Str)} (h : ∀ d ∈ ds, bad d = false) : badAt ds = none := by
  unfold badAt
  exact List.findIdx?_eq_none_iff.mpr h
theorem unk_none {z : List Str} {ds : List (List Str)} (h : ∀ d ∈ ds, reg d ∈ z) : unk z ds = none := by
  unfold unk
  rw [List.find?_eq_none]
  intro x hx
  obtain ⟨d, hd, rfl⟩ := List.mem_map.mp hx
  simp [h d hd]
theorem rg_in {z : List Str} {ds : List (List Str)} (h : ∀ d ∈ ds, reg d ∈ z) (j : Nat) (hj : j < ds.length) : rg ds j ∈ z := by
  rw [rg_get hj]
  exact h _ (List.getElem_mem hj)
section
variable {P : Program} {w : World} {K : PySem.W.Frag} {mg : Str → Option Value} {base : Heap}
def spTwice (K : PySem.W.Frag) : Sp := fun vs H Q _ => ∃ (pv : V) (na fa r : Addr) (z : List Str) (xs : List V) (fs : List Fc) (ds : List (List Str)), vs = [pv, .ref na, .ref fa, .ref r] ∧ SqL K H na (z.map V.str) ∧ z ≠ [] ∧ z.length ≤ 7 ∧ (∀ x ∈ z, Valid x) ∧ z.Nodup ∧
  SqL K H fa xs ∧ DpAll K H xs (fs.map fD) ∧ (∀ f ∈ fs, FOk z f) ∧ fs.length ≤ 12 ∧ possM z fs ≠ [] ∧ Rw K H r ds ∧ NoD K H r ∧ (∀ d ∈ ds, CoatOk z d) ∧ ds.length ≤ 10 ∧ ∀ H', Same H H' → Q (.bl true) H'
theorem ok_twice (D : Dfn K mg "_law_twice_right" s_law_twice_right ["_law_pile_here", "_law_names_here", "_law_facts_here", "_law_row"]) (T : Txt K mg w) (c_possible : C8.Cal P w K mg base 2 "_law_possible" (spPoss K) []) (c_Facts : C8.Mak P w K mg base 4 "Facts" (He.ga K "Facts") (spFInit K) [])
    (c_covers : CalX P w K mg base 5 "covers" (spCovers K)) (c_due : C8.Cal P w K mg base 1 "_law_due" (spDue K) []) (c_deeds : C8.Met P w K mg base 1 (He.ga K "Row") "deeds" (spDeeds K) []) (c_len : LenR P w K mg base) : C8.Cal P w K mg base 6 "_law_twice_right" (spTwice K) [] := by
  obtain ⟨fl_, pl_, Fl, bl⟩ := c_len.ex
  refine cal_of D sc_twice_right (fun vs H Q E h => ?_) (fun cdv A outer s H vs Q E f hr h => ?_)
  · obtain ⟨a, b, c, d, e, f, g, i, rfl, _⟩ := h
    rfl
  · obtain ⟨pp, na, fa, r, z, xs, fs, ds, rfl, hs, hz0, hz, hv, hnd, hx, hd, hok, hfl, hP, hR, hN, hco, hdl, q⟩ := h
    have nd := sc_twice_right.nd
    have hxl : xs.length = fs.length := by rw [dpAll_len hd, List.length_map]
    refine ⟨_, (pss_cons (ps_set (i := 4) nd rfl (.inl rfl) (pe_lst (pa_cons (pv 2) (pa_cons (pe_slice sl_list (pv 2) po_none (po_some (pe_op op_fdiv (pe_callB call_len_seq (by rfl) T.b_len boot_len (pa_cons (pv 2) pa_nil)) pe_int))) (pa_cons (pv 2) pa_nil)))))
    (pss_cons (ps_set (i := 5) nd rfl (.inl rfl) (pe_lst (pa_cons (pv 1) (pa_cons (pe_revL (pv 1)) (pa_cons (pv 1) pa_nil)))))
    (pss_cons (ps_for PassesOwn.never rfl (pi_range1 rfl T.b_range (pa_cons pe_int pa_nil)) (pg_name (i := 6) nd rfl (.inl rfl))
      (pss_cons (ps_set (i := 7) nd rfl (.inl rfl) (C8.pe_c c_possible hr (by decide) rfl (pa_cons (pe_ix ix_list (pv 5) (pv 6) (fun _ _ => rfl)) (pa_cons (pe_ix ix_list (pv 4) (pv 6) (fun _ _ => rfl)) pa_nil))))
      (pss_cons (ps_set (i := 8) nd rfl (.inl rfl) (C8.pe_mk c_Facts hr (by decide) rfl (pa_cons (pe_ix ix_list (pv 5) (pv 6) (fun _ _ => rfl)) (pa_cons (pe_ix ix_list (pv 4) (pv 6) (fun _ _ => rfl)) pa_nil))))
      (pss_one (ps_for PassesOwn.never rfl (pi_range1 rfl T.b_range (pa_cons (pe_callB (call_lenO T.meL.at_ T.meL.fn Fl bl (hr.mono (by decide)) (E := C8.E0) C8.pass0) (by rfl) T.b_len boot_len (pa_cons (pv 3) pa_nil)) pa_nil)) (pg_name (i := 9) nd rfl (.inl rfl))
        (pss_one (ps_if (pt_cmpR (op_neD (hu64 hr)) (pe_cx0 c_covers hr (by decide) rfl (pa_cons (pv 8) (pa_cons (pv 3) (pa_cons (pv 9) pa_nil)))) (C8.pe_c c_due hr (by decide) rfl (pa_cons (pv 7) (pa_cons (C8.pe_mt0 c_deeds hr (by decide) (pv 3)) (pa_cons (pv 9) pa_nil)))) (nomark _))
          (pss_one (ps_ret pe_bl))
          pss_nil)))))))
    (pss_one (ps_ret pe_bl))))), ?_⟩
    refine ⟨.ref fa, rfl, .ref fa, rfl, .ref fa, rfl, fa, xs, rfl, .inl hx, _, 2, rfl, rfl, ⟨by decide, by decide⟩, _, rfl, fa, xs, rfl, hx, fun sl hsl => ⟨.ref fa, rfl, (show 3 ≤ sizeLine by decide), fun sm hsm => ?_⟩⟩
    rw [show ((xs.length : Nat) : Int) / 2 = ((xs.length / 2 : Nat) : Int) by omega, cutV_to (by omega)] at hsm ⊢
    have s1 := same_upd (o := .lst (xs.take (xs.length / 2))) hsl
    have s2 := s1.trans (same_upd (o := .lst [.ref fa, .ref sl, .ref fa]) hsm)
    have hsl2 := same_upd (o := .lst [.ref fa, .ref sl, .ref fa]) hsm _ _ (upd_same (H := H) (a := sl) (o := .lst (xs.take (xs.length / 2))))
    have hsm2 : (upd (upd H sl (.lst (xs.take (xs.length / 2)))) sm (.lst [.ref fa, .ref sl, .ref fa])) sm = some (.lst [.ref fa, .ref sl, .ref fa]) := upd_same
    generalize upd (upd H sl (.lst (xs.take (xs.length / 2)))) sm (.lst [.ref fa, .ref sl, .ref fa]) = H2 at *
    refine ⟨.ref na, rfl, .ref na, rfl, na, _, rfl, sqL_same s2 hs, fun rv hrv => ⟨.ref na, rfl, (show 3 ≤ sizeLine by decide), fun od hod => ?_⟩⟩
    have s3 := (same_upd (o := .lst (z.map V.str).reverse) hrv).trans (same_upd (o := .lst [.ref na, .ref rv, .ref na]) hod)
    have hrv4 := same_upd (o := .lst [.ref na, .ref rv, .ref na]) hod _ _ (upd_same (H := H2) (a := rv) (o := .lst (z.map V.str).reverse))
    have hod4 : (upd (upd H2 rv (.lst (z.map V.str).reverse)) od (.lst [.ref na, .ref rv, .ref na])) od = some (.lst [.ref na, .ref rv, .ref na]) := upd_same
    have s4 := s2.trans s3
    have hsl4 := s3 _ _ hsl2
    have hsm4 := s3 _ _ hsm2
    generalize upd (upd H2 rv (.lst (z.map V.str).reverse)) od (.lst [.ref na, .ref rv, .ref na]) = H4 at *
    clear hsl hsm hrv hod s1
    have turn : ∀ i, i < 3 → ∃ (nb fb : Addr) (zt : List Str) (xt : List V) (ft : List Fc), ([V.ref na, .ref rv, .ref na] : List V)[i]? = some (.ref nb) ∧ ([V.ref fa, .ref sl, .ref fa] : List V)[i]? = some (.ref fb) ∧ SqL K H4 nb (zt.map V.str) ∧ zt.length = z.length ∧ (∀ x, x ∈ z ↔ x ∈ zt) ∧ zt.Nodup ∧
        SqL K H4 fb xt ∧ DpAll K H4 xt (ft.map fD) ∧ (∀ f ∈ ft, f ∈ fs) ∧ ft.length ≤ 12 := fun i hi => by
      match i, hi with
      | 0, _ => exact ⟨na, fa, z, xs, fs, rfl, rfl, sqL_same s4 hs, rfl, fun _ => Iff.rfl, hnd, sqL_same s4 hx, dpAll_same s4 hd, fun _ h => h, hfl⟩
      | 1, _ =>
        refine ⟨rv, sl, z.reverse, xs.take (xs.length / 2), fs.take (xs.length / 2), rfl, rfl, .inl (.inl (by rw [List.map_reverse]; exact hrv4)), List.length_reverse, fun x => List.mem_reverse.symm, List.pairwise_reverse.mpr (hnd.imp fun h => Ne.symm h), .inl (.inl hsl4), by rw [List.map_take]; exact dpAll_take _ (dpAll_same s4 hd), fun f hf => List.mem_of_mem_take hf, by rw [List.length_take]; omega⟩
      | 2, _ => exact ⟨na, fa, z, xs, fs, rfl, rfl, sqL_same s4 hs, rfl, fun _ => Iff.rfl, hnd, sqL_same s4 hx, dpAll_same s4 hd, fun _ h => h, hfl⟩
    refine ⟨3, rfl, by decide, by decide, ?_⟩
    refine for_it (walk_range (lo := 0) (n := 3)) (fun i σ H' => Same H4 H' ∧ ∃ a b c d, σ = [some pp, some (V.ref na), some (V.ref fa), some (V.ref r), some (V.ref sm), some (V.ref od), a, b, c, d]) ⟨Same.refl _, _, _, _, _, rfl⟩ (fun _ _ _ _ _ => trivial) (fun i v σ H5 H6 hi pv yv => ?_) (fun σ H5 pv => ?_)
    · obtain ⟨sm5, u0, u1, u2, u3, rfl⟩ := pv
      obtain ⟨rfl, hv5⟩ := yv
      replace hv5 : v = .int ((0 : Int) + (i : Nat)) := hv5
      rw [Int.zero_add] at hv5
      subst hv5
      obtain ⟨nb, fb, zt, xt, ft, e1, e2, hnb, hzl, hzm, hzn, hfb, hfd, hfs, hftl⟩ := turn i hi
      have hvt : ∀ x ∈ zt, Valid x := fun x hx => hv x ((hzm x).mpr hx)
      have hokt : ∀ f ∈ ft, FOk zt f := fun f hf => by
        have h := hok f (hfs f hf)
        exact ⟨h.k, (hzm _).mp h.a, (hzm _).mp h.b⟩
      have hPt : possM zt ft ≠ [] := poss_perm (fun f hf => hok f (hfs f hf)) hzm (poss_sub hfs hP)
      have hz1 : 0 < z.length := List.length_pos_iff.mpr hz0
      refine ⟨.ref od, rfl, .int (i : Nat), rfl, od, _, (i : Nat), .ref nb, rfl, rfl, .inl (.inl (sm5 _ _ hod4)), atI_nat e1, .ref sm, rfl, .int (i : Nat), rfl, sm, _, (i : Nat), .ref fb, rfl, rfl, .inl (.inl (sm5 _ _ hsm4)), atI_nat e2, nb, fb, zt, xt, ft, rfl, sqL_same sm5 hnb, by omega, hvt, sqL_same sm5 hfb, dpAll_same sm5 hfd, hokt, by omega, fun pq H7 ys hpq sm7 hpq7 hys hysl => ?_⟩
      have s7 := sm5.trans sm7
      refine ⟨.ref od, rfl, .int (i : Nat), rfl, od, _, (i : Nat), .ref nb, rfl, rfl, .inl (.inl (s7 _ _ hod4)), atI_nat e1, .ref sm, rfl, .int (i : Nat), rfl, sm, _, (i : Nat), .ref fb, rfl, rfl, .inl (.inl (s7 _ _ hsm4)), atI_nat e2, fun x dx hx0 hdx0 hne => ?_⟩
      have spre := s7.trans (mk_pre (o := .ins (He.ga K "Facts") dx []) hx0 hdx0)
      refine ⟨x, dx, nb, fb, zt, xt, ft, rfl, upd_same, sqL_same spre hnb, by omega, by omega, hvt, hzn, sqL_same spre hfb, dpAll_same spre hfd, by omega, hokt, no_contra hokt hPt, fun H8 Ms bu hF hM => ⟨rfl, ?_⟩⟩
      have sm8 := mk_same hx0 hdx0 bu
      have s8 := s4.trans (s7.trans sm8)
      obtain ⟨rdx, rfl_, rl, rxs, hr1, hr2, hr3, hr4⟩ := hR.same s8
      refine ⟨.ref r, rfl, r, rdx, rfl_, rfl, hr1, r, ds, rfl, hR.same s8, (ds.length : Nat), rfl, by omega, by omega, _, rfl, by omega, by omega, ?_⟩
      rw [Int.toNat_natCast]
      have hregt : ∀ d ∈ ds, reg d ∈ zt := fun d hd => (hzm _).mp (coat_reg (hco d hd))
      have hbn := badAt_none fun d hd => coat_bad (hco d hd)
      have hun := unk_none hregt
      refine for_it (walk_range (lo := 0) (n := ds.length)) (fun k σ H' => Same H8 H' ∧ ∃ d, σ = [some pp, some (V.ref na), some (V.ref fa), some (V.ref r), some (V.ref sm), some (V.ref od), some (V.int (i : Nat)), some (V.ref pq), some (V.ref x), d]) ⟨Same.refl _, _, rfl⟩ (fun _ _ _ _ _ => trivial) (fun k v σ H9 H10 hk pv yv => ?_) (fun σ H9 pv => ?_)
      · obtain ⟨sm9, w3, rfl⟩ := pv
        obtain ⟨rfl, hv9⟩ := yv
        replace hv9 : v = .int ((0 : Int) + (k : Nat)) := hv9
        rw [Int.zero_add] at hv9
        subst hv9
        have s9 := s8.trans sm9
        refine ⟨.ref x, rfl, .ref r, rfl, .int (k : Nat), rfl, x, r, _, zt, Ms, ds, some k, rfl, hF.same sm9, hR.same s9, fun d hd => coat_deed hv (hco d hd), by omega, .ok k hk, fun i h => ?_, fun x _ h => ?_, fun _ _ h => ?_, fun k' _ _ hkk u H11 hA => ?_⟩
        · rw [hbn] at h
          cases h
        · rw [hun] at h
          cases h
        · cases h
        have ek : k = k' := Option.some.inj hkk
        subst ek
        have sA := ans_same hA
        have s11 := s9.trans sA
        obtain ⟨ndx, nfl, hn1, hn2⟩ := hN.same s11
        refine ⟨.ref pq, rfl, .ref r, rfl, r, ndx, nfl, rfl, hn1, hn2, r, ds, rfl, hR.same s11, fun dl H12 dxs hdl sm12 hdl12 hdx => ?_⟩
        have s12 := (sm8.trans (sm9.trans sA)).trans sm12
        refine ⟨.int (k : Nat), rfl, pq, dl, k, ys, dxs, possM zt ft, ds, rfl, .inl (.inl (s12 _ _ hpq7)), pa_mono (fun v p h => PL.same _ _ _ _ s12 h) hys, by omega, fun p hp x hx => sok_valid (hvt x (allP_mem (mem_poss.mp hp).1 x hx)), .inl (.inl hdl12), hdx, fun d hd => coat_ne (hco d hd), hk, by omega, fun v2 H13 hA2 => ?_⟩
        have sB := ans_same hA2
        have ecd := cov_due hM hokt (by omega) hPt (rg_in hregt) hk
        refine ⟨oD (covM zt Ms ds k), oD (dueM (possM zt ft) ds k), dp_same (sm12.trans sB) (ans_dp hA), ans_dp hA2, sh_oD _, sh_oD _, false, ?_, iteF ⟨((sm9.trans sA).trans sm12).trans sB, _, rfl⟩⟩
        rw [ecd, eqv_oD, decide_eq_true rfl]
        rfl
      · obtain ⟨sm9, w3, rfl⟩ := pv
        exact ⟨(s7.trans sm8).trans sm9, _, _, _, _, rfl⟩
    · obtain ⟨sm5, u0, u1, u2, u3, rfl⟩ := pv
      exact q _ (s4.trans sm5)
end
end Cw
end
section
namespace Cw
open PySem PySem.Spec PyProof.Rows L2
theorem fil_mem {z : List Str} {q : Str → Bool} {x : Str} (h : x ∈ z) : x ∈ z.filter q ↔ q x = true := by
  rw [List.mem_filter]
  exact ⟨fun h => h.2, fun hh => ⟨h, hh⟩⟩
theorem fil_free {z : List Str} (q : Str → Bool) : z.filter q ∈ possM z [] := mem_poss.mpr ⟨allP_filter q z, fun _ h => absurd h List.not_mem_nil⟩
theorem lat_at {ds : List (List Str)} {j i : Nat} (h : i < (lat ds j).length) : (lat ds j)[i] = j + 1 + i := by
  simp [lat]
theorem lat_len (ds : List (List Str)) (j : Nat) : (lat ds j).length = ds.length - (j + 1) := by
  unfold lat
  exact List.length_range'
theorem take_lat {ds : List (List Str)} {j i x : Nat} (h : x ∈ (lat ds j).take i) : j < x ∧ x < ds.length ∧ x < j + 1 + i := by
  obtain ⟨n, hn, e⟩ := List.mem_take_iff_getElem.mp h
  have hl := lat_len ds j
  have := lat_at (show n < (lat ds j).length by omega)
  rw [this] at e
  omega
/-- a row of 25 over 24 free regions: the last one a wipe of the d-th's region -/
theorem many1 {z : List Str} {ds : List (List Str)} {d k : Nat} (hl : ds.length = 25) (hr : ∀ j, j < 25 → rg ds j ∈ z) (hinj : ∀ i j, i < 24 → j < 24 → rg ds i = rg ds j → i = j) (hd : d < 24) (h24 : rg ds 24 = rg ds d) (hk : k < 25) :
    dueM (possM z []) ds k = if k = d then some [24] else none := by
  have hh : hereM (possM z []) ds k ≠ [] := fun h => here_nil.mp h _ (fil_free fun x => decide (x = rg ds k)) ((fil_mem (hr k hk)).mpr (decide_eq_true rfl))
  have e1 : ∀ j, j < 25 → d1 (possM z []) ds k j = if rg ds j = rg ds k then some [j] else none := fun j hj => by
    unfold d1
    by_cases c : rg ds j = rg ds k
    · rw [if_pos c, if_pos]
      rw [d1_nil]
      intro p _ h
      rw [c]
      exact h
    · rw [if_neg c, if_neg]
      rw [d1_nil]
      intro h
      have := h _ (fil_free fun x => decide (x = rg ds k)) ((fil_mem (hr k hk)).mpr (decide_eq_true rfl))
      exact c (of_decide_eq_true ((fil_mem (hr j hj)).mp this))
  have e2 : ((lat ds k).findSome? fun j => (lat ds j).findSome? (d2 (possM z []) ds j)) = none := by
    rw [List.findSome?_eq_none_iff]
    intro j hj
    rw [List.findSome?_eq_none_iff]
    intro i hi
    obtain ⟨_, h1⟩ := mem_lat.mp hj
    obtain ⟨_, h2⟩ := mem_lat.mp hi
    unfold d2
    rw [if_neg]
    rw [d2_nil]
    intro h
    refine h _ (fil_free fun _ => false) ⟨fun h => ?_, fun h => ?_⟩
    · have := (fil_mem (hr j (by omega))).mp h
      cases this
    · have := (fil_mem (hr i (by omega))).mp h
      cases this
  unfold dueM
  rw [if_neg hh, e2]
  by_cases c : k = d
  · subst c
    rw [if_pos rfl]
    have hll := lat_len ds k
    have hi : 23 - k < (lat ds k).length := by omega
    have ha := lat_at hi
    rw [fS_hit hi (b := [24]) ?_ ?_]
    · rfl
    · rw [List.findSome?_eq_none_iff]
      intro j hj
      have h3 := take_lat hj
      rw [e1 j (by omega), if_neg]
      intro h
      have := hinj j k (by omega) hd h
      omega
    · rw [ha, show k + 1 + (23 - k) = 24 by omega, e1 24 (by omega), if_pos h24]
  · rw [if_neg c]
    have : (lat ds k).findSome? (d1 (possM z []) ds k) = none := by
      rw [List.findSome?_eq_none_iff]
      intro j hj
      obtain ⟨h1, h2⟩ := mem_lat.mp hj
      rw [e1 j (by omega), if_neg]
      intro h
      by_cases hj24 : j = 24
      · subst hj24
        rw [h24] at h
        exact c (hinj d k hd (by omega) h).symm
      · have := hinj j k (by omega) (by omega) h
        omega
    rw [this]
    rfl
section
variable {z : List Str} {ds : List (List Str)} (hl : ds.length = 24) (hr : ∀ j, j < 24 → rg ds j ∈ z) (hinj : ∀ i j, i < 24 → j < 24 → rg ds i = rg ds j → i = j)
include hl hr hinj
omit hl hinj in
theorem fil_cov (q : Str → Bool) (h : q (rg ds 22) = true ∨ q (rg ds 23) = true) : z.filter q ∈ possM z [("cover", rg ds 22, rg ds 23)] := by
  refine mem_poss.mpr ⟨allP_filter q z, fun f hf => ?_⟩
  rw [List.mem_singleton] at hf
  subst hf
  have : keepsM (z.filter q) ("cover", rg ds 22, rg ds 23) = (decide (rg ds 22 ∈ z.filter q) || decide (rg ds 23 ∈ z.filter q)) := rfl
  rw [this, Bool.or_eq_true, decide_eq_true_iff, decide_eq_true_iff, fil_mem (hr 22 (by decide)), fil_mem (hr 23 (by decide))]
  exact h
theorem many2a : dueM (possM z [("cover", rg ds 22, rg ds 23)]) ds 0 = some [22, 23] := by
  have mm : ∀ {j i : Nat}, j < 24 → i < 24 → (rg ds j ∈ z.filter (fun x => decide (x = rg ds i)) ↔ j = i) := fun {j i} hj hi => by
    rw [fil_mem (hr j hj), decide_eq_true_iff]
    exact ⟨hinj j i hj hi, fun h => by rw [h]⟩
  have m2 : ∀ {j a b : Nat}, j < 24 → a < 24 → b < 24 → (rg ds j ∈ z.filter (fun x => decide (x = rg ds a) || decide (x = rg ds b)) ↔ j = a ∨ j = b) := fun {j a b} hj ha hb => by
    rw [fil_mem (hr j hj), Bool.or_eq_true, decide_eq_true_iff, decide_eq_true_iff]
    constructor
    · rintro (h | h)
      · exact .inl (hinj _ _ hj ha h)
      · exact .inr (hinj _ _ hj hb h)
    · rintro (h | h)
      · exact .inl (by rw [h])
      · exact .inr (by rw [h])
  have hh : hereM (possM z [("cover", rg ds 22, rg ds 23)]) ds 0 ≠ [] := fun h => here_nil.mp h _ (fil_cov hr (fun x => decide (x = rg ds 0) || decide (x = rg ds 22)) (.inl (by simp))) ((m2 (by decide) (by decide) (by decide)).mpr (.inl rfl))
  have e1 : (lat ds 0).findSome? (d1 (possM z [("cover", rg ds 22, rg ds 23)]) ds 0) = none := by
    rw [List.findSome?_eq_none_iff]
    intro j hj
    obtain ⟨h1, h2⟩ := mem_lat.mp hj
    unfold d1
    rw [if_neg]
    rw [d1_nil]
    intro h
    by_cases c : j = 22
    · have := h _ (fil_cov hr (fun x => decide (x = rg ds 0) || decide (x = rg ds 23)) (.inr (by simp))) ((m2 (by decide) (by decide) (by decide)).mpr (.inl rfl))
      have := (m2 (by omega) (by decide) (by decide)).mp this
      omega
    · have := h _ (fil_cov hr (fun x => decide (x = rg ds 0) || decide (x = rg ds 22)) (.inl (by simp))) ((m2 (by decide) (by decide) (by decide)).mpr (.inl rfl))
      have := (m2 (by omega) (by decide) (by decide)).mp this
      omega
  have e2 : ∀ j i, j < i → i < 24 → d2 (possM z [("cover", rg ds 22, rg ds 23)]) ds j i = if j = 22 ∧ i = 23 then some [j, i] else none := fun j i hji hi => by
    unfold d2
    by_cases c : j = 22 ∧ i = 23
    · rw [if_pos c, if_pos]
      rw [d2_nil]
      intro p hp hn
      obtain ⟨rfl, rfl⟩ := c
      have := (mem_poss.mp hp).2 _ List.mem_cons_self
      have e : keepsM p ("cover", rg ds 22, rg ds 23) = (decide (rg ds 22 ∈ p) || decide (rg ds 23 ∈ p)) := rfl
      rw [e, Bool.or_eq_true, decide_eq_true_iff, decide_eq_true_iff] at this
      rcases this with h | h
      · exact hn.1 h
      · exact hn.2 h
    · rw [if_neg c, if_neg]
      rw [d2_nil]
      intro h
      have h1 := h _ (fil_cov hr (fun x => decide (x = rg ds 22)) (.inl (by simp)))
      have h2 := h _ (fil_cov hr (fun x => decide (x = rg ds 23)) (.inr (by simp)))
      rw [mm (by omega) (by decide), mm (by omega) (by decide)] at h1 h2
      omega
  unfold dueM
  rw [if_neg hh, e1]
  show (lat ds 0).findSome? _ = _
  have hll := lat_len ds 0
  have hi : 21 < (lat ds 0).length := by omega
  refine fS_hit hi ?_ ?_
  · rw [List.findSome?_eq_none_iff]
    intro j hj
    have h3 := take_lat hj
    rw [List.findSome?_eq_none_iff]
    intro i hi
    obtain ⟨h4, h5⟩ := mem_lat.mp hi
    rw [e2 j i h4 (by omega), if_neg (by omega)]
  · have ha := lat_at hi
    rw [ha]
    have hl2 := lat_len ds (0 + 1 + 21)
    have hi0 : 0 < (lat ds (0 + 1 + 21)).length := by omega
    refine fS_hit hi0 rfl ?_
    rw [lat_at hi0, e2 _ _ (by omega) (by omega), if_pos ⟨by omega, by omega⟩]
theorem many2b : dueM (possM z [("cover", rg ds 22, rg ds 23)]) ds 22 = none := by
  have mm : ∀ {j i : Nat}, j < 24 → i < 24 → (rg ds j ∈ z.filter (fun x => decide (x = rg ds i)) ↔ j = i) := fun {j i} hj hi => by
    rw [fil_mem (hr j hj), decide_eq_true_iff]
    exact ⟨hinj j i hj hi, fun h => by rw [h]⟩
  have hp := fil_cov hr (fun x => decide (x = rg ds 22)) (.inl (by simp))
  have hh : hereM (possM z [("cover", rg ds 22, rg ds 23)]) ds 22 ≠ [] := fun h => here_nil.mp h _ hp ((mm (by decide) (by decide)).mpr rfl)
  unfold dueM
  rw [if_neg hh, Option.or_eq_none_iff]
  constructor
  · rw [List.findSome?_eq_none_iff]
    intro j hj
    obtain ⟨h1, h2⟩ := mem_lat.mp hj
    unfold d1
    rw [if_neg]
    rw [d1_nil]
    intro h
    have := h _ hp ((mm (by decide) (by decide)).mpr rfl)
    rw [mm (by omega) (by decide)] at this
    omega
  · rw [List.findSome?_eq_none_iff]
    intro j hj
    obtain ⟨h1, h2⟩ := mem_lat.mp hj
    rw [List.findSome?_eq_none_iff]
    intro i hi
    obtain ⟨h3, h4⟩ := mem_lat.mp hi
    omega
end
end Cw
end
section
namespace Cw
open PySem PySem.Spec PyProof.Rows L2
def nm (k : Nat) : Str := Sx [97 + k]
def z24 : List Str := (List.range 24).map nm
def putD (k : Nat) : List Str := [("put" : Str), "red", nm k]
theorem nm_inj {a b : Nat} (h : nm a = nm b) : a = b := by
  have := (List.cons.inj (Sx_inj h)).1
  omega
theorem nm_in {k : Nat} (h : k < 24) : nm k ∈ z24 := List.mem_map.mpr ⟨k, List.mem_range.mpr h, rfl⟩
theorem z24_valid : ∀ x ∈ z24, Valid x := fun x hx => by
  obtain ⟨k, hk, rfl⟩ := List.mem_map.mp hx
  have := List.mem_range.mp hk
  refine ⟨Nat.le_refl 1, (by decide : 1 ≤ 12), fun c hc => ?_⟩
  have : c = 97 + k := by simpa [nm] using hc
  omega
theorem z24_nd : z24.Nodup := by
  unfold z24 List.Nodup
  rw [List.pairwise_map]
  exact (List.pairwise_lt_range (n := 24)).imp fun h e => by
    have := nm_inj e
    omega
theorem z24_len : z24.length = 24 := by simp [z24]
theorem sgn24 : ∀ i : Fin 24, (PySem.Str.ofString "abcdefghijklmnopqrstuvwx").cps[i.val]? = some (97 + i.val) := by decide +kernel
theorem len24 : (PySem.Str.ofString "abcdefghijklmnopqrstuvwx").cps.size = 24 := by decide +kernel
theorem putD_coat {k : Nat} (h : k < 24) : CoatOk z24 (putD k) := .inl ⟨"red", nm k, rfl, vld_lit _ (by decide +kernel), nm_in h⟩
theorem sh_eT {l : List Str} (h : ∀ x ∈ l, PyData.strOk x = true) : SeqAt.shaped (eT l) = true := by
  unfold SeqAt.shaped
  rw [Bool.and_eq_true, decide_eq_true_iff]
  exact ⟨cl_eT h, Nat.le_trans dp_eTd (by decide)⟩
theorem eqv_eT (l m : List Str) : PyData.eqv (eT l) (eT m) = decide (l = m) := by
  unfold eT PyData.eqv
  refine eqa_map (fun a b => ?_) l m
  unfold PyData.eqv
  rw [Bool.eq_iff_iff, beq_iff_eq, decide_eq_true_iff]
theorem rg_app {l : List Nat} {tl : List (List Str)} {j : Nat} (h : j < l.length) : rg (l.map putD ++ tl) j = nm l[j] := by
  unfold rg
  rw [List.getD_eq_getElem?_getD, List.getElem?_append_left (by rw [List.length_map]; exact h), List.getElem?_map, List.getElem?_eq_getElem h]
  rfl
theorem rg_end {l : List Nat} {d : List Str} : rg (l.map putD ++ [d]) l.length = reg d := by
  unfold rg
  rw [List.getD_eq_getElem?_getD, List.getElem?_append_right (by rw [List.length_map]; exact Nat.le_refl _), List.length_map, Nat.sub_self]
  rfl
section
variable {P : Program} {w : World} {K : PySem.W.Frag} {mg : Str → Option Value} {base : Heap}
def spMany : Sp := fun vs H Q _ => ∃ (p : Addr), vs = [.ref p] ∧ Pile H p ∧ ∀ H', But p H H' → Q (.bl true) H'
theorem ok_many (D : Dfn K mg "_law_many_right" s_law_many_right ["_law_pile_here"]) (T : Txt K mg w) (c_take : C8.Cal P w K mg base 2 "_law_take" spTake []) (c_order : C8.Cal P w K mg base 3 "_law_order" spOrder []) (c_Facts : C8.Mak P w K mg base 4 "Facts" (He.ga K "Facts") (spFInit K) [])
    (c_Row : C8.Mak P w K mg base 3 "Row" (He.ga K "Row") (spRInit K) []) (c_covers : CalX P w K mg base 5 "covers" (spCovers K)) : C8.Cal P w K mg base 6 "_law_many_right" spMany [] := by
  refine cal_of D sc_many_right (fun vs H Q E h => ?_) (fun cdv A outer s H vs Q E f hr h => ?_)
  · obtain ⟨a, rfl, _⟩ := h
    rfl
  · obtain ⟨p, rfl, hp, q⟩ := h
    have nd := sc_many_right.nd
    refine ⟨_, (pss_cons (ps_set (i := 1) nd rfl (.inr rfl) (pe_lc (own := [("_law_letter", 8)]) rfl nd (pi_str pe_str) (blkOk_by (by kernel_rfl)) (fun _ _ _ _ _ => (pg_name (i := 8) nd rfl (by first | exact Or.inl rfl | exact Or.inr rfl))) (fun _ _ _ _ _ => pts_nil) (fun _ _ _ _ _ => (pv 8))))
    (pss_cons (ps_setLc (i := 2) (own := [("_law_k", 6)]) rfl nd rfl rfl (sw_true rfl rfl rfl (by decide +kernel)) (pi_list (C8.pe_c c_order hr (by decide) rfl (pa_cons (pv 0) (pa_cons pe_int pa_nil)))) (blkOk_by (by kernel_rfl)) (fun _ _ _ _ _ => (pg_name (i := 6) nd rfl (by first | exact Or.inl rfl | exact Or.inr rfl))) (fun _ _ _ _ _ => pts_nil) (fun _ _ _ _ _ => (pe_tup (pa_cons pe_str (pa_cons pe_str (pa_cons (pe_ix (ix_listK (K := K) rfl) (pv 1) (pv 6) (fun _ _ => rfl)) pa_nil))))))
    (pss_cons (ps_par (i := 3) (j := 4) (by rfl) nd rfl rfl (by decide) rfl rfl (pa_cons (C8.pe_mk c_Facts hr (by decide) rfl (pa_cons (pv 1) (pa_cons (pe_lst pa_nil) pa_nil))) (pa_cons (pe_ix ix_list (pv 2) (C8.pe_c c_take hr (by decide) rfl (pa_cons (pv 0) (pa_cons pe_int pa_nil))) (fun _ _ => rfl)) pa_nil)) (by rfl))
    (pss_cons (ps_set (i := 5) nd rfl (.inl rfl) (C8.pe_mk c_Row hr (by decide) rfl (pa_cons (pe_op op_cat (pv 2) (pe_lst (pa_cons (pe_tup (pa_cons pe_str (pa_cons (pe_ix ix_tup (pv 4) pe_int (fun _ _ => rfl)) pa_nil))) pa_nil))) pa_nil)))
    (pss_cons (ps_for PassesOwn.never rfl (pi_range1 rfl T.b_range (pa_cons pe_int pa_nil)) (pg_name (i := 6) nd rfl (.inl rfl))
      (pss_one (ps_if (pt_cmpR (op_neD (hu64 hr)) (pe_cx0 c_covers hr (by decide) rfl (pa_cons (pv 3) (pa_cons (pv 5) (pa_cons (pv 6) pa_nil)))) (pe_ix ix_list (pe_lst (pa_cons pe_non (pa_cons (pe_lst (pa_cons pe_int pa_nil)) pa_nil))) (pe_callTy call_int1 (by rfl) T.b_int (by decide +kernel) (pa_cons (pe_and (pe_cmpR op_lt (pv 6) pe_int (nomark _)) (pe_one (pe_cmpR (op_eqD (hu64 hr)) (pe_ix ix_list (pv 2) (pe_callB (call_min2 rfl) (by rfl) T.b_min (by decide +kernel) (pa_cons (pv 6) (pa_cons pe_int pa_nil))) (fun _ _ => rfl)) (pv 4) (nomark _)))) pa_nil)) (fun _ _ => rfl)) (nomark _))
        (pss_one (ps_ret pe_bl))
        pss_nil)))
    (pss_cons (ps_set (i := 7) nd rfl (.inl rfl) (C8.pe_mk c_Facts hr (by decide) rfl (pa_cons (pv 1) (pa_cons (pe_lst (pa_cons (pe_tup (pa_cons pe_str (pa_cons (pe_ix ix_tup (pe_ix ix_list (pv 2) pe_int (fun _ _ => rfl)) pe_int (fun _ _ => rfl)) (pa_cons (pe_ix ix_tup (pe_ix ix_list (pv 2) pe_int (fun _ _ => rfl)) pe_int (fun _ _ => rfl)) pa_nil)))) pa_nil)) pa_nil))))
    (pss_one (ps_ret (pe_and (pe_cmpR (op_eqD (hu64 hr)) (pe_cx0 c_covers hr (by decide) rfl (pa_cons (pv 7) (pa_cons (C8.pe_mk c_Row hr (by decide) rfl (pa_cons (pv 2) pa_nil)) (pa_cons pe_int pa_nil)))) (pe_lst (pa_cons pe_int (pa_cons pe_int pa_nil))) (nomark _)) (pe_one (pe_cmpR op_isN (pe_cx0 c_covers hr (by decide) rfl (pa_cons (pv 7) (pa_cons (C8.pe_mk c_Row hr (by decide) rfl (pa_cons (pv 2) pa_nil)) (pa_cons pe_int pa_nil)))) pe_non (nomark _)))))))))))), ?_⟩
    -- names
    refine ⟨_, rfl, fun D1 hD1 => ?_⟩
    have hD1p := hp.ne hD1
    refine lc_it walk_str (fun i H' => Same H H' ∧ H' D1 = some (.lst (((List.range i).map nm).map V.str)) ∧ i ≤ 24) ⟨same_upd hD1, upd_same, by decide⟩ (fun _ _ _ _ => trivial) (fun i v H1 H2 hi pv yv => ?_) (fun H1 pv => ?_)
    · obtain ⟨sm, hls, hi24⟩ := pv
      obtain ⟨rfl, c, hc, rfl⟩ := yv
      rw [len24] at hi
      have ec : c = 97 + i := Option.some.inj (hc.symm.trans (sgn24 ⟨i, hi⟩))
      subst ec
      refine ⟨rfl, _, rfl, _, hls, ?_, same_mut sm hD1, ?_, by omega⟩
      · rw [List.length_map, List.length_map, List.length_range, sizeLine_eq]
        omega
      · rw [upd_same, List.range_succ, List.map_append, List.map_append]
        rfl
    obtain ⟨sm1, hz, _⟩ := pv
    rw [len24] at hz
    replace hz : H1 D1 = some (.lst (z24.map V.str)) := hz
    have hp1 := hp.same sm1
    -- the line
    refine ⟨.ref p, rfl, p, 24, rfl, hp1, by decide, fun oq H2 l hoq bu2 hp2 hperm hol => ⟨oq, rfl, ⟨_, .inl (.inl hol)⟩, fun D2 hD2 => ?_⟩⟩
    have hlen : l.length = 24 := by rw [hperm.length_eq, List.length_range]
    have hl24 : ∀ k ∈ l, k < 24 := fun k hk => List.mem_range.mp (hperm.mem_iff.mp hk)
    have hlnd : l.Nodup := hperm.nodup_iff.mpr List.nodup_range
    have hz2 := bu2.at hD1p hz
    have b2 := (But.of_same (p := p) sm1).trans bu2
    have hD2p := hp2.ne hD2
    refine lc_it (walk_list (xs := l.map fun (x : Nat) => V.int (x : Int))) (fun i H' => Same H2 H' ∧ ∃ ws, H' D2 = some (.lst ws) ∧ DpAll K H' ws (((l.take i).map putD).map eT)) ⟨same_upd hD2, [], upd_same, .nil⟩ (fun i H' _ p => .inl (.inl (p.1 _ _ hol))) (fun i v H3 H4 hi pv yv => ?_) (fun H3 pv => ?_)
    · obtain ⟨sm3, ws, hws, hwd⟩ := pv
      obtain ⟨rfl, hv⟩ := yv
      have hi' : i < l.length := by rw [List.length_map] at hi; exact hi
      rw [List.getElem?_map, List.getElem?_eq_getElem hi'] at hv
      have ev := (Option.some.inj hv).symm
      subst ev
      have hk24 := hl24 _ (List.getElem_mem hi')
      refine ⟨rfl, .ref D1, rfl, .int (l[i] : Nat), rfl, D1, _, (l[i] : Nat), .str (nm l[i]), rfl, rfl, .inl (.inl (sm3 _ _ hz2)), atI_nat ?_, (show 3 ≤ sizeLine by decide), fun t ht => ?_⟩
      · unfold z24
        rw [List.getElem?_map, List.getElem?_map, List.getElem?_range hk24]
        rfl
      have st := same_upd (o := .tup [.str "put", .str "red", .str (nm l[i])]) ht
      refine ⟨ws, st _ _ hws, ?_, same_mut (sm3.trans st) hD2, ws ++ [.ref t], upd_same, ?_⟩
      · rw [dpAll_len hwd, List.length_map, List.length_map, List.length_take, sizeLine_eq]
        omega
      · have fx : Fx (upd H4 t (.tup [.str "put", .str "red", .str (nm l[i])])) (upd (upd H4 t (.tup [.str "put", .str "red", .str (nm l[i])])) D2 (.lst (ws ++ [.ref t]))) := .lst (st _ _ hws)
        rw [← List.take_append_getElem hi', List.map_append, List.map_append]
        exact dpAll_snoc (dpAll_fx fx (eTs _) (dpAll_same st hwd)) (dp_of_eT (l := putD l[i]) (sqT_fx fx (.inl (.inl upd_same))))
    obtain ⟨sm3, ws, hws, hwd⟩ := pv
    rw [List.length_map, List.take_length] at hwd
    have hz3 := sm3 _ _ hz2
    have hp3 := hp2.same sm3
    have b3 := b2.trans (But.of_same sm3)
    have hwl : ws.length = 24 := by rw [dpAll_len hwd, List.length_map, List.length_map, hlen]
    clear hol hoq hD2 sm3
    -- Facts(names, [])
    refine ⟨.ref D1, rfl, (show 0 ≤ sizeLine by decide), fun e he => fun x dx hx hdx hne => ?_⟩
    have se := same_upd (o := .lst []) he
    have spre := se.trans (mk_pre (o := .ins (He.ga K "Facts") dx []) hx hdx)
    have he' := mk_pre (o := .ins (He.ga K "Facts") dx []) hx hdx _ _ (upd_same (H := H3) (a := e) (o := .lst []))
    refine ⟨x, dx, D1, e, z24, [], [], rfl, upd_same, .inl (.inl (spre _ _ hz3)), by rw [z24_len]; decide, by rw [z24_len]; exact Nat.le_refl _, z24_valid, z24_nd, .inl (.inl he'), .nil, by decide, (fun _ h => absurd h List.not_mem_nil), no_contra (fun _ h => absurd h List.not_mem_nil) (List.ne_nil_of_mem (fil_free fun _ => false)), fun H4 Ms bu hF hM => ⟨rfl, ?_⟩⟩
    have s4 := se.trans (mk_same hx hdx bu)
    have hp4 := hp3.same s4
    -- one
    refine ⟨.ref D2, rfl, .ref p, rfl, p, 24, rfl, hp4, by decide, by decide, fun d H5 hd bu5 hp5 => ?_⟩
    have hws5 := bu5.at hD2p (s4 _ _ hws)
    have hwd5 := dpAll_fx (fx_but bu5 hp4) (eTs _) (dpAll_same s4 hwd)
    have hz5 := bu5.at hD1p (s4 _ _ hz3)
    have hxp : x ≠ p := hp3.ne (Same.back se hx)
    have hF5 : Fcts K H5 x z24 Ms := by
      obtain ⟨dx, fl, pl, ms, h1, h2, ⟨kvs, h3, h3b⟩, h4, h5, h6, h7⟩ := hF
      have hplp : pl ≠ p := fun e => by
        obtain ⟨g, c, k, hh⟩ := hp4
        rw [e, hh] at h3
        cases h3
      have hmsp : ms ≠ p ∨ SqL K H5 ms (Ms.map fun (m : Nat) => V.int (m : Int)) := by
        by_cases e : ms = p
        · refine .inr ?_
          rcases h5 with h5 | h5
          · exfalso
            obtain ⟨g, c, k, hh⟩ := hp4
            subst e
            rcases h5 with h5 | ⟨o, h5⟩
            · rw [hh] at h5
              have := congrArg List.length (HO.lst.inj (Option.some.inj h5))
              rw [List.length_map, h6, z24_len] at this
              simp at this
            · rw [hh] at h5
              cases h5
          · exact .inr h5
        · exact .inl e
      refine ⟨dx, fl, pl, ms, bu5.at hxp h1, h2, ⟨kvs, bu5.at hplp h3, h3b⟩, h4, ?_, h6, h7⟩
      rcases hmsp with h | h
      · exact sqL_but bu5 h h5
      · exact h
    have b5 := (b3.trans (But.of_same s4)).trans bu5
    have hget : ∀ j (hj : j < 24), ∃ t, ws[j]? = some (.ref t) ∧ SqT K H5 t ((putD (l[j]'(by omega))).map V.str) := fun j hj => by
      have hj' : j < (l.map putD).length := by rw [List.length_map, hlen]; exact hj
      obtain ⟨t, h1, h2⟩ := line_to hwd5 hj'
      rw [List.getElem_map] at h2
      exact ⟨t, h1, h2⟩
    obtain ⟨t1, ht1, ht1s⟩ := hget d hd
    refine ⟨D2, ws, (d : Nat), .ref t1, rfl, rfl, .inl (.inl hws5), atI_nat ht1, _, _, rfl, ?_⟩
    -- the row
    have hld : l[d]'(by omega) < 24 := hl24 _ (List.getElem_mem _)
    generalize hone : l[d]'(by omega) = od at *
    refine ⟨.ref D2, rfl, .ref t1, rfl, t1, _, 2, .str (nm od), rfl, rfl, ht1s, rfl, (show 2 ≤ sizeLine by decide), fun tw htw => ⟨(show 1 ≤ sizeLine by decide), fun lw hlw => ?_⟩⟩
    have sw := (same_upd (o := .tup [.str "wipe", .str (nm od)]) htw).trans (same_upd (o := .lst [.ref tw]) hlw)
    have htw2 : (upd (upd H5 tw (.tup [.str "wipe", .str (nm od)])) lw (.lst [.ref tw])) tw = some (.tup ([("wipe" : Str), nm od].map V.str)) := same_upd hlw _ _ upd_same
    have hlw2 : (upd (upd H5 tw (.tup [.str "wipe", .str (nm od)])) lw (.lst [.ref tw])) lw = some (.lst [.ref tw]) := upd_same
    generalize upd (upd H5 tw (.tup [.str "wipe", .str (nm od)])) lw (.lst [.ref tw]) = H6 at *
    refine ⟨D2, lw, ws, [.ref tw], rfl, rfl, sw _ _ hws5, hlw2, by rw [hwl, sizeLine_eq]; show 24 + 1 ≤ _; decide, fun rl hrl => ?_⟩
    have s7 := sw.trans (same_upd (o := .lst (ws ++ [.ref tw])) hrl)
    intro y dy hy hdy hney
    have sy := s7.trans (mk_pre (o := .ins (He.ga K "Row") dy []) hy hdy)
    have hrl2 := mk_pre (o := .ins (He.ga K "Row") dy []) hy hdy _ _ (upd_same (H := H6) (a := rl) (o := .lst (ws ++ [.ref tw])))
    have hco : ∀ g ∈ l.map putD ++ [[("wipe" : Str), nm od]], CoatOk z24 g := fun g hg => by
      rw [List.mem_append, List.mem_singleton] at hg
      rcases hg with h | rfl
      · obtain ⟨k, hk, rfl⟩ := List.mem_map.mp h
        exact putD_coat (hl24 k hk)
      · exact .inr ⟨_, rfl, nm_in hld⟩
    have hds25 : (l.map putD ++ [[("wipe" : Str), nm od]]).length = 25 := by rw [List.length_append, List.length_map, hlen]; rfl
    have hw6 : DpAll K H6 [.ref tw] ([[("wipe" : Str), nm od]].map eT) := .cons (dp_of_eT (.inl (.inl htw2))) .nil
    have sq6 := (same_upd (o := .lst (ws ++ [.ref tw])) hrl).trans (mk_pre (o := .ins (He.ga K "Row") dy []) hy hdy)
    refine ⟨y, dy, rl, ws ++ [.ref tw], l.map putD ++ [[("wipe" : Str), nm od]], rfl, upd_same, .inl (.inl hrl2), ?_, by rw [hds25]; decide, fun g hg => coat_deed z24_valid (hco g hg), fun H8 bu8 hR hN => ⟨rfl, ?_⟩⟩
    · rw [List.map_append]
      exact dpAll_append (dpAll_same sy hwd5) (dpAll_same sq6 hw6)
    have s8 := s7.trans (mk_same hy hdy bu8)
    have hF8 := hF5.same s8
    have hokn : ∀ f ∈ ([] : List Fc), FOk z24 f := fun _ h => absurd h List.not_mem_nil
    have hP0 : possM z24 [] ≠ [] := List.ne_nil_of_mem (fil_free fun _ => false)
    have hreg : ∀ g ∈ l.map putD ++ [[("wipe" : Str), nm od]], reg g ∈ z24 := fun g hg => coat_reg (hco g hg)
    have hbn := badAt_none fun g hg => coat_bad (hco g hg)
    have hun := unk_none hreg
    have hrgj : ∀ j (hj : j < 24), rg (l.map putD ++ [[("wipe" : Str), nm od]]) j = nm (l[j]'(by omega)) := fun j hj => rg_app (by omega)
    have hinj : ∀ i j, i < 24 → j < 24 → rg (l.map putD ++ [[("wipe" : Str), nm od]]) i = rg (l.map putD ++ [[("wipe" : Str), nm od]]) j → i = j := fun i j hi hj h => by
      rw [hrgj i hi, hrgj j hj] at h
      have := nm_inj h
      rcases Nat.lt_trichotomy i j with q | q | q
      · exact absurd this ((List.pairwise_iff_getElem.mp hlnd) i j (by omega) (by omega) q)
      · exact q
      · exact absurd this.symm ((List.pairwise_iff_getElem.mp hlnd) j i (by omega) (by omega) q)
    have h24 : rg (l.map putD ++ [[("wipe" : Str), nm od]]) 24 = rg (l.map putD ++ [[("wipe" : Str), nm od]]) d := by
      have h1 : rg (l.map putD ++ [[("wipe" : Str), nm od]]) 24 = nm od := by
        have := rg_end (l := l) (d := [("wipe" : Str), nm od])
        rw [hlen] at this
        exact this
      rw [h1, hrgj d hd, hone]
    have hput : ∀ a, ∀ g ∈ putD a, a < 24 → PyData.strOk g = true := fun a g hg ha => coat_sok z24_valid (putD_coat ha) g hg
    refine ⟨25, rfl, by decide, by decide, ?_⟩
    refine for_it (walk_range (lo := 0) (n := 25)) (fun i σ H' => Same H8 H' ∧ ∃ a, σ = [some (V.ref p), some (V.ref D1), some (V.ref D2), some (V.ref x), some (V.ref t1), some (V.ref y), a, none, none]) ⟨Same.refl _, _, rfl⟩ (fun _ _ _ _ _ => trivial) (fun k v σ H9 H10 hk pv yv => ?_) (fun σ H9 pv => ?_)
    · obtain ⟨sm9, u0, rfl⟩ := pv
      obtain ⟨rfl, hv⟩ := yv
      replace hv : v = .int ((0 : Int) + (k : Nat)) := hv
      rw [Int.zero_add] at hv
      subst hv
      refine ⟨.ref x, rfl, .ref y, rfl, .int (k : Nat), rfl, x, y, _, z24, Ms, _, some k, rfl, hF8.same sm9, hR.same sm9, fun g hg => coat_deed z24_valid (hco g hg), by rw [hds25]; decide, .ok k (by rw [hds25]; exact hk), fun i h => ?_, fun x _ h => ?_, fun _ _ h => ?_, fun k' _ _ hkk u H11 hA => ?_⟩
      · rw [hbn] at h
        cases h
      · rw [hun] at h
        cases h
      · cases h
      have ek : k = k' := Option.some.inj hkk
      subst ek
      have ecd := cov_due hM hokn (by rw [z24_len]; exact Nat.le_refl _) hP0 (rg_in hreg) (k := k) (by rw [hds25]; exact hk)
      rw [many1 hds25 (fun j hj => rg_in hreg j (by rw [hds25]; exact hj)) hinj hd h24 hk] at ecd
      rw [ecd] at hA
      have sA := ans_same hA
      refine ⟨(show 1 ≤ sizeLine by decide), fun l24 hl24n => ⟨(show 2 ≤ sizeLine by decide), fun le hle => ?_⟩⟩
      have s12 := (same_upd (o := .lst [.int 24]) hl24n).trans (same_upd (o := .lst [.non, .ref l24]) hle)
      have hl24e : (upd (upd H11 l24 (.lst [.int 24])) le (.lst [.non, .ref l24])) l24 = some (.lst [.int 24]) := same_upd hle _ _ upd_same
      have hlee : (upd (upd H11 l24 (.lst [.int 24])) le (.lst [.non, .ref l24])) le = some (.lst [.non, .ref l24]) := upd_same
      generalize upd (upd H11 l24 (.lst [.int 24])) le (.lst [.non, .ref l24]) = H12 at *
      have s8_12 := (sm9.trans sA).trans s12
      have s5_12 := s8.trans s8_12
      have fin : ∀ b : Bool, (b = decide (k = d)) → (∃ p0 xs i v, V.ref le = .ref p0 ∧ V.int (if b then 1 else 0) = .int i ∧ SqL K H12 p0 xs ∧ atI xs i = some v ∧ ∃ dd ee, Dp K H12 u dd ∧ Dp K H12 v ee ∧ SeqAt.shaped dd = true ∧ SeqAt.shaped ee = true ∧ PyData.eqv dd ee = true) := fun b hb => by
        by_cases c : k = d
        · rw [if_pos c] at hA
          rw [decide_eq_true c] at hb
          subst hb
          refine ⟨le, _, 1, .ref l24, rfl, rfl, .inl (.inl hlee), rfl, oD (some [24]), oD (some [24]), dp_same s12 (ans_dp hA), .lst (.inl (.inl hl24e)) (dpAll_nat [24]), sh_oD _, sh_oD _, ?_⟩
          rw [eqv_oD]
          exact decide_eq_true rfl
        · rw [if_neg c] at hA
          rw [decide_eq_false c] at hb
          subst hb
          refine ⟨le, _, 0, .non, rfl, rfl, .inl (.inl hlee), rfl, oD none, oD none, dp_same s12 (ans_dp hA), .non, sh_oD _, sh_oD _, ?_⟩
          rw [eqv_oD]
          exact decide_eq_true rfl
      refine ⟨.int (k : Nat), rfl, _, 24, rfl, rfl, decide (k < 24), ?_, ?_⟩
      · dsimp only
        congr 1
        apply decide_eq_decide.mpr
        omega
      by_cases hk24 : k < 24
      · rw [decide_eq_true hk24]
        obtain ⟨tk, htk, htks⟩ := hget k hk24
        refine iteT ⟨.ref D2, rfl, .int (k : Nat), rfl, _, 23, rfl, ?_⟩
        rw [if_neg (by omega)]
        have hkd : decide (putD (l[k]'(by omega)) = putD od) = decide (k = d) := decide_eq_decide.mpr ⟨fun h => by
          have h1 : nm (l[k]'(by omega)) = nm od := (List.cons.inj (List.cons.inj (List.cons.inj h).2).2).1
          refine hinj k d hk24 hd ?_
          rw [hrgj k hk24, hrgj d hd, hone]
          exact h1, fun h => by
            subst h
            rw [hone]⟩
        obtain ⟨p0, xs0, i0, v0, e1, e2, e3, e4, dd, ee, e5, e6, e7, e8, e9⟩ := fin (decide (k = d)) rfl
        refine ⟨D2, ws, (k : Nat), .ref tk, rfl, rfl, .inl (.inl (s5_12 _ _ hws5)), atI_nat htk, .ref t1, rfl, eT (putD (l[k]'(by omega))), eT (putD od), dp_of_eT (sqT_same s5_12 htks), dp_of_eT (sqT_same s5_12 ht1s), sh_eT fun g hg => hput _ g hg (hl24 _ (List.getElem_mem _)), sh_eT fun g hg => hput _ g hg hld, .inr ⟨decide (k = d), ?_, p0, xs0, i0, v0, e1, e2, e3, e4, dd, ee, e5, e6, e7, e8, false, by rw [e9]; rfl, iteF ⟨s8_12, _, rfl⟩⟩⟩
        rw [eqv_eT, hkd]
      · rw [decide_eq_false hk24]
        obtain ⟨p0, xs0, i0, v0, e1, e2, e3, e4, dd, ee, e5, e6, e7, e8, e9⟩ := fin false (by rw [decide_eq_false]; omega)
        exact iteF (.inr ⟨false, rfl, p0, xs0, i0, v0, e1, e2, e3, e4, dd, ee, e5, e6, e7, e8, false, by rw [e9]; rfl, iteF ⟨s8_12, _, rfl⟩⟩)
    obtain ⟨sm9, u0, rfl⟩ := pv
    have s9 := s8.trans sm9
    have hws9 := s9 _ _ hws5
    -- Facts(names, [cover])
    obtain ⟨t22, h22, h22s⟩ := hget 22 (by decide)
    obtain ⟨t23, h23, h23s⟩ := hget 23 (by decide)
    have a22 : SqT K H9 t22 ((putD (l[22]'(by omega))).map V.str) := sqT_same s9 h22s
    have a23 : SqT K H9 t23 ((putD (l[23]'(by omega))).map V.str) := sqT_same s9 h23s
    have e22 : rg (l.map putD) 22 = nm (l[22]'(by omega)) := by
      have := rg_app (l := l) (tl := []) (j := 22) (by omega)
      rw [List.append_nil] at this
      exact this
    have e23 : rg (l.map putD) 23 = nm (l[23]'(by omega)) := by
      have := rg_app (l := l) (tl := []) (j := 23) (by omega)
      rw [List.append_nil] at this
      exact this
    refine ⟨.ref D1, rfl, .ref D2, rfl, D2, ws, 22, .ref t22, rfl, rfl, .inl (.inl hws9), atI_nat (j := 22) h22, t22, _, 2, .str (nm (l[22]'(by omega))), rfl, rfl, a22, rfl, .ref D2, rfl, D2, ws, 23, .ref t23, rfl, rfl, .inl (.inl hws9), atI_nat (j := 23) h23, t23, _, 2, .str (nm (l[23]'(by omega))), rfl, rfl, a23, rfl, (show 3 ≤ sizeLine by decide), fun tc htc => ⟨(show 1 ≤ sizeLine by decide), fun lc hlc => ?_⟩⟩
    rw [← e22, ← e23] at hlc ⊢
    intro x2 dx2 hx2 hdx2 hne2
    have s10 := (same_upd (o := .tup [.str "cover", .str (rg (l.map putD) 22), .str (rg (l.map putD) 23)]) htc).trans (same_upd (o := .lst [.ref tc]) hlc)
    have htc2 : (upd (upd H9 tc (.tup [.str "cover", .str (rg (l.map putD) 22), .str (rg (l.map putD) 23)])) lc (.lst [.ref tc])) tc = some (.tup ((fL (("cover" : Str), rg (l.map putD) 22, rg (l.map putD) 23)).map V.str)) := same_upd hlc _ _ upd_same
    have hlc2 : (upd (upd H9 tc (.tup [.str "cover", .str (rg (l.map putD) 22), .str (rg (l.map putD) 23)])) lc (.lst [.ref tc])) lc = some (.lst [.ref tc]) := upd_same
    generalize upd (upd H9 tc (.tup [.str "cover", .str (rg (l.map putD) 22), .str (rg (l.map putD) 23)])) lc (.lst [.ref tc]) = HA at *
    have spr := mk_pre (o := .ins (He.ga K "Facts") dx2 []) hx2 hdx2
    have hcl : ∀ g ∈ l.map putD, CoatOk z24 g := fun g hg => by
      obtain ⟨k, hk, rfl⟩ := List.mem_map.mp hg
      exact putD_coat (hl24 k hk)
    have hregl : ∀ g ∈ l.map putD, reg g ∈ z24 := fun g hg => coat_reg (hcl g hg)
    have hll : (l.map putD).length = 24 := by rw [List.length_map]; exact hlen
    have hrl : ∀ j, j < 24 → rg (l.map putD) j ∈ z24 := fun j hj => rg_in hregl j (by omega)
    have hinjl : ∀ i j, i < 24 → j < 24 → rg (l.map putD) i = rg (l.map putD) j → i = j := fun i j hi hj h => by
      refine hinj i j hi hj ?_
      have h1 := rg_app (l := l) (tl := []) (j := i) (by omega)
      have h2 := rg_app (l := l) (tl := []) (j := j) (by omega)
      rw [List.append_nil] at h1 h2
      rw [hrgj i hi, hrgj j hj, ← h1, ← h2]
      exact h
    have hokc : ∀ f ∈ [(("cover" : Str), rg (l.map putD) 22, rg (l.map putD) 23)], FOk z24 f := fun f hf => by
      rw [List.mem_singleton] at hf
      subst hf
      exact ⟨.inr (.inr rfl), hrl 22 (by decide), hrl 23 (by decide)⟩
    have hPc : possM z24 [(("cover" : Str), rg (l.map putD) 22, rg (l.map putD) 23)] ≠ [] := List.ne_nil_of_mem (fil_cov hrl (fun _ => true) (.inl rfl))
    refine ⟨x2, dx2, D1, lc, z24, [.ref tc], [(("cover" : Str), rg (l.map putD) 22, rg (l.map putD) 23)], rfl, upd_same, .inl (.inl (spr _ _ (s10 _ _ (s9 _ _ hz5)))), by rw [z24_len]; decide, by rw [z24_len]; exact Nat.le_refl _, z24_valid, z24_nd, .inl (.inl (spr _ _ hlc2)), .cons (dp_of_eT (.inl (.inl (spr _ _ htc2)))) .nil, (show 1 ≤ 1200 by decide), hokc, no_contra hokc hPc, fun HB Ms2 bu2 hF2 hM2 => ⟨rfl, ?_⟩⟩
    have sB := mk_same hx2 hdx2 bu2
    have s5B := (s9.trans s10).trans sB
    have hbl := badAt_none fun g hg => coat_bad (hcl g hg)
    have hul := unk_none hregl
    have c0 := cov_due hM2 hokc (by rw [z24_len]; exact Nat.le_refl _) hPc (rg_in hregl) (k := 0) (by omega)
    have c22 := cov_due hM2 hokc (by rw [z24_len]; exact Nat.le_refl _) hPc (rg_in hregl) (k := 22) (by omega)
    rw [many2a hll hrl hinjl] at c0
    rw [many2b hll hrl hinjl] at c22
    refine ⟨.ref x2, rfl, .ref D2, rfl, fun y2 dy2 hy2 hdy2 hney2 => ?_⟩
    have sy2 := s5B.trans (mk_pre (o := .ins (He.ga K "Row") dy2 []) hy2 hdy2)
    refine ⟨y2, dy2, D2, ws, l.map putD, rfl, upd_same, .inl (.inl (sy2 _ _ hws5)), dpAll_same sy2 hwd5, by omega, fun g hg => coat_deed z24_valid (hcl g hg), fun HC buC hRC hNC => ⟨rfl, ?_⟩⟩
    have sC := mk_same hy2 hdy2 buC
    refine ⟨x2, y2, _, z24, Ms2, _, some 0, rfl, hF2.same sC, hRC, fun g hg => coat_deed z24_valid (hcl g hg), by omega, .ok 0 (by omega), fun i h => ?_, fun x _ h => ?_, fun _ _ h => ?_, fun k' _ _ hkk u HD hA => ?_⟩
    · rw [hbl] at h
      cases h
    · rw [hul] at h
      cases h
    · cases h
    have ek : 0 = k' := Option.some.inj hkk
    subst ek
    rw [c0] at hA
    have sD := ans_same hA
    refine ⟨(show 2 ≤ sizeLine by decide), fun l2 hl2 => ⟨oD (some [22, 23]), oD (some [22, 23]), dp_same (same_upd hl2) (ans_dp hA), .lst (.inl (.inl upd_same)) (dpAll_nat [22, 23]), sh_oD _, sh_oD _, true, ?_, iteT ?_⟩⟩
    · rw [eqv_oD, decide_eq_true rfl]
    have sE := (sC.trans sD).trans (same_upd (o := .lst [.int 22, .int 23]) hl2)
    generalize upd HD l2 (.lst [.int 22, .int 23]) = HE at *
    refine ⟨.ref x2, rfl, .ref D2, rfl, fun y3 dy3 hy3 hdy3 hney3 => ?_⟩
    have sy3 := (s5B.trans sE).trans (mk_pre (o := .ins (He.ga K "Row") dy3 []) hy3 hdy3)
    refine ⟨y3, dy3, D2, ws, l.map putD, rfl, upd_same, .inl (.inl (sy3 _ _ hws5)), dpAll_same sy3 hwd5, by omega, fun g hg => coat_deed z24_valid (hcl g hg), fun HF buF hRF hNF => ⟨rfl, ?_⟩⟩
    have sF := mk_same hy3 hdy3 buF
    refine ⟨x2, y3, _, z24, Ms2, _, some 22, rfl, hF2.same (sE.trans sF), hRF, fun g hg => coat_deed z24_valid (hcl g hg), by omega, .ok 22 (by omega), fun i h => ?_, fun x _ h => ?_, fun _ _ h => ?_, fun k' _ _ hkk u2 HG hA2 => ?_⟩
    · rw [hbl] at h
      cases h
    · rw [hul] at h
      cases h
    · cases h
    have ek2 : 22 = k' := Option.some.inj hkk
    subst ek2
    rw [c22] at hA2
    obtain ⟨rfl, sG⟩ := hA2
    exact ⟨rfl, q _ (b5.trans (But.of_same ((s5B.trans sE).trans (sF.trans sG))))⟩
end
end Cw
end
section
namespace Cw
open PySem PySem.Spec PyProof.Rows L2
theorem Fcts.but {K : PySem.W.Frag} {H H' : Hp} {p a : Addr} {z : List Str} {Ms : List Nat} (h : Fcts K H a z Ms) (bu : But p H H') (hp : Pile H p) : Fcts K H' a z Ms := by
  obtain ⟨dx, fl, pl, ms, h1, h2, ⟨kvs, h3, h3b⟩, h4, h5, h6, h7⟩ := h
  obtain ⟨g, c, k, hh⟩ := hp
  have hap : a ≠ p := fun e => by rw [e, hh] at h1; cases h1
  have hplp : pl ≠ p := fun e => by rw [e, hh] at h3; cases h3
  refine ⟨dx, fl, pl, ms, bu.at hap h1, h2, ⟨kvs, bu.at hplp h3, h3b⟩, h4, ?_, h6, h7⟩
  by_cases e : ms = p
  · rcases h5 with h5 | h5
    · exfalso
      subst e
      rcases h5 with h5 | ⟨o, h5⟩
      · rw [hh] at h5
        have := congrArg List.length (HO.lst.inj (Option.some.inj h5))
        rw [List.length_map] at this
        simp at this
        omega
      · rw [hh] at h5
        cases h5
    · exact .inr h5
  · exact sqL_but bu e h5
/-- Row(..) made -/
theorem rowk {K : PySem.W.Frag} {H2 : Hp} {rl : Addr} {xs : List V} {ds : List (List Str)} (hx : H2 rl = some (.lst xs)) (hd : DpAll K H2 xs (ds.map eT)) (hl : ds.length ≤ 30) (hok : ∀ d ∈ ds, DeedOk d) (Q : Addr → Hp → Prop)
    (h : ∀ y H3, H2 y = none → Same H2 H3 → Rw K H3 y ds → NoD K H3 y → Q y H3) : ∀ x dx, H2 x = none → H2 dx = none → dx ≠ x → spRInit K (.ref x :: ([.ref rl] ++ [])) (upd (upd H2 dx (.own x)) x (.ins (He.ga K "Row") dx [])) (fun v H2 => v = .non ∧ Q x H2) C8.E0 :=
  fun x dx hx0 hdx hne => ⟨x, dx, rl, xs, ds, rfl, upd_same, .inl (.inl (mk_pre hx0 hdx _ _ hx)), dpAll_same (mk_pre hx0 hdx) hd, hl, hok, fun H' bu hR hN => ⟨rfl, h x H' hx0 (mk_same hx0 hdx bu) hR hN⟩⟩
theorem badAt_hit {a b : List (List Str)} {d : List Str} (ha : ∀ g ∈ a, bad g = false) (hd : bad d = true) : badAt (a ++ d :: b) = some a.length := by
  unfold badAt
  rw [List.findIdx?_eq_some_iff_getElem]
  refine ⟨by simp, by simpa using hd, fun j hj => ?_⟩
  rw [List.getElem_append_left hj, ha _ (List.getElem_mem hj)]
  decide
theorem unk_hit {z : List Str} {a b : List (List Str)} {d : List Str} (ha : ∀ g ∈ a, reg g ∈ z) (hd : reg d ∉ z) : unk z (a ++ d :: b) = some (reg d) := by
  unfold unk
  have e : (a.map reg).find? (fun x => !decide (x ∈ z)) = none := unk_none ha
  rw [List.map_append, List.find?_append, e, List.map_cons, List.find?_cons]
  simp [hd]
/-- a word and a thing -/
def prD (s : Str) (d : PyData) : PyData := .list [.str s, d]
theorem sh_prD {s : Str} {d : PyData} (hs : PyData.strOk s = true) (hd : PyData.canLay0 d = true) (h : PyData.depth d = 0) : SeqAt.shaped (prD s d) = true := by
  unfold SeqAt.shaped prD
  rw [Bool.and_eq_true, decide_eq_true_iff]
  refine ⟨?_, ?_⟩
  · show (PyData.strOk s && (PyData.canLay0 d && true)) = true
    rw [hs, hd]
    rfl
  · show max 0 (max (PyData.depth d) 0) + 1 ≤ 64
    rw [h]
    decide
theorem eqv_prS (s x : Str) : PyData.eqv (prD s (.str x)) (prD s (.str x)) = true := by
  simp [prD, PyData.eqv, PyData.eqvAll]
theorem eqv_prI (s : Str) (i : Int) : PyData.eqv (prD s (.int i)) (prD s (.int i)) = true := by
  simp [prD, PyData.eqv, PyData.eqvAll]
theorem dp_prD {K : PySem.W.Frag} {H : Hp} {q : Addr} {s : Str} {v : V} {d : PyData} (h : H q = some (.lst [.str s, v])) (hv : Dp K H v d) : Dp K H (.ref q) (prD s d) := .lst (.inl (.inl h)) (.cons (.str s) (.cons hv .nil))
/-- what may be told as a text -/
def ShOk (d : PyData) : Prop := (prD "number" d).showable = true ∧ (prD "number" d).hasDict = false ∧ (prD "number" d).shown.length ≤ sizeLine ∧ (prD "number" d).depth ≤ 60
theorem sh_int : ∀ n : Fin 11, (prD "number" (.int (n.val : Nat))).showable = true ∧ (prD "number" (.int (n.val : Nat))).hasDict = false ∧ (prD "number" (.int (n.val : Nat))).shown.length ≤ 100 ∧ (prD "number" (.int (n.val : Nat))).depth ≤ 60 := by decide +kernel
theorem sh_of {d : PyData} (h : (prD "number" d).showable = true ∧ (prD "number" d).hasDict = false ∧ (prD "number" d).shown.length ≤ 100 ∧ (prD "number" d).depth ≤ 60) : ShOk d := ⟨h.1, h.2.1, Nat.le_trans h.2.2.1 (by decide), h.2.2.2⟩
theorem odd_ok {K : PySem.W.Frag} {n : Nat} (hn : n ≤ 10) (l0 : Addr) : ∀ d, d < 8 → ∃ (v : V) (dd : PyData), ([.int (n : Nat), .int (0 - 1), .bl true, .non, .str "0", .ref l0, .int (10 ^ (20 : Int).toNat), .bl false] : List V)[d]? = some v ∧
    (∀ H : Hp, H l0 = some (.lst [.int 0]) → IxV K H n v none ∧ Dp K H v dd) ∧ ShOk dd := by
  intro d hd
  match d, hd with
  | 0, _ => exact ⟨_, .int (n : Nat), rfl, fun H _ => ⟨.int _ (by omega), .int _⟩, sh_of (sh_int ⟨n, by omega⟩)⟩
  | 1, _ => exact ⟨_, .int (0 - 1), rfl, fun H _ => ⟨.int _ (by omega), .int _⟩, sh_of (by decide +kernel)⟩
  | 2, _ => exact ⟨_, .bool true, rfl, fun H _ => ⟨.bl _, .bl _⟩, sh_of (by decide +kernel)⟩
  | 3, _ => exact ⟨_, .none, rfl, fun H _ => ⟨.non, .non⟩, sh_of (by decide +kernel)⟩
  | 4, _ => exact ⟨_, .str "0", rfl, fun H _ => ⟨.str _, .str _⟩, sh_of (by decide +kernel)⟩
  | 5, _ => exact ⟨_, .list [.int 0], rfl, fun H h => ⟨.lst _ _ (.inl (.inl h)), .lst (.inl (.inl h)) (.cons (.int _) .nil)⟩, sh_of (by decide +kernel)⟩
  | 6, _ =>
    have e : (10 : Int) ^ (20 : Int).toNat = 100000000000000000000 := by decide
    exact ⟨_, .int (10 ^ (20 : Int).toNat), rfl, fun H _ => ⟨.int _ (by rw [e]; omega), .int _⟩, sh_of (by decide +kernel)⟩
  | 7, _ => exact ⟨_, .bool false, rfl, fun H _ => ⟨.bl _, .bl _⟩, sh_of (by decide +kernel)⟩
/-- a def that is called where no guard runs, under its name -/
structure CalG (P : Program) (w : World) (K : PySem.W.Frag) (mg : Str → Option Value) (base : Heap) (k : Nat) (x : Str) (sp : Sp) : Prop where
  ex : ∃ (f : Addr) (fd : FuncData) (ps : List Str), FnG P w K mg base CX0 k f fd ps sp ∧ mg x = some (.ref f) ∧ PySem.W.keepIn K (.ref f) = true ∧ Binds K fd ps []
theorem pe_cG {X : Cx} {k j : Nat} {x : Str} {sp : Sp} {e : Expr} {es : List Expr} {t : TA} {p pos : Pos} (c : CalG X.prog X.w X.K X.mg X.base k x sp) (hgd : X.A.guards = some []) (hr : Room j X.A) (hk : k ≤ j) (hg : Gl X x) (ha : PA X (e :: es) t)
    (hdb : (x == ("__debug__" : Str)) = false := by decide) (he : starEach (e :: es) X.env = (false, eval e X.env) :: starEach es X.env := by rfl) (hpl : (backTo pos (starEach es X.env)).any (·.1) = false := by rfl) :
    PE X (.Call (.Name x p) (e :: es) [] pos) (tCall sp [] C8.E0 t) := by
  obtain ⟨f, fd, ps, F, hm, kp, b⟩ := c.ex
  exact pe_callGd F hgd (hr.mono hk) hg hm kp b C8.pass0 ha hdb he hpl
section
variable {P : Program} {w : World} {K : PySem.W.Frag} {mg : Str → Option Value} {base : Heap}
def spDoors (K : PySem.W.Frag) : Sp := fun vs H Q _ => ∃ (p mk na da : Addr) (z : List Str) (Ms : List Nat) (xs : List V) (ds : List (List Str)), vs = [.ref p, .ref mk, .ref na, .ref da] ∧ Pile H p ∧ na ≠ p ∧ da ≠ p ∧ Fcts K H mk z Ms ∧ SqL K H na (z.map V.str) ∧ z ≠ [] ∧ (∀ x ∈ z, Valid x) ∧ ¬ (z12 ∈ z ∧ y12 ∈ z) ∧
  H da = some (.lst xs) ∧ DpAll K H xs (ds.map eT) ∧ (∀ d ∈ ds, CoatOk z d) ∧ ds.length ≤ 10 ∧ ∀ H', But p H H' → Q (.bl true) H'
theorem ok_doors (D : Dfn K mg "_law_doors_right" s_law_doors_right ["_law_pile_here", "_law_made", "_law_names_here", "_law_deeds"]) (T : Txt K mg w) (c_take : C8.Cal P w K mg base 2 "_law_take" spTake [])
    (c_Row : C8.Mak P w K mg base 3 "Row" (He.ga K "Row") (spRInit K) []) (c_refused : C8.Cal P w K mg base 6 "_law_refused" (spRefused K) []) : CalG P w K mg base 7 "_law_doors_right" (spDoors K) := by
  obtain ⟨f, fd, F, g, b⟩ := D.ex
  refine ⟨f, fd, _, fnG_of F sc_doors_right (fun vs H Q E h => ?_) (fun cdv A outer s H vs Q E hgd hr h => ?_), g, F.kp, b⟩
  · obtain ⟨a, b, c, d, e, f, g, i, rfl, _⟩ := h
    rfl
  · obtain ⟨p, mk, na, da, z, Ms, xs, ds, rfl, hp, hnp, hdp, hF, hs, hz0, hv, hfree, hda, hd, hco, hdl, q⟩ := h
    have nd := sc_doors_right.nd
    refine ⟨_, (pss_cons (ps_set (i := 4) nd rfl (.inl rfl) (C8.pe_mk c_Row hr (by decide) rfl (pa_cons (pv 3) pa_nil)))
    (pss_cons (ps_set (i := 5) nd rfl (.inl rfl) (pe_ix ix_list (pe_lst (pa_cons (pe_callB call_len_seq (by rfl) T.b_len boot_len (pa_cons (pv 3) pa_nil)) (pa_cons (pe_op op_sub pe_int pe_int) (pa_cons pe_bl (pa_cons pe_non (pa_cons pe_str (pa_cons (pe_lst (pa_cons pe_int pa_nil)) (pa_cons (pe_op op_pow pe_int pe_int) (pa_cons pe_bl pa_nil))))))))) (C8.pe_c c_take hr (by decide) rfl (pa_cons (pv 0) (pa_cons pe_int pa_nil))) (fun _ _ => rfl)))
    (pss_cons (ps_if (pt_cmpR op_ne (pe_callTy (call_strD hgd (hu64 hr)) (by rfl) T.b_str (by decide +kernel) (pa_cons (C8.pe_c c_refused hr (by decide) rfl (pa_cons (pv 1) (pa_cons (pv 4) (pa_cons (pv 5) pa_nil)))) pa_nil)) (pe_callTy (call_strD hgd (hu64 hr)) (by rfl) T.b_str (by decide +kernel) (pa_cons (pe_lst (pa_cons pe_str (pa_cons (pv 5) pa_nil))) pa_nil)) (nomark _))
      (pss_one (ps_ret pe_bl))
      pss_nil)
    (pss_cons (ps_set (i := 6) nd rfl (.inl rfl) (pe_ix ix_list (pe_lst (pa_cons (pe_tup (pa_cons pe_str (pa_cons pe_str (pa_cons (pe_ix ix_list (pv 2) pe_int (fun _ _ => rfl)) pa_nil)))) (pa_cons (pe_tup (pa_cons pe_str (pa_cons pe_str (pa_cons pe_str pa_nil)))) pa_nil))) (C8.pe_c c_take hr (by decide) rfl (pa_cons (pv 0) (pa_cons pe_int pa_nil))) (fun _ _ => rfl)))
    (pss_cons (ps_setLc (i := 7) (own := [("_law_name", 10)]) rfl nd rfl rfl (sw_true rfl rfl rfl (by decide +kernel)) (pi_list (pe_lst (pa_cons pe_str (pa_cons pe_str pa_nil)))) (blkOk_by (by kernel_rfl)) (fun _ _ _ _ _ => (pg_name (i := 10) nd rfl (by first | exact Or.inl rfl | exact Or.inr rfl))) (fun _ _ _ _ _ => (pts_one (pt_cmpR (op_notInK (K := K) rfl) (pv 10) (pv 2) rfl))) (fun _ _ _ _ _ => (pv 10)))
    (pss_cons (ps_if (pt_cmpR (op_neD (hu64 hr)) (C8.pe_c c_refused hr (by decide) rfl (pa_cons (pv 1) (pa_cons (C8.pe_mk c_Row hr (by decide) rfl (pa_cons (pe_op op_cat (pv 3) (pe_lst (pa_cons (pe_tup (pa_cons pe_str (pa_cons (pe_ix ix_list (pv 7) pe_int (fun _ _ => rfl)) pa_nil))) pa_nil))) pa_nil)) (pa_cons pe_int pa_nil)))) (pe_lst (pa_cons pe_str (pa_cons (pe_ix ix_list (pv 7) pe_int (fun _ _ => rfl)) pa_nil))) (nomark _))
      (pss_one (ps_ret pe_bl))
      pss_nil)
    (pss_cons (ps_if (pt_cmpR (op_neD (hu64 hr)) (C8.pe_c c_refused hr (by decide) rfl (pa_cons (pv 1) (pa_cons (C8.pe_mk c_Row hr (by decide) rfl (pa_cons (pe_lst (pa_cons (pe_tup (pa_cons pe_str (pa_cons (pe_ix ix_list (pv 7) pe_int (fun _ _ => rfl)) pa_nil))) (pa_cons (pv 6) pa_nil))) pa_nil)) (pa_cons pe_int pa_nil)))) (pe_lst (pa_cons pe_str (pa_cons pe_int pa_nil))) (nomark _))
      (pss_one (ps_ret pe_bl))
      pss_nil)
    (pss_cons (ps_for (passes_of rfl) rfl (pi_range1 rfl T.b_range (pa_cons (pe_op op_add (pe_callB call_len_seq (by rfl) T.b_len boot_len (pa_cons (pv 3) pa_nil)) pe_int) pa_nil)) (pg_name (i := 8) nd rfl (.inl rfl))
      (pss_cons (ps_set (i := 9) nd rfl (.inl rfl) (pe_lst (pa_cons (C8.pe_c c_refused hr (by decide) rfl (pa_cons (pv 1) (pa_cons (C8.pe_mk c_Row hr (by decide) rfl (pa_cons (pe_op op_cat (pe_op op_cat (pe_lst (pa_cons (pv 6) pa_nil)) (pv 3)) (pe_lst (pa_cons (pv 6) pa_nil))) pa_nil)) (pa_cons (pv 8) pa_nil)))) (pa_cons (C8.pe_c c_refused hr (by decide) rfl (pa_cons (pv 1) (pa_cons (C8.pe_mk c_Row hr (by decide) rfl (pa_cons (pe_op op_cat (pv 3) (pe_lst (pa_cons (pv 6) pa_nil))) pa_nil)) (pa_cons (pv 8) pa_nil)))) pa_nil))))
      (pss_cons (ps_if (pt_cmpR (op_neD (hu64 hr)) (pv 9) (pe_lst (pa_cons (pe_lst (pa_cons pe_str (pa_cons pe_int pa_nil))) (pa_cons (pe_lst (pa_cons pe_str (pa_cons (pe_callB call_len_seq (by rfl) T.b_len boot_len (pa_cons (pv 3) pa_nil)) pa_nil))) pa_nil))) (nomark _))
        (pss_one (ps_ret pe_bl))
        pss_nil)
      (pss_one (ps_if (pt_cmpR (op_neD (hu64 hr)) (C8.pe_c c_refused hr (by decide) rfl (pa_cons (pv 1) (pa_cons (C8.pe_mk c_Row hr (by decide) rfl (pa_cons (pe_op op_cat (pe_op op_cat (pe_lst (pa_cons (pe_tup (pa_cons pe_str (pa_cons (pe_ix ix_list (pv 7) pe_int (fun _ _ => rfl)) pa_nil))) pa_nil)) (pv 3)) (pe_lst (pa_cons (pe_tup (pa_cons pe_str (pa_cons (pe_ix ix_list (pv 2) pe_int (fun _ _ => rfl)) pa_nil))) pa_nil))) pa_nil)) (pa_cons (pv 8) pa_nil)))) (pe_lst (pa_cons pe_str (pa_cons (pe_ix ix_list (pv 7) pe_int (fun _ _ => rfl)) pa_nil))) (nomark _))
        (pss_one (ps_ret pe_bl))
        pss_nil)))))
    (pss_one (ps_ret pe_bl)))))))))), ?_⟩
    have hxl : xs.length = ds.length := by rw [dpAll_len hd, List.length_map]
    have hzl : 0 < z.length := List.length_pos_iff.mpr hz0
    have hdeed : ∀ d ∈ ds, DeedOk d := fun d hd => coat_deed hv (hco d hd)
    have hbg : ∀ d ∈ ds, bad d = false := fun d hd => coat_bad (hco d hd)
    have hrg : ∀ d ∈ ds, reg d ∈ z := fun d hd => coat_reg (hco d hd)
    -- the row
    refine ⟨.ref da, rfl, rowk hda hd (by omega) hdeed _ fun y H1 hy sm1 hR hN => ?_⟩
    have hda1 := sm1 _ _ hda
    have hp1 := hp.same sm1
    -- odd
    refine ⟨.ref da, rfl, da, xs, rfl, .inl (.inl (.inl hda1)), _, _, rfl, rfl, (show 1 ≤ sizeLine by decide), fun l0 hl0 => ⟨10, 20, rfl, rfl, ⟨by decide, by decide, by decide⟩, (show 8 ≤ sizeLine by decide), fun ol hol => ?_⟩⟩
    have s2 := (same_upd (o := .lst [.int 0]) hl0).trans (same_upd (o := .lst [.int (xs.length : Nat), .int (0 - 1), .bl true, .non, .str "0", .ref l0, .int (10 ^ (20 : Int).toNat), .bl false]) hol)
    have hl02 := same_upd (o := .lst [.int (xs.length : Nat), .int (0 - 1), .bl true, .non, .str "0", .ref l0, .int (10 ^ (20 : Int).toNat), .bl false]) hol _ _ (upd_same (H := H1) (a := l0) (o := .lst [.int 0]))
    have hp2 := hp1.same s2
    have hl0p : l0 ≠ p := hp1.ne hl0
    have holp : ol ≠ p := (hp1.same (same_upd hl0)).ne hol
    have hol2 : (upd (upd H1 l0 (.lst [.int 0])) ol (.lst [.int (xs.length : Nat), .int (0 - 1), .bl true, .non, .str "0", .ref l0, .int (10 ^ (20 : Int).toNat), .bl false])) ol = some (.lst [.int (xs.length : Nat), .int (0 - 1), .bl true, .non, .str "0", .ref l0, .int (10 ^ (20 : Int).toNat), .bl false]) := upd_same
    refine ⟨.ref p, rfl, p, 8, rfl, hp2, by decide, by decide, fun di H3 hdi bu3 hp3 => ?_⟩
    generalize upd (upd H1 l0 (.lst [.int 0])) ol (.lst [.int (xs.length : Nat), .int (0 - 1), .bl true, .non, .str "0", .ref l0, .int (10 ^ (20 : Int).toNat), .bl false]) = H2 at *
    obtain ⟨v, dd, hv1, hv2, hsh⟩ := odd_ok (K := K) (n := xs.length) (by omega) l0 di hdi
    have b3 : But p H H3 := (But.of_same (sm1.trans s2)).trans bu3
    refine ⟨ol, _, (di : Nat), v, rfl, rfl, .inl (.inl (bu3.at holp hol2)), atI_nat hv1, ?_⟩
    have hl03 := bu3.at hl0p hl02
    obtain ⟨hix, hdv⟩ := hv2 H3 hl03
    have hyp : y ≠ p := hp.ne hy
    have hF3 := hF.but b3 hp
    have hR3 : Rw K H3 y ds := by
      obtain ⟨dx, fl, l, rxs, r1, r2, r3, r4⟩ := hR.same s2
      have fx := fx_but bu3 hp2
      exact ⟨dx, fl, l, rxs, bu3.at hyp r1, r2, sqT_fx fx r3, dpAll_fx fx (eTs ds) r4⟩
    have hbn := badAt_none hbg
    have hun := unk_none hrg
    have hrm : refM z ds v = (("number" : Str), v) := by
      unfold refM
      rw [hbn]
      simp only [hun]
    refine ⟨.ref mk, rfl, .ref y, rfl, v, rfl, mk, y, v, z, Ms, ds, none, rfl, hF3, hR3, hdeed, by omega, hxl ▸ hix, fun _ _ => rfl, fun q1 H4 hq1 sm4 e4 => ?_⟩
    rw [hrm] at e4
    refine ⟨q1, prD "number" dd, rfl, dp_prD e4 (dp_same sm4 hdv), hsh.1, hsh.2.1, hsh.2.2.1, hsh.2.2.2, v, rfl, (show 2 ≤ sizeLine by decide), fun q2 hq2 => ?_⟩
    have s5 := sm4.trans (same_upd (o := .lst [.str "number", v]) hq2)
    refine ⟨q2, prD "number" dd, rfl, dp_prD upd_same (dp_same s5 hdv), hsh.1, hsh.2.1, hsh.2.2.1, hsh.2.2.2, rfl, false, bnt rfl, iteF ?_⟩
    have b5 := b3.trans (But.of_same (p := p) s5)
    have hp5 := hp3.same s5
    generalize upd H4 q2 (.lst [.str "number", v]) = H5 at *
    clear hix hdv hq2 hq1 e4 sm4 s5 hl03 hv1 hv2 hsh bu3 hl02 hol2 hol hl0 s2 hp2 hp1 hp3
    -- bad
    refine ⟨.ref na, rfl, na, _, 0, .str z[0], rfl, rfl, sqL_but b5 hnp hs, atI_nat (j := 0) (strs_get hzl), (show 3 ≤ sizeLine by decide), fun t1 ht1 => ⟨(show 3 ≤ sizeLine by decide), fun t2 ht2 => ⟨(show 2 ≤ sizeLine by decide), fun lb hlb => ?_⟩⟩⟩
    have s6 := ((same_upd (o := .tup [.str "fill", .str "red", .str z[0]]) ht1).trans (same_upd (o := .tup [.str "turn", .str "red", .str "blue"]) ht2)).trans (same_upd (o := .lst [.ref t1, .ref t2]) hlb)
    have hlbp : lb ≠ p := ((hp5.same (same_upd (o := .tup [.str "fill", .str "red", .str z[0]]) ht1)).same (same_upd (o := .tup [.str "turn", .str "red", .str "blue"]) ht2)).ne hlb
    have q1e : (upd (upd (upd H5 t1 (.tup [.str "fill", .str "red", .str z[0]])) t2 (.tup [.str "turn", .str "red", .str "blue"])) lb (.lst [.ref t1, .ref t2])) t1 = some (.tup ([("fill" : Str), "red", z[0]].map V.str)) := ((same_upd ht2).trans (same_upd hlb)) _ _ upd_same
    have q2e : (upd (upd (upd H5 t1 (.tup [.str "fill", .str "red", .str z[0]])) t2 (.tup [.str "turn", .str "red", .str "blue"])) lb (.lst [.ref t1, .ref t2])) t2 = some (.tup ([("turn" : Str), "red", "blue"].map V.str)) := same_upd hlb _ _ upd_same
    have q3e : (upd (upd (upd H5 t1 (.tup [.str "fill", .str "red", .str z[0]])) t2 (.tup [.str "turn", .str "red", .str "blue"])) lb (.lst [.ref t1, .ref t2])) lb = some (.lst [.ref t1, .ref t2]) := upd_same
    have hp6 := hp5.same s6
    have b6 := b5.trans (But.of_same (p := p) s6)
    generalize upd (upd (upd H5 t1 (.tup [.str "fill", .str "red", .str z[0]])) t2 (.tup [.str "turn", .str "red", .str "blue"])) lb (.lst [.ref t1, .ref t2]) = H6 at *
    refine ⟨.ref p, rfl, p, 2, rfl, hp6, by decide, by decide, fun bi H7 hbi bu7 hp7 => ?_⟩
    have fx7 := fx_but bu7 hp6
    have b7 := b6.trans bu7
    have hred : Valid "red" := vld_lit _ (by decide +kernel)
    have hblue : Valid "blue" := vld_lit _ (by decide +kernel)
    obtain ⟨tb, bd, hb1, hb2, hb3, hb4⟩ : ∃ (tb : Addr) (bd : List Str), ([V.ref t1, .ref t2] : List V)[bi]? = some (.ref tb) ∧ SqT K H7 tb (bd.map V.str) ∧ DeedOk bd ∧ bad bd = true := by
      match bi, hbi with
      | 0, _ =>
        refine ⟨t1, _, rfl, sqT_fx fx7 (.inl (.inl q1e)), ⟨_, _, rfl, .inl ⟨.inr (.inl rfl), rfl⟩, fun x hx => ?_⟩, rfl⟩
        simp only [List.mem_cons, List.not_mem_nil, or_false] at hx
        rcases hx with rfl | rfl
        · exact hred
        · exact hv _ (List.getElem_mem hzl)
      | 1, _ =>
        refine ⟨t2, _, rfl, sqT_fx fx7 (.inl (.inl q2e)), ⟨_, _, rfl, .inl ⟨.inr (.inr rfl), rfl⟩, fun x hx => ?_⟩, rfl⟩
        simp only [List.mem_cons, List.not_mem_nil, or_false] at hx
        rcases hx with rfl | rfl
        · exact hred
        · exact hblue
    refine ⟨lb, _, (bi : Nat), .ref tb, rfl, rfl, .inl (.inl (bu7.at hlbp q3e)), atI_nat hb1, ?_⟩
    clear q1e q2e q3e ht1 ht2 hlb s6 hp6 hp5
    -- free
    refine ⟨(show 2 ≤ sizeLine by decide), fun lz hlz => ⟨lz, rfl, ⟨_, .inl (.inl upd_same)⟩, fun D1 hD1 => ?_⟩⟩
    have s8 := same_upd (o := .lst [.str "zzzzzzzzzzzz", .str "yyyyyyyyyyyy"]) hlz
    have hlz8 : (upd H7 lz (.lst [.str "zzzzzzzzzzzz", .str "yyyyyyyyyyyy"])) lz = some (.lst ([z12, y12].map V.str)) := upd_same
    generalize upd H7 lz (.lst [.str "zzzzzzzzzzzz", .str "yyyyyyyyyyyy"]) = H8 at *
    have b8 := b7.trans (But.of_same (p := p) s8)
    refine lc_filt (K := K) (E := fun _ v x => v = .str x) (fun _ _ _ _ _ h => h) (as := [z12, y12]) (.inl (.inl hlz8)) (.cons rfl (.cons rfl .nil)) (show 2 < sizeLine by decide) hD1 (fun _ => rfl) (show 10 < 11 by decide) (fun x => decide (x ∉ z)) (fun x v H9 R hx9 sm9 hxv hR9 => ?_) (fun H9 ws sm9 hws hpw => ?_)
    · subst hxv
      refine ⟨_, rfl, .ref na, rfl, na, _, rfl, .inl (sqL_same sm9 (sqL_but b8 hnp hs)), rfl, flat_str _, decide (x ∉ z), ?_, hR9 _ (Same.refl _)⟩
      show V.bl (!inV (.str x) (z.map V.str)) = _
      rw [inV_str]
      simp
    obtain ⟨f0, hf0, hf1, hf2⟩ : ∃ f0 : Str, ws[0]? = some (.str f0) ∧ f0 ∉ z ∧ (f0 = z12 ∨ f0 = y12) := by
      cases hws' : ws with
      | nil =>
        exfalso
        rw [hws'] at hpw
        have h0 := pa_len hpw
        have h1 : [z12, y12].filter (fun x => decide (x ∉ z)) = [] := List.length_eq_zero_iff.mp h0.symm
        rw [List.filter_eq_nil_iff] at h1
        refine hfree ⟨?_, ?_⟩
        · have := h1 z12 (by simp)
          simpa using this
        · have := h1 y12 (by simp)
          simpa using this
      | cons v0 r0 =>
        obtain ⟨x0, h1, h2⟩ := pa_at (i := 0) (a := v0) hpw (by rw [hws']; rfl)
        have h3 := List.mem_of_getElem? h1
        obtain ⟨h4, h5⟩ := List.mem_filter.mp h3
        refine ⟨x0, by rw [h2]; rfl, of_decide_eq_true h5, ?_⟩
        simpa using h4
    have hf0v : Valid f0 := by
      rcases hf2 with rfl | rfl
      · exact vld_lit _ (by decide +kernel)
      · exact vld_lit _ (by decide +kernel)
    have b9 := b8.trans (But.of_same (p := p) sm9)
    have hp9 := (hp7.same s8).same sm9
    have hb29 := sqT_same sm9 (sqT_same s8 hb2)
    have hF9 := hF.but b9 hp
    have hda9 := b9.at hdp hda
    have fx9 : Fx H H9 := fx_but b9 hp
    have hd9 := dpAll_fx fx9 (eTs ds) hd
    have hs9 := sqL_but b9 hnp hs
    clear hlz8 hlz hb2 hb1 hlbp bu7 b8 b7 b6 b5 b3 sm9 s8 hD1 fx7
    have hdF : DeedOk [("wipe" : Str), f0] := ⟨_, _, rfl, .inr ⟨rfl, rfl⟩, fun x hx => by
      simp only [List.mem_cons, List.not_mem_nil, or_false] at hx
      subst hx
      exact hf0v⟩
    have hok1 : ∀ d ∈ ds ++ [[("wipe" : Str), f0]], DeedOk d := fun d hd => by
      rw [List.mem_append, List.mem_singleton] at hd
      rcases hd with h | rfl
      · exact hdeed d h
      · exact hdF
    have sok_tag : ∀ s : Str, (s = "region" ∨ s = "deed") → PyData.strOk s = true := fun s h => by
      rcases h with rfl | rfl <;> decide +kernel
    have hbF : bad [("wipe" : Str), f0] = false := rfl
    have hbd1 : ∀ g ∈ ds ++ [[("wipe" : Str), f0]], bad g = false := fun g hg => by
      rw [List.mem_append, List.mem_singleton] at hg
      rcases hg with h | rfl
      · exact hbg g h
      · exact hbF
    have hr1 : ∀ v, refM z (ds ++ [[("wipe" : Str), f0]]) v = (("region" : Str), .str f0) := fun v => by
      have h2 : unk z (ds ++ [[("wipe" : Str), f0]]) = some f0 := unk_hit (b := []) hrg hf1
      unfold refM
      rw [badAt_none hbd1]
      simp only [h2]
    have hr2 : ∀ v, refM z [[("wipe" : Str), f0], bd] v = (("deed" : Str), .int ((1 : Nat) : Int)) := fun v => by
      have h2 : badAt ([[("wipe" : Str), f0]] ++ bd :: []) = some 1 := badAt_hit (fun g hg => by rw [List.mem_singleton] at hg; rw [hg]; rfl) hb4
      unfold refM
      rw [show [[("wipe" : Str), f0], bd] = [[("wipe" : Str), f0]] ++ bd :: [] from rfl, h2]
    have hr3 : ∀ v, refM z ([bd] ++ ds ++ [bd]) v = (("deed" : Str), .int ((0 : Nat) : Int)) := fun v => by
      have h2 : badAt ([] ++ bd :: (ds ++ [bd])) = some 0 := badAt_hit (fun g hg => absurd hg List.not_mem_nil) hb4
      unfold refM
      rw [show [bd] ++ ds ++ [bd] = [] ++ bd :: (ds ++ [bd]) from rfl, h2]
    have hr4 : ∀ v, refM z (ds ++ [bd]) v = (("deed" : Str), .int ((ds.length : Nat) : Int)) := fun v => by
      have h2 : badAt (ds ++ bd :: []) = some ds.length := badAt_hit hbg hb4
      unfold refM
      rw [h2]
    have hbd5 : ∀ g ∈ [[("wipe" : Str), f0]] ++ ds ++ [[("wipe" : Str), z[0]]], bad g = false := fun g hg => by
      simp only [List.mem_append, List.mem_singleton] at hg
      rcases hg with (rfl | h) | rfl
      · rfl
      · exact hbg g h
      · rfl
    have hr5 : ∀ v, refM z ([[("wipe" : Str), f0]] ++ ds ++ [[("wipe" : Str), z[0]]]) v = (("region" : Str), .str f0) := fun v => by
      have h2 : unk z ([] ++ [("wipe" : Str), f0] :: (ds ++ [[("wipe" : Str), z[0]]])) = some f0 := unk_hit (fun g hg => absurd hg List.not_mem_nil) hf1
      unfold refM
      rw [badAt_none hbd5]
      simp only [show [[("wipe" : Str), f0]] ++ ds ++ [[("wipe" : Str), z[0]]] = [] ++ [("wipe" : Str), f0] :: (ds ++ [[("wipe" : Str), z[0]]]) from rfl, h2]
    have f0s : PyData.strOk f0 = true := sok_valid hf0v
    have shR : SeqAt.shaped (prD "region" (.str f0)) = true := sh_prD (by decide +kernel) f0s rfl
    have shD : ∀ i : Int, SeqAt.shaped (prD "deed" (.int i)) = true := fun i => sh_prD (by decide +kernel) rfl rfl
    have wipeOk : DeedOk [("wipe" : Str), z[0]] := ⟨_, _, rfl, .inr ⟨rfl, rfl⟩, fun x hx => by
      simp only [List.mem_cons, List.not_mem_nil, or_false] at hx
      subst hx
      exact hv _ (List.getElem_mem hzl)⟩
    -- an unknown region
    refine ⟨.ref mk, rfl, .ref da, rfl, .ref D1, rfl, D1, ws, 0, .str f0, rfl, rfl, .inl (.inl hws), atI_nat (j := 0) hf0, (show 2 ≤ sizeLine by decide), fun tw htw => ⟨(show 1 ≤ sizeLine by decide), fun lw hlw => ?_⟩⟩
    have sA := (same_upd (o := .tup [.str "wipe", .str f0]) htw).trans (same_upd (o := .lst [.ref tw]) hlw)
    have etw := same_upd (o := .lst [.ref tw]) hlw _ _ (upd_same (H := H9) (a := tw) (o := .tup [.str "wipe", .str f0]))
    have elw : (upd (upd H9 tw (.tup [.str "wipe", .str f0])) lw (.lst [.ref tw])) lw = some (.lst [.ref tw]) := upd_same
    generalize upd (upd H9 tw (.tup [.str "wipe", .str f0])) lw (.lst [.ref tw]) = HA at *
    refine ⟨da, lw, xs, [.ref tw], rfl, rfl, sA _ _ hda9, elw, by rw [sizeLine_eq]; show _ + 1 ≤ _; omega, fun rl hrl => ?_⟩
    have sB := sA.trans (same_upd (o := .lst (xs ++ [.ref tw])) hrl)
    refine rowk (ds := ds ++ [[("wipe" : Str), f0]]) upd_same ?_ (by rw [List.length_append]; show _ + 1 ≤ _; omega) hok1 _ fun y2 HB hy2 smB hRB hNB => ?_
    · rw [List.map_append]
      exact dpAll_append (dpAll_same sB hd9) (.cons (dp_of_eT (l := [("wipe" : Str), f0]) (.inl (.inl (same_upd hrl _ _ etw)))) .nil)
    have sC := sB.trans smB
    refine ⟨mk, y2, _, z, Ms, _, none, rfl, hF9.same sC, hRB, hok1, by rw [List.length_append]; show _ + 1 ≤ _; omega, .int 99 (by rw [List.length_append]; show ¬ (_ ∧ _ < ((_ + 1 : Nat) : Int)); omega), fun _ _ => rfl, fun q1 HC hq1 smC eC => ?_⟩
    rw [hr1] at eC
    have sD := sC.trans smC
    refine ⟨.ref D1, rfl, D1, ws, 0, .str f0, rfl, rfl, .inl (.inl (sD _ _ hws)), atI_nat (j := 0) hf0, (show 2 ≤ sizeLine by decide), fun q2 hq2 => ?_⟩
    have sE := sD.trans (same_upd (o := .lst [.str "region", .str f0]) hq2)
    refine ⟨prD "region" (.str f0), prD "region" (.str f0), dp_prD (same_upd hq2 _ _ eC) (.str f0), dp_prD upd_same (.str f0), shR, shR, false, by rw [eqv_prS]; rfl, iteF ?_⟩
    generalize upd HC q2 (.lst [.str "region", .str f0]) = HE at *
    clear sD sC sB sA etw elw hrl hlw htw hq2 eC hq1 smC hRB hNB smB hy2
    -- another deed
    refine ⟨.ref mk, rfl, .ref D1, rfl, D1, ws, 0, .str f0, rfl, rfl, .inl (.inl (sE _ _ hws)), atI_nat (j := 0) hf0, (show 2 ≤ sizeLine by decide), fun tw2 htw2 => ⟨.ref tb, rfl, (show 2 ≤ sizeLine by decide), fun lw2 hlw2 => ?_⟩⟩
    have sF := (same_upd (o := .tup [.str "wipe", .str f0]) htw2).trans (same_upd (o := .lst [.ref tw2, .ref tb]) hlw2)
    have etw2 := same_upd (o := .lst [.ref tw2, .ref tb]) hlw2 _ _ (upd_same (H := HE) (a := tw2) (o := .tup [.str "wipe", .str f0]))
    refine rowk (ds := [[("wipe" : Str), f0], bd]) upd_same (.cons (dp_of_eT (l := [("wipe" : Str), f0]) (.inl (.inl etw2))) (.cons (dp_of_eT (sqT_same (sE.trans sF) hb29)) .nil)) (show 2 ≤ 30 by decide) (fun g hg => by
      simp only [List.mem_cons, List.not_mem_nil, or_false] at hg
      rcases hg with rfl | rfl
      · exact hdF
      · exact hb3) _ fun y3 HF hy3 smF hRF hNF => ?_
    have sG := (sE.trans sF).trans smF
    refine ⟨mk, y3, _, z, Ms, _, some 0, rfl, hF9.same sG, hRF, fun g hg => by
      simp only [List.mem_cons, List.not_mem_nil, or_false] at hg
      rcases hg with rfl | rfl
      · exact hdF
      · exact hb3, (show 2 ≤ 30 by decide), .ok 0 (show 0 < 2 by decide), fun h => ?_, fun q3 HG hq3 smG eG => ?_⟩
    · have h2 : badAt ([[("wipe" : Str), f0]] ++ bd :: []) = some 1 := badAt_hit (fun g hg => by rw [List.mem_singleton] at hg; rw [hg]; rfl) hb4
      rw [show [[("wipe" : Str), f0], bd] = [[("wipe" : Str), f0]] ++ bd :: [] from rfl, h2] at h
      cases h
    rw [hr2] at eG
    refine ⟨(show 2 ≤ sizeLine by decide), fun q4 hq4 => ?_⟩
    have sH := (sG.trans smG).trans (same_upd (o := .lst [.str "deed", .int 1]) hq4)
    refine ⟨prD "deed" (.int 1), prD "deed" (.int 1), dp_prD (same_upd hq4 _ _ eG) (.int 1), dp_prD upd_same (.int 1), shD 1, shD 1, false, by rw [eqv_prI]; rfl, iteF ?_⟩
    generalize upd HG q4 (.lst [.str "deed", .int 1]) = HH at *
    clear sG smG eG hq4 hq3 hRF hNF smF hy3 etw2 sF hlw2 htw2 sE
    -- the loop
    refine ⟨.ref da, rfl, da, xs, rfl, .inl (.inl (.inl (sH _ _ hda9))), _, 1, rfl, rfl, _, rfl, by omega, by omega, ?_⟩
    have en : ((xs.length : Int) + 1).toNat = ds.length + 1 := by omega
    rw [en]
    refine for_it (walk_range (lo := 0) (n := ds.length + 1)) (fun i σ H' => Same H9 H' ∧ ∃ a b, σ = [some (V.ref p), some (V.ref mk), some (V.ref na), some (V.ref da), some (V.ref y), some v, some (V.ref tb), some (V.ref D1), a, b, none]) ⟨sH, _, _, rfl⟩ (fun _ _ _ _ _ => trivial) (fun k vk σ K1 K2 hk pv yv => ?_) (fun σ K1 pv => ?_)
    · obtain ⟨s1, u0, u1, rfl⟩ := pv
      obtain ⟨rfl, hvk⟩ := yv
      replace hvk : vk = .int ((0 : Int) + (k : Nat)) := hvk
      rw [Int.zero_add] at hvk
      subst hvk
      have okA : ∀ g ∈ [bd] ++ ds ++ [bd], DeedOk g := fun g hg => by
        simp only [List.mem_append, List.mem_singleton] at hg
        rcases hg with (rfl | h) | rfl
        · exact hb3
        · exact hdeed g h
        · exact hb3
      have okB : ∀ g ∈ ds ++ [bd], DeedOk g := fun g hg => by
        simp only [List.mem_append, List.mem_singleton] at hg
        rcases hg with h | rfl
        · exact hdeed g h
        · exact hb3
      have okC : ∀ g ∈ [[("wipe" : Str), f0]] ++ ds ++ [[("wipe" : Str), z[0]]], DeedOk g := fun g hg => by
        simp only [List.mem_append, List.mem_singleton] at hg
        rcases hg with (rfl | h) | rfl
        · exact hdF
        · exact hdeed g h
        · exact wipeOk
      have lA : ([bd] ++ ds ++ [bd]).length = ds.length + 2 := by simp
      have lB : (ds ++ [bd]).length = ds.length + 1 := by simp
      have lC : ([[("wipe" : Str), f0]] ++ ds ++ [[("wipe" : Str), z[0]]]).length = ds.length + 2 := by simp
      -- first row
      refine ⟨.ref mk, rfl, .ref tb, rfl, (show 1 ≤ sizeLine by decide), fun a1 ha1 => ⟨.ref da, rfl, ?_⟩⟩
      have s2 := s1.trans (same_upd (o := .lst [.ref tb]) ha1)
      refine ⟨a1, da, [.ref tb], xs, rfl, rfl, upd_same, s2 _ _ hda9, by rw [sizeLine_eq]; show 1 + _ ≤ _; omega, fun a2 ha2 => ⟨.ref tb, rfl, (show 1 ≤ sizeLine by decide), fun a3 ha3 => ?_⟩⟩
      have s3 := s2.trans (same_upd (o := .lst ([.ref tb] ++ xs)) ha2)
      have s4 := s3.trans (same_upd (o := .lst [.ref tb]) ha3)
      refine ⟨a2, a3, [.ref tb] ++ xs, [.ref tb], rfl, rfl, same_upd ha3 _ _ upd_same, upd_same, by rw [List.length_append, sizeLine_eq]; show 1 + _ + 1 ≤ _; omega, fun a4 ha4 => ?_⟩
      have s5 := s4.trans (same_upd (o := .lst ([.ref tb] ++ xs ++ [.ref tb])) ha4)
      refine rowk (ds := [bd] ++ ds ++ [bd]) upd_same ?_ (by rw [lA]; omega) okA _ fun y4 K3 hy4 sm3 hR3 hN3 => ?_
      · rw [List.map_append, List.map_append]
        exact dpAll_append (dpAll_append (.cons (dp_of_eT (sqT_same s5 hb29)) .nil) (dpAll_same s5 hd9)) (.cons (dp_of_eT (sqT_same s5 hb29)) .nil)
      have s6 := s5.trans sm3
      refine ⟨.int (k : Nat), rfl, mk, y4, _, z, Ms, _, some k, rfl, hF9.same s6, hR3, okA, by rw [lA]; omega, .ok k (by rw [lA]; omega), fun h => ?_, fun r1 K4 hr1n sm4 e4 => ?_⟩
      · have h2 : badAt ([] ++ bd :: (ds ++ [bd])) = some 0 := badAt_hit (fun g hg => absurd hg List.not_mem_nil) hb4
        rw [show [bd] ++ ds ++ [bd] = [] ++ bd :: (ds ++ [bd]) from rfl, h2] at h
        cases h
      rw [hr3] at e4
      have s7 := s6.trans sm4
      -- second row
      refine ⟨.ref mk, rfl, .ref da, rfl, .ref tb, rfl, (show 1 ≤ sizeLine by decide), fun b1 hb1n => ?_⟩
      have t1' := s7.trans (same_upd (o := .lst [.ref tb]) hb1n)
      refine ⟨da, b1, xs, [.ref tb], rfl, rfl, t1' _ _ hda9, upd_same, by rw [sizeLine_eq]; show _ + 1 ≤ _; omega, fun b2 hb2n => ?_⟩
      have t2' := t1'.trans (same_upd (o := .lst (xs ++ [.ref tb])) hb2n)
      refine rowk (ds := ds ++ [bd]) upd_same ?_ (by rw [lB]; omega) okB _ fun y5 K5 hy5 sm5 hR5 hN5 => ?_
      · rw [List.map_append]
        exact dpAll_append (dpAll_same t2' hd9) (.cons (dp_of_eT (sqT_same t2' hb29)) .nil)
      have t3' := t2'.trans sm5
      refine ⟨.int (k : Nat), rfl, mk, y5, _, z, Ms, _, some k, rfl, hF9.same t3', hR5, okB, by rw [lB]; omega, .ok k (by rw [lB]; omega), fun h => ?_, fun r2 K6 hr2n sm6 e6 => ?_⟩
      · have h2 : badAt (ds ++ bd :: []) = some ds.length := badAt_hit hbg hb4
        rw [h2] at h
        cases h
      rw [hr4] at e6
      have t4' := t3'.trans sm6
      have e4' : K6 r1 = some (.lst [.str "deed", .int ((0 : Nat) : Int)]) := (((same_upd hb1n).trans (same_upd hb2n)).trans (sm5.trans sm6)) _ _ e4
      -- told
      refine ⟨(show 2 ≤ sizeLine by decide), fun tl htl => ?_⟩
      have w1 := same_upd (o := .lst [.ref r1, .ref r2]) htl
      refine ⟨.ref tl, rfl, (show 2 ≤ sizeLine by decide), fun m1 hm1 => ⟨.ref da, rfl, da, xs, rfl, .inl (.inl (.inl (((t4'.trans w1).trans (same_upd hm1)) _ _ hda9))), (show 2 ≤ sizeLine by decide), fun m2 hm2 => ⟨(show 2 ≤ sizeLine by decide), fun m3 hm3 => ?_⟩⟩⟩
      have w2 := w1.trans (same_upd (o := .lst [.str "deed", .int 0]) hm1)
      have w3 := w2.trans (same_upd (o := .lst [.str "deed", .int (xs.length : Nat)]) hm2)
      have w4 := w3.trans (same_upd (o := .lst [.ref m1, .ref m2]) hm3)
      have em1 := ((same_upd hm2).trans (same_upd (o := .lst [.ref m1, .ref m2]) hm3)) _ _ (upd_same (H := upd K6 tl (.lst [.ref r1, .ref r2])) (a := m1) (o := .lst [.str "deed", .int 0]))
      have em2 := same_upd (o := .lst [.ref m1, .ref m2]) hm3 _ _ (upd_same (H := upd (upd K6 tl (.lst [.ref r1, .ref r2])) m1 (.lst [.str "deed", .int 0])) (a := m2) (o := .lst [.str "deed", .int (xs.length : Nat)]))
      have etl := (((same_upd hm1).trans (same_upd hm2)).trans (same_upd (o := .lst [.ref m1, .ref m2]) hm3)) _ _ (upd_same (H := K6) (a := tl) (o := .lst [.ref r1, .ref r2]))
      have em3 : (upd (upd (upd (upd K6 tl (.lst [.ref r1, .ref r2])) m1 (.lst [.str "deed", .int 0])) m2 (.lst [.str "deed", .int (xs.length : Nat)])) m3 (.lst [.ref m1, .ref m2])) m3 = some (.lst [.ref m1, .ref m2]) := upd_same
      generalize upd (upd (upd (upd K6 tl (.lst [.ref r1, .ref r2])) m1 (.lst [.str "deed", .int 0])) m2 (.lst [.str "deed", .int (xs.length : Nat)])) m3 (.lst [.ref m1, .ref m2]) = K7 at *
      have shDD : SeqAt.shaped (.list ([PyData.int 0, PyData.int (ds.length : Nat)].map (prD "deed"))) = true := sh_list (fun d hd => by
        simp only [List.mem_cons, List.not_mem_nil, or_false] at hd
        have h0 : PyData.strOk "deed" = true := by decide +kernel
        rcases hd with rfl | rfl
        · show (PyData.strOk "deed" && (true && true)) = true
          rw [h0]
          rfl
        · show (PyData.strOk "deed" && (true && true)) = true
          rw [h0]
          rfl) (fun d hd => by
        simp only [List.mem_cons, List.not_mem_nil, or_false] at hd
        rcases hd with rfl | rfl
        · show 0 + 1 ≤ 10
          decide
        · show 0 + 1 ≤ 10
          decide)
      refine ⟨.list ([PyData.int 0, PyData.int (ds.length : Nat)].map (prD "deed")), .list ([PyData.int 0, PyData.int (ds.length : Nat)].map (prD "deed")), .lst (.inl (.inl etl)) (.cons (dp_prD (w4 _ _ e4') (.int 0)) (.cons (dp_prD (w4 _ _ e6) (.int _)) .nil)), .lst (.inl (.inl em3)) (.cons (dp_prD em1 (.int 0)) (.cons (dp_prD (by rw [hxl] at em2; exact em2) (.int _)) .nil)), shDD, shDD, false, ?_, iteF ?_⟩
      · have : PyData.eqv (.list ([PyData.int 0, PyData.int (ds.length : Nat)].map (prD "deed"))) (.list ([PyData.int 0, PyData.int (ds.length : Nat)].map (prD "deed"))) = true := by
          simp [prD, PyData.eqv, PyData.eqvAll]
        rw [this]
        rfl
      have t5' := t4'.trans w4
      clear em1 em2 em3 etl w1 w2 w3 w4 hm1 hm2 hm3 htl e6 e4' e4 t4' t3' t2' t1' s7 s6 s5 s4 s3 s2 hR3 hN3 hR5 hN5
      -- third row
      refine ⟨.ref mk, rfl, .ref D1, rfl, D1, ws, 0, .str f0, rfl, rfl, .inl (.inl (t5' _ _ hws)), atI_nat (j := 0) hf0, (show 2 ≤ sizeLine by decide), fun c1 hc1 => ⟨(show 1 ≤ sizeLine by decide), fun c2 hc2 => ⟨.ref da, rfl, ?_⟩⟩⟩
      have v1 := t5'.trans (same_upd (o := .tup [.str "wipe", .str f0]) hc1)
      have v2 := v1.trans (same_upd (o := .lst [.ref c1]) hc2)
      have ec1 := same_upd (o := .lst [.ref c1]) hc2 _ _ (upd_same (H := K7) (a := c1) (o := .tup [.str "wipe", .str f0]))
      refine ⟨c2, da, [.ref c1], xs, rfl, rfl, upd_same, v2 _ _ hda9, by rw [sizeLine_eq]; show 1 + _ ≤ _; omega, fun c3 hc3 => ?_⟩
      have v3 := v2.trans (same_upd (o := .lst ([.ref c1] ++ xs)) hc3)
      have ec1' := same_upd (o := .lst ([.ref c1] ++ xs)) hc3 _ _ ec1
      have ec3 : (upd (upd (upd K7 c1 (.tup [.str "wipe", .str f0])) c2 (.lst [.ref c1])) c3 (.lst ([.ref c1] ++ xs))) c3 = some (.lst ([.ref c1] ++ xs)) := upd_same
      generalize upd (upd (upd K7 c1 (.tup [.str "wipe", .str f0])) c2 (.lst [.ref c1])) c3 (.lst ([.ref c1] ++ xs)) = K8 at *
      refine ⟨.ref na, rfl, na, _, 0, .str z[0], rfl, rfl, sqL_same v3 hs9, atI_nat (j := 0) (strs_get hzl), (show 2 ≤ sizeLine by decide), fun c4 hc4 => ⟨(show 1 ≤ sizeLine by decide), fun c5 hc5 => ?_⟩⟩
      have v4 := (same_upd (o := .tup [.str "wipe", .str z[0]]) hc4).trans (same_upd (o := .lst [.ref c4]) hc5)
      have ec4 := same_upd (o := .lst [.ref c4]) hc5 _ _ (upd_same (H := K8) (a := c4) (o := .tup [.str "wipe", .str z[0]]))
      have ec5 : (upd (upd K8 c4 (.tup [.str "wipe", .str z[0]])) c5 (.lst [.ref c4])) c5 = some (.lst [.ref c4]) := upd_same
      generalize upd (upd K8 c4 (.tup [.str "wipe", .str z[0]])) c5 (.lst [.ref c4]) = K9 at *
      refine ⟨c3, c5, [.ref c1] ++ xs, [.ref c4], rfl, rfl, v4 _ _ ec3, ec5, by rw [List.length_append, sizeLine_eq]; show 1 + _ + 1 ≤ _; omega, fun c6 hc6 => ?_⟩
      have v5 := (v3.trans v4).trans (same_upd (o := .lst ([.ref c1] ++ xs ++ [.ref c4])) hc6)
      have v45 := v4.trans (same_upd (o := .lst ([.ref c1] ++ xs ++ [.ref c4])) hc6)
      refine rowk (ds := [[("wipe" : Str), f0]] ++ ds ++ [[("wipe" : Str), z[0]]]) upd_same ?_ (by rw [lC]; omega) okC _ fun y6 KA hy6 smA hRA hNA => ?_
      · rw [List.map_append, List.map_append]
        exact dpAll_append (dpAll_append (.cons (dp_of_eT (l := [("wipe" : Str), f0]) (.inl (.inl (v45 _ _ ec1')))) .nil) (dpAll_same v5 hd9)) (.cons (dp_of_eT (l := [("wipe" : Str), z[0]]) (.inl (.inl (same_upd hc6 _ _ ec4)))) .nil)
      have v6 := v5.trans smA
      refine ⟨.int (k : Nat), rfl, mk, y6, _, z, Ms, _, some k, rfl, hF9.same v6, hRA, okC, by rw [lC]; omega, .ok k (by rw [lC]; omega), fun _ h => ?_, fun r3 KB hr3n smB eB => ?_⟩
      · have h2 : unk z ([] ++ [("wipe" : Str), f0] :: (ds ++ [[("wipe" : Str), z[0]]])) = some f0 := unk_hit (fun g hg => absurd hg List.not_mem_nil) hf1
        rw [show [[("wipe" : Str), f0]] ++ ds ++ [[("wipe" : Str), z[0]]] = [] ++ [("wipe" : Str), f0] :: (ds ++ [[("wipe" : Str), z[0]]]) from rfl, h2] at h
        cases h
      rw [hr5] at eB
      have v7 := v6.trans smB
      refine ⟨.ref D1, rfl, D1, ws, 0, .str f0, rfl, rfl, .inl (.inl (v7 _ _ hws)), atI_nat (j := 0) hf0, (show 2 ≤ sizeLine by decide), fun q5 hq5 => ?_⟩
      exact ⟨prD "region" (.str f0), prD "region" (.str f0), dp_prD (same_upd hq5 _ _ eB) (.str f0), dp_prD upd_same (.str f0), shR, shR, false, by rw [eqv_prS]; rfl, iteF ⟨v7.trans (same_upd hq5), _, _, rfl⟩⟩
    · obtain ⟨s1, u0, u1, rfl⟩ := pv
      exact q _ (b9.trans (But.of_same s1))
end
end Cw
end
section
namespace Cw
open PySem PySem.Spec PyProof.Rows L2
theorem sqL_new {K : PySem.W.Frag} {H H1 H2 : Hp} {p a : Addr} {xs : List V} (h : SqL K H a xs) (hp : H p = none) (s : Same H H1) (bu : But p H1 H2) : SqL K H2 a xs := by
  by_cases e : a = p
  · rcases h with h | h
    · exfalso
      subst e
      rcases h with h | ⟨o, h⟩ <;> rw [hp] at h <;> cases h
    · exact .inr h
  · exact sqL_but bu e (sqL_same s h)
theorem PL.but {H H' : Hp} {p : Addr} (bu : But p H H') (hp : Pile H p) (v : V) (l : List Str) (h : PL H v l) : PL H' v l := by
  obtain ⟨a, h1, h2⟩ := h
  refine ⟨a, h1, bu.at (fun e => ?_) h2⟩
  obtain ⟨g, c, k, hh⟩ := hp
  rw [e, hh] at h2
  have h3 := HO.lst.inj (Option.some.inj h2)
  cases l with
  | nil => cases h3
  | cons x t => cases h3
theorem cov_len {z : List Str} {Ms : List Nat} {ds : List (List Str)} {k : Nat} {l : List Nat} (h : covM z Ms ds k = some l) : l.length ≤ 2 := by
  unfold covM at h
  split at h
  · cases h
    decide
  · rw [Option.or_eq_some_iff] at h
    rcases h with h | ⟨_, h⟩
    · obtain ⟨j, _, hj⟩ := List.exists_of_findSome?_eq_some h
      unfold one1 at hj
      split at hj
      · cases hj
        exact (show 1 ≤ 2 by decide)
      · cases hj
    · obtain ⟨j, _, hj⟩ := List.exists_of_findSome?_eq_some h
      obtain ⟨i, _, hi⟩ := List.exists_of_findSome?_eq_some hj
      unfold two2 at hi
      split at hi
      · cases hi
        exact (show 2 ≤ 2 by decide)
      · cases hi
section
variable {P : Program} {w : World} {K : PySem.W.Frag} {mg : Str → Option Value} {base : Heap}
def spLaw (K : PySem.W.Frag) : Sp := fun vs H Q _ => ∃ (a : Addr) (ns : List Int), vs = [.ref a] ∧ SqL K H a (ns.map V.int) ∧ ∀ H', Q (.bl true) H'
theorem ok_law {f : Addr} {fd : FuncData} (F : L2.Fun K "law" "law" s_law f fd) (T : Txt K mg w) (c_take : C8.Cal P w K mg base 2 "_law_take" spTake []) (c_pile : C8.Cal P w K mg base 1 "_law_pile" (spPile K) []) (c_names : C8.Cal P w K mg base 3 "_law_names" spNames []) (c_held : C8.Cal P w K mg base 4 "_law_held" (spHeld K) [])
    (c_possible : C8.Cal P w K mg base 2 "_law_possible" (spPoss K) []) (c_colours : C8.Cal P w K mg base 4 "_law_colours" spColours []) (c_coats : C8.Cal P w K mg base 3 "_law_coats" (spCoats2 K) []) (c_Facts : C8.Mak P w K mg base 4 "Facts" (He.ga K "Facts") (spFInit K) [])
    (c_Row : C8.Mak P w K mg base 3 "Row" (He.ga K "Row") (spRInit K) []) (c_due : C8.Cal P w K mg base 1 "_law_due" (spDue K) []) (c_covered : C8.Cal P w K mg base 1 "_law_covered" (spCovered K) []) (c_covers : CalX P w K mg base 5 "covers" (spCovers K))
    (c_many : C8.Cal P w K mg base 6 "_law_many_right" spMany []) (c_twice : C8.Cal P w K mg base 6 "_law_twice_right" (spTwice K) []) (c_doors : CalG P w K mg base 7 "_law_doors_right" (spDoors K)) : FnG P w K mg base CX0 8 f fd ["_law_script"] (spLaw K) := by
  refine fnG_of F sc_law (fun vs H Q E h => ?_) (fun cdv A outer s H vs Q E hgd hr h => ?_)
  · obtain ⟨a, b, rfl, _⟩ := h
    rfl
  · obtain ⟨a, ns, rfl, hs, q⟩ := h
    have nd := sc_law.nd
    refine ⟨_, (pss_cons (ps_if (pt_not (pt_val (C8.pe_c c_many hr (by decide) rfl (pa_cons (C8.pe_c c_pile hr (by decide) rfl (pa_cons (pv 0) (pa_cons pe_int pa_nil))) pa_nil))))
      (pss_one (ps_ret pe_bl))
      pss_nil)
    (pss_cons (ps_for (passes_of rfl) rfl (pi_range1 rfl T.b_range (pa_cons pe_int pa_nil)) (pg_name (i := 1) nd rfl (.inl rfl))
      (pss_cons (ps_set (i := 2) nd rfl (.inl rfl) (C8.pe_c c_pile hr (by decide) rfl (pa_cons (pv 0) (pa_cons (pv 1) pa_nil))))
      (pss_cons (ps_set (i := 3) nd rfl (.inl rfl) (C8.pe_c c_names hr (by decide) rfl (pa_cons (pv 2) (pa_cons (pe_op op_add pe_int (C8.pe_c c_take hr (by decide) rfl (pa_cons (pv 2) (pa_cons pe_int pa_nil)))) pa_nil))))
      (pss_cons (ps_set (i := 4) nd rfl (.inl rfl) (C8.pe_c c_held hr (by decide) rfl (pa_cons (pv 2) (pa_cons (pv 3) (pa_cons pe_int pa_nil)))))
      (pss_cons (ps_set (i := 5) nd rfl (.inl rfl) (C8.pe_c c_possible hr (by decide) rfl (pa_cons (pv 3) (pa_cons (pv 4) pa_nil))))
      (pss_cons (ps_set (i := 6) nd rfl (.inl rfl) (C8.pe_c c_colours hr (by decide) rfl (pa_cons (pv 2) pa_nil)))
      (pss_cons (ps_set (i := 7) nd rfl (.inl rfl) (C8.pe_c c_coats hr (by decide) rfl (pa_cons (pv 2) (pa_cons (pv 3) (pa_cons (pv 6) (pa_cons pe_int pa_nil))))))
      (pss_cons (ps_par (i := 8) (j := 9) (by rfl) nd rfl rfl (by decide) rfl rfl (pa_cons (C8.pe_mk c_Facts hr (by decide) rfl (pa_cons (pv 3) (pa_cons (pv 4) pa_nil))) (pa_cons (C8.pe_mk c_Row hr (by decide) rfl (pa_cons (pv 7) pa_nil)) pa_nil)) (by rfl))
      (pss_cons (ps_for (passes_of rfl) rfl (pi_range1 rfl T.b_range (pa_cons (pe_callB call_len_seq (by rfl) T.b_len boot_len (pa_cons (pv 7) pa_nil)) pa_nil)) (pg_name (i := 10) nd rfl (.inl rfl))
        (pss_cons (ps_set (i := 11) nd rfl (.inl rfl) (C8.pe_c c_due hr (by decide) rfl (pa_cons (pv 5) (pa_cons (pv 7) (pa_cons (pv 10) pa_nil)))))
        (pss_cons (ps_if (pt_cmpR op_eq (pe_cmpR op_isN (pv 11) pe_non (nomark _)) (C8.pe_c c_covered hr (by decide) rfl (pa_cons (pv 5) (pa_cons (pv 7) (pa_cons (pv 10) pa_nil)))) (nomark _))
          (pss_one (ps_ret pe_bl))
          pss_nil)
        (pss_one (ps_for (passes_of rfl) rfl (pi_range1 rfl T.b_range (pa_cons pe_int pa_nil)) (pg_name (i := 12) nd rfl (.inl rfl))
          (pss_cons (ps_set (i := 13) nd rfl (.inl rfl) (pe_cx0 c_covers hr (by decide) rfl (pa_cons (pv 8) (pa_cons (pv 9) (pa_cons (pv 10) pa_nil)))))
          (pss_cons (ps_if (pt_cmpR (op_neD (hu64 hr)) (pv 13) (pv 11) (nomark _))
            (pss_one (ps_ret pe_bl))
            pss_nil)
          (pss_one (ps_if (pt_cmpR op_notN (pv 13) pe_non (nomark _))
            (pss_one (ps_expr (pe_bm PySem.F.plainAttrs_list PySem.F.slot_list_append PySem.F.type_list_append mt_append (pv 13) (pa_cons pe_int pa_nil))))
            pss_nil)))))))))
      (pss_cons (ps_if (pt_not (pt_val (C8.pe_c c_twice hr (by decide) rfl (pa_cons (pv 2) (pa_cons (pv 3) (pa_cons (pv 4) (pa_cons (pv 9) pa_nil)))))))
        (pss_one (ps_ret pe_bl))
        pss_nil)
      (pss_one (ps_if (pt_not (pt_val (pe_cG c_doors hgd hr (by decide) rfl (pa_cons (pv 2) (pa_cons (pv 8) (pa_cons (pv 3) (pa_cons (pv 7) pa_nil)))))))
        (pss_one (ps_ret pe_bl))
        pss_nil))))))))))))
    (pss_one (ps_ret pe_bl)))), ?_⟩
    -- many
    refine ⟨.ref a, rfl, a, ns, 4, rfl, hs, fun p0 H1 hp0 sm1 hp1 => ⟨p0, rfl, hp1, fun H2 bu2 => ⟨true, rfl, iteF ?_⟩⟩⟩
    have hs2 := sqL_new hs hp0 sm1 bu2
    clear hp1 bu2 sm1 hp0
    refine ⟨4, rfl, by decide, by decide, ?_⟩
    refine for_it (walk_range (lo := 0) (n := 4)) (fun i σ H' => SqL K H' a (ns.map V.int) ∧ ∃ x1 x2 x3 x4 x5 x6 x7 x8 x9 x10 x11 x12 x13, σ = [some (V.ref a), x1, x2, x3, x4, x5, x6, x7, x8, x9, x10, x11, x12, x13]) ⟨hs2, _, _, _, _, _, _, _, _, _, _, _, _, _, rfl⟩ (fun _ _ _ _ _ => trivial) (fun i v σ H3 H4 hi pv yv => ?_) (fun σ H3 pv => ?_)
    · obtain ⟨hs4, x1, x2, x3, x4, x5, x6, x7, x8, x9, x10, x11, x12, x13, rfl⟩ := pv
      obtain ⟨rfl, hv⟩ := yv
      replace hv : v = .int ((0 : Int) + (i : Nat)) := hv
      rw [Int.zero_add] at hv
      subst hv
      refine ⟨.ref a, rfl, .int (i : Nat), rfl, a, ns, i, rfl, hs4, fun p H5 hpn sm5 hp5 => ?_⟩
      -- names
      refine ⟨.ref p, rfl, .ref p, rfl, p, 7, rfl, hp5, by decide, by decide, fun d H6 hd bu6 hp6 => ⟨_, _, rfl, rfl, ?_⟩⟩
      refine ⟨p, 1 + d, (by rw [show ((1 + d : Nat) : Int) = (1 : Int) + (d : Nat) by omega]; rfl), hp6, by omega, by omega, fun na H7 z hnan bu7 hp7 hz hnal => ?_⟩
      have hnp : na ≠ p := hp6.ne hnan
      have hz7 : z.length ≤ 7 := by have := hz.len; omega
      have hz0 : z ≠ [] := fun e => by have := hz.len; rw [e] at this; exact absurd this (by show ¬ (0 = 1 + d); omega)
      have b7 := bu6.trans bu7
      clear bu6 bu7 hp6 hp5 hnan
      -- facts
      refine ⟨.ref p, rfl, .ref na, rfl, p, na, 12, z, rfl, hp7, hnp, .inl (.inl hnal), hz0, hz7, hz.ok, by decide, fun fa H8 xs fs hfan bu8 hp8 hfal hfd hok hfl hP => ?_⟩
      have hfp : fa ≠ p := hp7.ne hfan
      have hnal8 := bu8.at hnp hnal
      have b8 := b7.trans bu8
      clear bu8 b7 hnal hfan hp7
      -- patches
      refine ⟨.ref na, rfl, .ref fa, rfl, na, fa, z, xs, fs, rfl, .inl (.inl hnal8), hz7, hz.ok, .inl (.inl hfal), hfd, hok, by omega, fun pq H9 ys hpqn sm9 hpql hys hysl => ?_⟩
      have hpp : pq ≠ p := hp8.ne hpqn
      have hp9 := hp8.same sm9
      have hnal9 := sm9 _ _ hnal8
      have hfal9 := sm9 _ _ hfal
      have hfd9 := dpAll_same sm9 hfd
      have b9 := b8.trans (But.of_same sm9)
      clear sm9 hfd hfal hnal8 b8 hp8 hpqn
      -- colours
      refine ⟨.ref p, rfl, p, rfl, hp9, fun ca H10 cs hcan bu10 hp10 hcal hc1 hc3 hcv => ?_⟩
      have hcp : ca ≠ p := hp9.ne hcan
      have hpql10 := bu10.at hpp hpql
      have hys10 := pa_mono (PL.but bu10 hp9) hys
      have hnal10 := bu10.at hnp hnal9
      have hfal10 := bu10.at hfp hfal9
      have hfd10 := dpAll_fx (fx_but bu10 hp9) (fDs fs) hfd9
      have b10 := b9.trans bu10
      clear bu10 b9 hnal9 hfal9 hfd9 hys hpql hcan hp9
      -- deeds
      refine ⟨.ref p, rfl, .ref na, rfl, .ref ca, rfl, p, na, ca, 10, z, cs, rfl, hp10, hnp, hcp, .inl (.inl hnal10), hz0, by omega, .inl (.inl hcal), (fun e => by rw [e] at hc1; cases hc1), by omega, hcv, by decide, fun da H11 dxs ds hdan bu11 hp11 hdal hdd hco hdl => ?_⟩
      have hdp : da ≠ p := hp10.ne hdan
      have hpql11 := bu11.at hpp hpql10
      have hys11 := pa_mono (PL.but bu11 hp10) hys10
      have hnal11 := bu11.at hnp hnal10
      have hfal11 := bu11.at hfp hfal10
      have hfd11 := dpAll_fx (fx_but bu11 hp10) (fDs fs) hfd10
      have b11 := b10.trans bu11
      clear bu11 b10 hnal10 hfal10 hfd10 hys10 hpql10 hdan hp10 hcal hcv hc1 hc3 hcp
      -- Facts and Row
      refine ⟨.ref na, rfl, .ref fa, rfl, fun x dx hx0 hdx0 hne => ?_⟩
      have spre := mk_pre (o := .ins (He.ga K "Facts") dx []) hx0 hdx0
      refine ⟨x, dx, na, fa, z, xs, fs, rfl, upd_same, .inl (.inl (spre _ _ hnal11)), (List.length_pos_iff.mpr hz0), by omega, hz.ok, hz.nd, .inl (.inl (spre _ _ hfal11)), dpAll_same spre hfd11, by omega, hok, no_contra hok hP, fun H12 Ms bu hF hM => ⟨rfl, ?_⟩⟩
      have s12 := mk_same hx0 hdx0 bu
      have hdeed : ∀ d ∈ ds, DeedOk d := fun d hd => coat_deed hz.ok (hco d hd)
      refine ⟨.ref da, rfl, rowk (s12 _ _ hdal) (dpAll_same s12 hdd) (by omega) hdeed _ fun r H13 hrn sm13 hR hN => ?_⟩
      have s13 := s12.trans sm13
      have hF13 := hF.same sm13
      have hdal13 := s13 _ _ hdal
      have hdd13 := dpAll_same s13 hdd
      have hnal13 := s13 _ _ hnal11
      have hfal13 := s13 _ _ hfal11
      have hfd13 := dpAll_same s13 hfd11
      have hpql13 := s13 _ _ hpql11
      have hys13 := pa_mono (fun v l h => PL.same _ _ v l s13 h) hys11
      have hp13 := hp11.same s13
      have b13 := b11.trans (But.of_same s13)
      clear s13 s12 bu spre hx0 hdx0 hne hrn sm13 hF hdal hdd hnal11 hfal11 hfd11 hpql11 hys11 hp11 b11
      have hdxl : dxs.length = ds.length := by rw [dpAll_len hdd13, List.length_map]
      -- each deed
      refine ⟨_, _, rfl, ?_⟩
      refine ⟨.ref da, rfl, da, dxs, rfl, .inl (.inl (.inl hdal13)), _, rfl, by omega, by omega, ?_⟩
      rw [Int.toNat_natCast, hdxl]
      have hregt : ∀ d ∈ ds, reg d ∈ z := fun d hd => coat_reg (hco d hd)
      have hbn := badAt_none fun d hd => coat_bad (hco d hd)
      have hun := unk_none hregt
      refine for_it (walk_range (lo := 0) (n := ds.length)) (fun k σ H' => Same H13 H' ∧ ∃ y10 y11 y12 y13, σ = [some (V.ref a), some (V.int (i : Nat)), some (V.ref p), some (V.ref na), some (V.ref fa), some (V.ref pq), some (V.ref ca), some (V.ref da), some (V.ref x), some (V.ref r), y10, y11, y12, y13]) ⟨Same.refl _, _, _, _, _, rfl⟩ (fun _ _ _ _ _ => trivial) (fun k v σ H14 H15 hk pv yv => ?_) (fun σ H14 pv => ?_)
      · obtain ⟨s14, y10, y11, y12, y13, rfl⟩ := pv
        obtain ⟨rfl, hv⟩ := yv
        replace hv : v = .int ((0 : Int) + (k : Nat)) := hv
        rw [Int.zero_add] at hv
        subst hv
        have hsokp : SokA (possM z fs) := fun p hp x hx => sok_valid (hz.ok x (allP_mem (mem_poss.mp hp).1 x hx))
        refine ⟨.ref pq, rfl, .ref da, rfl, .int (k : Nat), rfl, pq, da, k, ys, dxs, possM z fs, ds, rfl, .inl (.inl (s14 _ _ hpql13)), pa_mono (fun v l h => PL.same _ _ v l s14 h) hys13, by omega, hsokp, .inl (.inl (s14 _ _ hdal13)), dpAll_same s14 hdd13, fun d hd => coat_ne (hco d hd), hk, by omega, fun v H16 hA => ?_⟩
        have s16 := s14.trans (ans_same hA)
        refine ⟨v, rfl, rfl, .ref pq, rfl, .ref da, rfl, .int (k : Nat), rfl, pq, da, k, ys, dxs, possM z fs, ds, rfl, .inl (.inl (s16 _ _ hpql13)), pa_mono (fun v l h => PL.same _ _ v l s16 h) hys13, by omega, .inl (.inl (s16 _ _ hdal13)), dpAll_same s16 hdd13, fun d hd => coat_ne (hco d hd), fun d hd => coat_sok hz.ok (hco d hd), hk, by omega, fun H17 sm17 => ⟨rfl, ?_⟩⟩
        have hdc := due_covered hM hok (by omega) hP (rg_in hregt) hk
        have hvn : decide (v = V.non) = (dueM (possM z fs) ds k).isNone := by
          unfold AnsV at hA
          cases e : dueM (possM z fs) ds k with
          | none =>
            rw [e] at hA
            rw [hA.1]
            rfl
          | some l =>
            rw [e] at hA
            obtain ⟨t, rfl, _⟩ := hA
            rfl
        have s17 := s16.trans sm17
        have hdue : Dp K H17 v (oD (dueM (possM z fs) ds k)) := dp_same sm17 (ans_dp hA)
        refine ⟨_, rfl, ?_⟩
        rw [hvn, hdc, decide_eq_false (by cases coveredM (possM z fs) ds k <;> simp)]
        refine iteF ?_
        clear hA hvn hdc s16 sm17 s14
        have ecd := cov_due hM hok (by omega) hP (rg_in hregt) hk
        refine ⟨2, rfl, by decide, by decide, ?_⟩
        refine for_it (walk_range (lo := 0) (n := 2)) (fun j σ H' => Same H17 H' ∧ ∃ y12 y13, σ = [some (V.ref a), some (V.int (i : Nat)), some (V.ref p), some (V.ref na), some (V.ref fa), some (V.ref pq), some (V.ref ca), some (V.ref da), some (V.ref x), some (V.ref r), some (V.int (k : Nat)), some v, y12, y13]) ⟨Same.refl _, _, _, rfl⟩ (fun _ _ _ _ _ => trivial) (fun j w σ H18 H19 hj pv yv => ?_) (fun σ H18 pv => ?_)
        · obtain ⟨s18, y12, y13, rfl⟩ := pv
          obtain ⟨rfl, hw⟩ := yv
          replace hw : w = .int ((0 : Int) + (j : Nat)) := hw
          rw [Int.zero_add] at hw
          subst hw
          have s19 := s17.trans s18
          refine ⟨.ref x, rfl, .ref r, rfl, .int (k : Nat), rfl, x, r, _, z, Ms, ds, some k, rfl, hF13.same s19, hR.same s19, hdeed, by omega, .ok k hk, fun i h => ?_, fun x _ h => ?_, fun _ _ h => ?_, fun k' _ _ hkk u H20 hA => ?_⟩
          · rw [hbn] at h
            cases h
          · rw [hun] at h
            cases h
          · cases h
          have ek : k = k' := Option.some.inj hkk
          subst ek
          have sA := ans_same hA
          refine ⟨u, rfl, v, rfl, oD (covM z Ms ds k), oD (dueM (possM z fs) ds k), ans_dp hA, dp_same (s18.trans sA) hdue, sh_oD _, sh_oD _, false, ?_, iteF ?_⟩
          · rw [ecd, eqv_oD, decide_eq_true rfl]
            rfl
          refine ⟨u, rfl, rfl, ?_⟩
          unfold AnsV at hA
          cases e : covM z Ms ds k with
          | none =>
            rw [e] at hA
            rw [hA.1]
            refine ⟨_, rfl, iteF ⟨s18.trans sA, _, _, rfl⟩⟩
          | some l =>
            rw [e] at hA
            obtain ⟨t, rfl, ht1, ht2, ht3⟩ := hA
            have hl2 := cov_len e
            refine ⟨_, rfl, iteT ?_⟩
            refine ⟨.ref t, rfl, .inl ⟨rfl, _, .inl (.inl ht3)⟩, t, _, _, rfl, rfl, ht3, ?_, ?_⟩
            · rw [List.length_map, sizeLine_eq]
              omega
            · exact ⟨s18.trans (same_mut sA ht1), _, _, rfl⟩
        · obtain ⟨s18, y12, y13, rfl⟩ := pv
          exact ⟨s17.trans s18, _, _, _, _, rfl⟩
      · obtain ⟨s14, y10, y11, y12, y13, rfl⟩ := pv
        refine ⟨.ref p, rfl, .ref na, rfl, .ref fa, rfl, .ref r, rfl, .ref p, na, fa, r, z, xs, fs, ds, rfl, .inl (.inl (s14 _ _ hnal13)), hz0, hz7, hz.ok, hz.nd, .inl (.inl (s14 _ _ hfal13)), dpAll_same s14 hfd13, hok, hfl, hP, hR.same s14, hN.same s14, hco, hdl, fun H15 sm15 => ⟨true, rfl, iteF ?_⟩⟩
        have s15 := s14.trans sm15
        refine ⟨.ref p, rfl, .ref x, rfl, .ref na, rfl, .ref da, rfl, p, x, na, da, z, Ms, dxs, ds, rfl, hp13.same s15, hnp, hdp, hF13.same s15, .inl (.inl (s15 _ _ hnal13)), hz0, hz.ok, hz.free, s15 _ _ hdal13, dpAll_same s15 hdd13, hco, hdl, fun H16 bu16 => ⟨true, rfl, iteF ?_⟩⟩
        exact ⟨sqL_new hs4 hpn sm5 ((b13.trans (But.of_same s15)).trans bu16), _, _, _, _, _, _, _, _, _, _, _, _, _, rfl⟩
    · obtain ⟨_, x1, x2, x3, x4, x5, x6, x7, x8, x9, x10, x11, x12, x13, rfl⟩ := pv
      exact q _
end
end Cw
end
section
namespace Cw
open PySem PySem.Spec PyProof.Rows L2
section
variable {P : Program} {w : World} {K : PySem.W.Frag} {h : Heap} {mg : Str → Option Value}
theorem fun_of {x qual : Str} {st : Stmt} {f : Addr} {fd : FuncData} (F : FunD K x qual (defArgs st) (defBody st) (defScope st) [] [] f fd) : L2.Fun K x qual st f fd := by
  obtain ⟨oc, od, dV, kV, doc, pm, an, cdv, ct, osl, e, lk, hc, hD, _⟩ := F.ex
  rcases hD with ⟨_, rfl⟩ | ⟨z, _⟩
  · exact ⟨⟨oc, od, kV, doc, pm, an, cdv, ct, osl, e, lk, hc⟩, F.kp⟩
  · exact absurd rfl z
theorem dfn_of {x : Str} {st : Stmt} {ps : List Str} (F : ∃ fd, FunD K x x (defArgs st) (defBody st) (defScope st) [] [] (He.ga K x) fd) (g : mg x = some (.ref (He.ga K x)))
    (b : ∀ (kV doc pm : Value) (an : Option Addr) (cdv ct : Value) (us : List Value), us.length = ps.length → bindArgs (PySem.W.fnOf x x (defArgs st) (defBody st) (defScope st) .none kV doc pm an cdv ct) ⟨us, []⟩ = pure (ps.zip us)) : Dfn K mg x st ps := by
  obtain ⟨fd, F⟩ := F
  exact ⟨_, fd, fun_of F, g, F.bindsN b⟩
theorem mtd_of {C : Addr} {m q : Str} {st : Stmt} {ps : List Str} (F : ∃ fd, FunD K m q (defArgs st) (defBody st) (defScope st) [] [] (He.ma K C m) fd)
    (b : ∀ (kV doc pm : Value) (an : Option Addr) (cdv ct : Value) (us : List Value), us.length = ps.length → bindArgs (PySem.W.fnOf m q (defArgs st) (defBody st) (defScope st) .none kV doc pm an cdv ct) ⟨us, []⟩ = pure (ps.zip us)) : Mtd K C m q st ps := by
  obtain ⟨fd, F⟩ := F
  exact ⟨fd, fun_of F, F.bindsN b⟩
theorem D_ok_is_name (X : K.In h) (G : h.Ns mainGlobals mg) (c : He.SaysX fal fnl tabs [] exB w h K) : Dfn K mg "is_name" s_is_name ["thing"] := (dfn_of (c.t.d.def_ 1 (d := dl "is_name" s_is_name) rfl) (He.glo_ok X G (c.t.d.fact 1 (f := .glo "is_name") rfl)) (fun _ _ _ _ _ _ us hl => match us, hl with | [_], _ => rfl))
theorem D_ok_regs (X : K.In h) (G : h.Ns mainGlobals mg) (c : He.SaysX fal fnl tabs [] exB w h K) : Dfn K mg "checked_regions" s_checked_regions ["regions"] := (dfn_of (c.t.d.def_ 0 (d := dl "checked_regions" s_checked_regions) rfl) (He.glo_ok X G (c.t.d.fact 0 (f := .glo "checked_regions") rfl)) (fun _ _ _ _ _ _ us hl => match us, hl with | [_], _ => rfl))
theorem D_ok_is_region (X : K.In h) (G : h.Ns mainGlobals mg) (c : He.SaysX fal fnl tabs [] exB w h K) : Dfn K mg "is_region" s_is_region ["places", "thing"] := (dfn_of (c.t.d.def_ 2 (d := dl "is_region" s_is_region) rfl) (He.glo_ok X G (c.t.d.fact 2 (f := .glo "is_region") rfl)) (fun _ _ _ _ _ _ us hl => match us, hl with | [_, _], _ => rfl))
theorem D_ok_is_fact (X : K.In h) (G : h.Ns mainGlobals mg) (c : He.SaysX fal fnl tabs [] exB w h K) : Dfn K mg "is_fact" s_is_fact ["places", "thing"] := (dfn_of (c.t.d.def_ 3 (d := dl "is_fact" s_is_fact) rfl) (He.glo_ok X G (c.t.d.fact 3 (f := .glo "is_fact") rfl)) (fun _ _ _ _ _ _ us hl => match us, hl with | [_, _], _ => rfl))
theorem D_ok_facts (X : K.In h) (G : h.Ns mainGlobals mg) (c : He.SaysX fal fnl tabs [] exB w h K) : Dfn K mg "checked_facts" s_checked_facts ["places", "facts"] := (dfn_of (c.t.d.def_ 4 (d := dl "checked_facts" s_checked_facts) rfl) (He.glo_ok X G (c.t.d.fact 4 (f := .glo "checked_facts") rfl)) (fun _ _ _ _ _ _ us hl => match us, hl with | [_, _], _ => rfl))
theorem D_ok_mask_of (X : K.In h) (G : h.Ns mainGlobals mg) (c : He.SaysX fal fnl tabs [] exB w h K) : Dfn K mg "mask_of" s_mask_of ["claims"] := (dfn_of (c.t.d.def_ 8 (d := dl "mask_of" s_mask_of) rfl) (He.glo_ok X G (c.t.d.fact 8 (f := .glo "mask_of") rfl)) (fun _ _ _ _ _ _ us hl => match us, hl with | [_], _ => rfl))
theorem D_ok_clashes (X : K.In h) (G : h.Ns mainGlobals mg) (c : He.SaysX fal fnl tabs [] exB w h K) : Dfn K mg "clashes" s_clashes ["mask"] := (dfn_of (c.t.d.def_ 9 (d := dl "clashes" s_clashes) rfl) (He.glo_ok X G (c.t.d.fact 9 (f := .glo "clashes") rfl)) (fun _ _ _ _ _ _ us hl => match us, hl with | [_], _ => rfl))
theorem D_ok_breaking (X : K.In h) (G : h.Ns mainGlobals mg) (c : He.SaysX fal fnl tabs [] exB w h K) : Dfn K mg "breaking" s_breaking ["places", "fact"] := (dfn_of (c.t.d.def_ 5 (d := dl "breaking" s_breaking) rfl) (He.glo_ok X G (c.t.d.fact 5 (f := .glo "breaking") rfl)) (fun _ _ _ _ _ _ us hl => match us, hl with | [_, _], _ => rfl))
theorem D_ok_is_deed (X : K.In h) (G : h.Ns mainGlobals mg) (c : He.SaysX fal fnl tabs [] exB w h K) : Dfn K mg "is_deed" s_is_deed ["thing"] := (dfn_of (c.t.d.def_ 12 (d := dl "is_deed" s_is_deed) rfl) (He.glo_ok X G (c.t.d.fact 12 (f := .glo "is_deed") rfl)) (fun _ _ _ _ _ _ us hl => match us, hl with | [_], _ => rfl))
theorem D_ok_region_of (X : K.In h) (G : h.Ns mainGlobals mg) (c : He.SaysX fal fnl tabs [] exB w h K) : Dfn K mg "region_of" s_region_of ["deed"] := (dfn_of (c.t.d.def_ 13 (d := dl "region_of" s_region_of) rfl) (He.glo_ok X G (c.t.d.fact 13 (f := .glo "region_of") rfl)) (fun _ _ _ _ _ _ us hl => match us, hl with | [_], _ => rfl))
theorem D_ok_steps (X : K.In h) (G : h.Ns mainGlobals mg) (c : He.SaysX fal fnl tabs [] exB w h K) : Dfn K mg "steps_of" s_steps_of ["places", "facts"] := (dfn_of (c.t.d.def_ 6 (d := dl "steps_of" s_steps_of) rfl) (He.glo_ok X G (c.t.d.fact 6 (f := .glo "steps_of") rfl)) (fun _ _ _ _ _ _ us hl => match us, hl with | [_, _], _ => rfl))
theorem D_ok_reached (X : K.In h) (G : h.Ns mainGlobals mg) (c : He.SaysX fal fnl tabs [] exB w h K) : Dfn K mg "reached" s_reached ["steps", "claim"] := (dfn_of (c.t.d.def_ 7 (d := dl "reached" s_reached) rfl) (He.glo_ok X G (c.t.d.fact 7 (f := .glo "reached") rfl)) (fun _ _ _ _ _ _ us hl => match us, hl with | [_, _], _ => rfl))
theorem D_ok_follows (X : K.In h) (G : h.Ns mainGlobals mg) (c : He.SaysX fal fnl tabs [] exB w h K) : Dfn K mg "follows" s_follows ["facts", "fact"] := (dfn_of (c.t.d.def_ 11 (d := dl "follows" s_follows) rfl) (He.glo_ok X G (c.t.d.fact 11 (f := .glo "follows") rfl)) (fun _ _ _ _ _ _ us hl => match us, hl with | [_, _], _ => rfl))
theorem D_ok_cands (X : K.In h) (G : h.Ns mainGlobals mg) (c : He.SaysX fal fnl tabs [] exB w h K) : Dfn K mg "candidates" s_candidates ["names"] := (dfn_of (c.t.d.def_ 10 (d := dl "candidates" s_candidates) rfl) (He.glo_ok X G (c.t.d.fact 10 (f := .glo "candidates") rfl)) (fun _ _ _ _ _ _ us hl => match us, hl with | [_], _ => rfl))
theorem D_ok_finit (X : K.In h) (G : h.Ns mainGlobals mg) (c : He.SaysX fal fnl tabs [] exB w h K) : Mtd K (He.ga K "Facts") "__init__" "Facts.__init__" s_Facts_init ["self", "regions", "facts"] := (mtd_of (c.t.d.def_ 40 (d := dm "Facts" "__init__" "Facts.__init__" s_Facts_init) rfl) (fun _ _ _ _ _ _ us hl => match us, hl with | [_, _, _], _ => rfl))
theorem D_ini_deed (X : K.In h) (G : h.Ns mainGlobals mg) (c : He.SaysX fal fnl tabs [] exB w h K) : Mtd K (He.ga K "InvalidDeed") "__init__" "InvalidDeed.__init__" s_InvalidDeed_init ["self", "index"] := (mtd_of (c.t.d.def_ 44 (d := dm "InvalidDeed" "__init__" "InvalidDeed.__init__" s_InvalidDeed_init) rfl) (fun _ _ _ _ _ _ us hl => match us, hl with | [_, _], _ => rfl))
theorem D_ini_number (X : K.In h) (G : h.Ns mainGlobals mg) (c : He.SaysX fal fnl tabs [] exB w h K) : Mtd K (He.ga K "InvalidNumber") "__init__" "InvalidNumber.__init__" s_InvalidNumber_init ["self", "number"] := (mtd_of (c.t.d.def_ 45 (d := dm "InvalidNumber" "__init__" "InvalidNumber.__init__" s_InvalidNumber_init) rfl) (fun _ _ _ _ _ _ us hl => match us, hl with | [_, _], _ => rfl))
theorem D_ini_region (X : K.In h) (G : h.Ns mainGlobals mg) (c : He.SaysX fal fnl tabs [] exB w h K) : Mtd K (He.ga K "UnknownRegion") "__init__" "UnknownRegion.__init__" s_UnknownRegion_init ["self", "region"] := (mtd_of (c.t.d.def_ 46 (d := dm "UnknownRegion" "__init__" "UnknownRegion.__init__" s_UnknownRegion_init) rfl) (fun _ _ _ _ _ _ us hl => match us, hl with | [_, _], _ => rfl))
theorem D_ok_rinit (X : K.In h) (G : h.Ns mainGlobals mg) (c : He.SaysX fal fnl tabs [] exB w h K) : Mtd K (He.ga K "Row") "__init__" "Row.__init__" s_Row_init ["self", "deeds"] := (mtd_of (c.t.d.def_ 41 (d := dm "Row" "__init__" "Row.__init__" s_Row_init) rfl) (fun _ _ _ _ _ _ us hl => match us, hl with | [_, _], _ => rfl))
theorem D_ok_deeds (X : K.In h) (G : h.Ns mainGlobals mg) (c : He.SaysX fal fnl tabs [] exB w h K) : Mtd K (He.ga K "Row") "deeds" "Row.deeds" s_Row_deeds ["self"] := (mtd_of (c.t.d.def_ 42 (d := dm "Row" "deeds" "Row.deeds" s_Row_deeds) rfl) (fun _ _ _ _ _ _ us hl => match us, hl with | [_], _ => rfl))
theorem D_ok_len (X : K.In h) (G : h.Ns mainGlobals mg) (c : He.SaysX fal fnl tabs [] exB w h K) : Mtd K (He.ga K "Row") "__len__" "Row.__len__" s_Row_len ["self"] := (mtd_of (c.t.d.def_ 43 (d := dm "Row" "__len__" "Row.__len__" s_Row_len) rfl) (fun _ _ _ _ _ _ us hl => match us, hl with | [_], _ => rfl))
theorem D_ok_index (X : K.In h) (G : h.Ns mainGlobals mg) (c : He.SaysX fal fnl tabs [] exB w h K) : Dfn K mg "checked_index" s_checked_index ["index", "many"] := (dfn_of (c.t.d.def_ 14 (d := dl "checked_index" s_checked_index) rfl) (He.glo_ok X G (c.t.d.fact 14 (f := .glo "checked_index") rfl)) (fun _ _ _ _ _ _ us hl => match us, hl with | [_, _], _ => rfl))
theorem D_ok_kinds (X : K.In h) (G : h.Ns mainGlobals mg) (c : He.SaysX fal fnl tabs [] exB w h K) : Dfn K mg "check_kinds" s_check_kinds ["row", "kinds"] := (dfn_of (c.t.d.def_ 16 (d := dl "check_kinds" s_check_kinds) rfl) (He.glo_ok X G (c.t.d.fact 16 (f := .glo "check_kinds") rfl)) (fun _ _ _ _ _ _ us hl => match us, hl with | [_, _], _ => rfl))
theorem D_ok_known (X : K.In h) (G : h.Ns mainGlobals mg) (c : He.SaysX fal fnl tabs [] exB w h K) : Dfn K mg "check_known" s_check_known ["places", "row"] := (dfn_of (c.t.d.def_ 15 (d := dl "check_known" s_check_known) rfl) (He.glo_ok X G (c.t.d.fact 15 (f := .glo "check_known") rfl)) (fun _ _ _ _ _ _ us hl => match us, hl with | [_, _], _ => rfl))
theorem D_ok_coats (X : K.In h) (G : h.Ns mainGlobals mg) (c : He.SaysX fal fnl tabs [] exB w h K) : Dfn K mg "check_coats" s_check_coats ["facts", "row"] := (dfn_of (c.t.d.def_ 17 (d := dl "check_coats" s_check_coats) rfl) (He.glo_ok X G (c.t.d.fact 17 (f := .glo "check_coats") rfl)) (fun _ _ _ _ _ _ us hl => match us, hl with | [_, _], _ => rfl))
theorem D_ok_cm (X : K.In h) (G : h.Ns mainGlobals mg) (c : He.SaysX fal fnl tabs [] exB w h K) : Dfn K mg "claim_mask" s_claim_mask ["facts", "deed", "inside"] := (dfn_of (c.t.d.def_ 18 (d := dl "claim_mask" s_claim_mask) rfl) (He.glo_ok X G (c.t.d.fact 18 (f := .glo "claim_mask") rfl)) (fun _ _ _ _ _ _ us hl => match us, hl with | [_, _, _], _ => rfl))
theorem D_ok_covering (X : K.In h) (G : h.Ns mainGlobals mg) (c : He.SaysX fal fnl tabs [] exB w h K) : Dfn K mg "covering" s_covering ["facts", "line", "index"] := (dfn_of (c.t.d.def_ 19 (d := dl "covering" s_covering) rfl) (He.glo_ok X G (c.t.d.fact 19 (f := .glo "covering") rfl)) (fun _ _ _ _ _ _ us hl => match us, hl with | [_, _, _], _ => rfl))
theorem D_ok_covers (X : K.In h) (G : h.Ns mainGlobals mg) (c : He.SaysX fal fnl tabs [] exB w h K) : Dfn K mg "covers" s_covers ["facts", "row", "index"] := (dfn_of (c.t.d.def_ 20 (d := dl "covers" s_covers) rfl) (He.glo_ok X G (c.t.d.fact 20 (f := .glo "covers") rfl)) (fun _ _ _ _ _ _ us hl => match us, hl with | [_, _, _], _ => rfl))
theorem D_ok_mixed (X : K.In h) (G : h.Ns mainGlobals mg) (c : He.SaysX fal fnl tabs [] exB w h K) : Dfn K mg "_law_mixed" s_law_mixed ["_law_cell", "_law_k"] := (dfn_of (c.t.d.def_ 21 (d := dl "_law_mixed" s_law_mixed) rfl) (He.glo_ok X G (c.t.d.fact 21 (f := .glo "_law_mixed") rfl)) (fun _ _ _ _ _ _ us hl => match us, hl with | [_, _], _ => rfl))
theorem D_ok_pile (X : K.In h) (G : h.Ns mainGlobals mg) (c : He.SaysX fal fnl tabs [] exB w h K) : Dfn K mg "_law_pile" s_law_pile ["_law_script", "_law_k"] := (dfn_of (c.t.d.def_ 22 (d := dl "_law_pile" s_law_pile) rfl) (He.glo_ok X G (c.t.d.fact 22 (f := .glo "_law_pile") rfl)) (fun _ _ _ _ _ _ us hl => match us, hl with | [_, _], _ => rfl))
theorem D_ok_take (X : K.In h) (G : h.Ns mainGlobals mg) (c : He.SaysX fal fnl tabs [] exB w h K) : Dfn K mg "_law_take" s_law_take ["_law_pile_here", "_law_many"] := (dfn_of (c.t.d.def_ 23 (d := dl "_law_take" s_law_take) rfl) (He.glo_ok X G (c.t.d.fact 23 (f := .glo "_law_take") rfl)) (fun _ _ _ _ _ _ us hl => match us, hl with | [_, _], _ => rfl))
theorem D_ok_order (X : K.In h) (G : h.Ns mainGlobals mg) (c : He.SaysX fal fnl tabs [] exB w h K) : Dfn K mg "_law_order" s_law_order ["_law_pile_here", "_law_many"] := (dfn_of (c.t.d.def_ 24 (d := dl "_law_order" s_law_order) rfl) (He.glo_ok X G (c.t.d.fact 24 (f := .glo "_law_order") rfl)) (fun _ _ _ _ _ _ us hl => match us, hl with | [_, _], _ => rfl))
theorem D_ok_names (X : K.In h) (G : h.Ns mainGlobals mg) (c : He.SaysX fal fnl tabs [] exB w h K) : Dfn K mg "_law_names" s_law_names ["_law_pile_here", "_law_many"] := (dfn_of (c.t.d.def_ 25 (d := dl "_law_names" s_law_names) rfl) (He.glo_ok X G (c.t.d.fact 25 (f := .glo "_law_names") rfl)) (fun _ _ _ _ _ _ us hl => match us, hl with | [_, _], _ => rfl))
theorem D_ok_colours (X : K.In h) (G : h.Ns mainGlobals mg) (c : He.SaysX fal fnl tabs [] exB w h K) : Dfn K mg "_law_colours" s_law_colours ["_law_pile_here"] := (dfn_of (c.t.d.def_ 32 (d := dl "_law_colours" s_law_colours) rfl) (He.glo_ok X G (c.t.d.fact 32 (f := .glo "_law_colours") rfl)) (fun _ _ _ _ _ _ us hl => match us, hl with | [_], _ => rfl))
theorem D_ok_facts2 (X : K.In h) (G : h.Ns mainGlobals mg) (c : He.SaysX fal fnl tabs [] exB w h K) : Dfn K mg "_law_facts" s_law_facts ["_law_pile_here", "_law_names_here", "_law_most"] := (dfn_of (c.t.d.def_ 26 (d := dl "_law_facts" s_law_facts) rfl) (He.glo_ok X G (c.t.d.fact 26 (f := .glo "_law_facts") rfl)) (fun _ _ _ _ _ _ us hl => match us, hl with | [_, _, _], _ => rfl))
theorem D_ok_coats2 (X : K.In h) (G : h.Ns mainGlobals mg) (c : He.SaysX fal fnl tabs [] exB w h K) : Dfn K mg "_law_coats" s_law_coats ["_law_pile_here", "_law_names_here", "_law_colours_here", "_law_most"] := (dfn_of (c.t.d.def_ 31 (d := dl "_law_coats" s_law_coats) rfl) (He.glo_ok X G (c.t.d.fact 31 (f := .glo "_law_coats") rfl)) (fun _ _ _ _ _ _ us hl => match us, hl with | [_, _, _, _], _ => rfl))
theorem D_ok_keeps (X : K.In h) (G : h.Ns mainGlobals mg) (c : He.SaysX fal fnl tabs [] exB w h K) : Dfn K mg "_law_keeps" s_law_keeps ["_law_patch", "_law_fact"] := (dfn_of (c.t.d.def_ 27 (d := dl "_law_keeps" s_law_keeps) rfl) (He.glo_ok X G (c.t.d.fact 27 (f := .glo "_law_keeps") rfl)) (fun _ _ _ _ _ _ us hl => match us, hl with | [_, _], _ => rfl))
theorem D_ok_all (X : K.In h) (G : h.Ns mainGlobals mg) (c : He.SaysX fal fnl tabs [] exB w h K) : Dfn K mg "_law_all" s_law_all ["_law_names_here"] := (dfn_of (c.t.d.def_ 28 (d := dl "_law_all" s_law_all) rfl) (He.glo_ok X G (c.t.d.fact 28 (f := .glo "_law_all") rfl)) (fun _ _ _ _ _ _ us hl => match us, hl with | [_], _ => rfl))
theorem D_ok_poss (X : K.In h) (G : h.Ns mainGlobals mg) (c : He.SaysX fal fnl tabs [] exB w h K) : Dfn K mg "_law_possible" s_law_possible ["_law_names_here", "_law_facts_here"] := (dfn_of (c.t.d.def_ 29 (d := dl "_law_possible" s_law_possible) rfl) (He.glo_ok X G (c.t.d.fact 29 (f := .glo "_law_possible") rfl)) (fun _ _ _ _ _ _ us hl => match us, hl with | [_, _], _ => rfl))
theorem D_ok_covered (X : K.In h) (G : h.Ns mainGlobals mg) (c : He.SaysX fal fnl tabs [] exB w h K) : Dfn K mg "_law_covered" s_law_covered ["_law_patches", "_law_deeds", "_law_k"] := (dfn_of (c.t.d.def_ 33 (d := dl "_law_covered" s_law_covered) rfl) (He.glo_ok X G (c.t.d.fact 33 (f := .glo "_law_covered") rfl)) (fun _ _ _ _ _ _ us hl => match us, hl with | [_, _, _], _ => rfl))
theorem D_ok_due (X : K.In h) (G : h.Ns mainGlobals mg) (c : He.SaysX fal fnl tabs [] exB w h K) : Dfn K mg "_law_due" s_law_due ["_law_patches", "_law_deeds", "_law_k"] := (dfn_of (c.t.d.def_ 34 (d := dl "_law_due" s_law_due) rfl) (He.glo_ok X G (c.t.d.fact 34 (f := .glo "_law_due") rfl)) (fun _ _ _ _ _ _ us hl => match us, hl with | [_, _, _], _ => rfl))
theorem D_ok_held (X : K.In h) (G : h.Ns mainGlobals mg) (c : He.SaysX fal fnl tabs [] exB w h K) : Dfn K mg "_law_held" s_law_held ["_law_pile_here", "_law_names_here", "_law_most"] := (dfn_of (c.t.d.def_ 30 (d := dl "_law_held" s_law_held) rfl) (He.glo_ok X G (c.t.d.fact 30 (f := .glo "_law_held") rfl)) (fun _ _ _ _ _ _ us hl => match us, hl with | [_, _, _], _ => rfl))
theorem D_ok_refused (X : K.In h) (G : h.Ns mainGlobals mg) (c : He.SaysX fal fnl tabs [] exB w h K) : Dfn K mg "_law_refused" s_law_refused ["_law_facts_here", "_law_row", "_law_index"] := (dfn_of (c.t.d.def_ 35 (d := dl "_law_refused" s_law_refused) rfl) (He.glo_ok X G (c.t.d.fact 35 (f := .glo "_law_refused") rfl)) (fun _ _ _ _ _ _ us hl => match us, hl with | [_, _, _], _ => rfl))
theorem D_ok_twice (X : K.In h) (G : h.Ns mainGlobals mg) (c : He.SaysX fal fnl tabs [] exB w h K) : Dfn K mg "_law_twice_right" s_law_twice_right ["_law_pile_here", "_law_names_here", "_law_facts_here", "_law_row"] := (dfn_of (c.t.d.def_ 36 (d := dl "_law_twice_right" s_law_twice_right) rfl) (He.glo_ok X G (c.t.d.fact 36 (f := .glo "_law_twice_right") rfl)) (fun _ _ _ _ _ _ us hl => match us, hl with | [_, _, _, _], _ => rfl))
theorem D_ok_many (X : K.In h) (G : h.Ns mainGlobals mg) (c : He.SaysX fal fnl tabs [] exB w h K) : Dfn K mg "_law_many_right" s_law_many_right ["_law_pile_here"] := (dfn_of (c.t.d.def_ 37 (d := dl "_law_many_right" s_law_many_right) rfl) (He.glo_ok X G (c.t.d.fact 37 (f := .glo "_law_many_right") rfl)) (fun _ _ _ _ _ _ us hl => match us, hl with | [_], _ => rfl))
theorem D_ok_doors (X : K.In h) (G : h.Ns mainGlobals mg) (c : He.SaysX fal fnl tabs [] exB w h K) : Dfn K mg "_law_doors_right" s_law_doors_right ["_law_pile_here", "_law_made", "_law_names_here", "_law_deeds"] := (dfn_of (c.t.d.def_ 38 (d := dl "_law_doors_right" s_law_doors_right) rfl) (He.glo_ok X G (c.t.d.fact 38 (f := .glo "_law_doors_right") rfl)) (fun _ _ _ _ _ _ us hl => match us, hl with | [_, _, _, _], _ => rfl))
theorem txt_of (X : K.In h) (G : h.Ns mainGlobals mg) (c : He.SaysX fal fnl tabs [] exB w h K) : Txt K mg w := by
  have e := c.more
  obtain ⟨x1, e⟩ := He.ba e
  obtain ⟨x2, e⟩ := He.ba e
  obtain ⟨x3, e⟩ := He.ba e
  obtain ⟨x4, e⟩ := He.ba e
  obtain ⟨x5, e⟩ := He.ba e
  obtain ⟨x6, e⟩ := He.ba e
  obtain ⟨x7, e⟩ := He.ba e
  obtain ⟨x8, e⟩ := He.ba e
  obtain ⟨x9, e⟩ := He.ba e
  obtain ⟨x10, e⟩ := He.ba e
  obtain ⟨x11, e⟩ := He.ba e
  obtain ⟨x12, e⟩ := He.ba e
  have x13 := e
  exact {
    b_isinstance := He.free_ok X G (c.t.d.fact 40 (f := .free "isinstance") rfl),
    b_len := He.free_ok X G (c.t.d.fact 41 (f := .free "len") rfl),
    b_list := He.free_ok X G (c.t.d.fact 42 (f := .free "list") rfl),
    b_range := He.free_ok X G (c.t.d.fact 43 (f := .free "range") rfl),
    b_enumerate := He.free_ok X G (c.t.d.fact 44 (f := .free "enumerate") rfl),
    b_sorted := He.free_ok X G (c.t.d.fact 45 (f := .free "sorted") rfl),
    b_any := He.free_ok X G (c.t.d.fact 46 (f := .free "any") rfl),
    b_all := He.free_ok X G (c.t.d.fact 47 (f := .free "all") rfl),
    b_tuple := He.free_ok X G (c.t.d.fact 48 (f := .free "tuple") rfl),
    b_int := He.free_ok X G (c.t.d.fact 49 (f := .free "int") rfl),
    b_abs := He.free_ok X G (c.t.d.fact 50 (f := .free "abs") rfl),
    b_str := He.free_ok X G (c.t.d.fact 51 (f := .free "str") rfl),
    b_min := He.free_ok X G (c.t.d.fact 52 (f := .free "min") rfl),
    b_ValueError := He.free_ok X G (c.t.d.fact 53 (f := .free "ValueError") rfl),
    b_bool := He.free_ok X G (c.t.d.fact 54 (f := .free "bool") rfl),
    k_LONGEST_NAME := He.int_ok X G (c.t.d.fact 66 (f := .int "LONGEST_NAME" 12) rfl),
    k_MOST_REGIONS := He.int_ok X G (c.t.d.fact 67 (f := .int "MOST_REGIONS" 24) rfl),
    k_MOST_FACTS := He.int_ok X G (c.t.d.fact 68 (f := .int "MOST_FACTS" 1200) rfl),
    k_MOST_DEEDS := He.int_ok X G (c.t.d.fact 69 (f := .int "MOST_DEEDS" 30) rfl),
    k_LETTERS := He.str_ok X G (c.t.d.fact 65 (f := .str "LETTERS" "abcdefghijklmnopqrstuvwxyz") rfl),
    g_CoatError := He.glo_ok X G (c.t.d.fact 55 (f := .glo "CoatError") rfl),
    g_InvalidDeed := He.glo_ok X G (c.t.d.fact 56 (f := .glo "InvalidDeed") rfl),
    g_InvalidNumber := He.glo_ok X G (c.t.d.fact 57 (f := .glo "InvalidNumber") rfl),
    g_UnknownRegion := He.glo_ok X G (c.t.d.fact 58 (f := .glo "UnknownRegion") rfl),
    g_Facts := He.glo_ok X G (c.t.d.fact 59 (f := .glo "Facts") rfl),
    g_Row := He.glo_ok X G (c.t.d.fact 60 (f := .glo "Row") rfl),
    g_KINDS := He.glo_ok X G (c.t.d.fact 61 (f := .glo "KINDS") rfl),
    g_SIGNS := He.glo_ok X G (c.t.d.fact 62 (f := .glo "SIGNS") rfl),
    g_SIZES := He.glo_ok X G (c.t.d.fact 63 (f := .glo "SIZES") rfl),
    g_COATS := He.glo_ok X G (c.t.d.fact 64 (f := .glo "COATS") rfl),
    t_KINDS := fun H => He.tupB_ok x1 H,
    t_COATS := fun H => He.tupB_ok x2 H,
    d_SIGNS := c.t.tab 0 (t := (fun K => He.ga K "SIGNS", ["in", "apart", "cover"])) rfl,
    d_SIZES := c.t.tab 1 (t := (fun K => He.ga K "SIZES", ["put", "fill", "wipe", "turn"])) rfl,
    sg_in := sgB_ok x3,
    sg_apart := sgB_ok x4,
    sg_cover := sgB_ok x5,
    sz_put := szB_ok x6,
    sz_fill := szB_ok x7,
    sz_wipe := szB_ok x8,
    sz_turn := szB_ok x9,
    cF := He.cls_ok (c.t.d.fact 70 (f := .cls "Facts") rfl),
    cR := He.cls_ok (c.t.d.fact 71 (f := .cls "Row") rfl),
    mkF := He.mkr_ok (c.t.d.fact 72 (f := .mkr "Facts") rfl),
    mkR := He.mkr_ok (c.t.d.fact 73 (f := .mkr "Row") rfl),
    meD := He.meth_ok (c.t.d.fact 74 (f := .meth "Row" "deeds") rfl),
    meL := He.meth_ok (c.t.d.fact 75 (f := .meth "Row" "__len__") rfl),
    nF_names := He.noat_ok (c.t.d.fact 76 (f := .noat "Facts" "names") rfl),
    nF_places := He.noat_ok (c.t.d.fact 77 (f := .noat "Facts" "places") rfl),
    nF_said := He.noat_ok (c.t.d.fact 78 (f := .noat "Facts" "said") rfl),
    nF_steps := He.noat_ok (c.t.d.fact 79 (f := .noat "Facts" "steps") rfl),
    nF_masks := He.noat_ok (c.t.d.fact 80 (f := .noat "Facts" "masks") rfl),
    nF_forced := He.noat_ok (c.t.d.fact 81 (f := .noat "Facts" "forced") rfl),
    nF_closed := He.noat_ok (c.t.d.fact 82 (f := .noat "Facts" "closed") rfl),
    nR_line := He.noat_ok (c.t.d.fact 83 (f := .noat "Row" "line") rfl),
    ox_InvalidDeed := (exF_ok x10).ox,
    ex_InvalidDeed := (exF_ok x10).ex,
    xf_InvalidDeed := (exF_ok x10).xf,
    no_InvalidDeed := (exF_ok x10).no,
    in_InvalidDeed := (exF_ok x10).ini,
    ty_InvalidDeed := (exF_ok x10).ty,
    xm_InvalidDeed := (exF_ok x10).xm,
    kv_InvalidDeed := (exF_ok x10).kv,
    ki_InvalidDeed_InvalidDeed := (exF_ok x10).k1,
    ki_InvalidDeed_InvalidNumber := (exF_ok x10).k2,
    ki_InvalidDeed_UnknownRegion := (exF_ok x10).k3,
    ox_InvalidNumber := (exF_ok x11).ox,
    ex_InvalidNumber := (exF_ok x11).ex,
    xf_InvalidNumber := (exF_ok x11).xf,
    no_InvalidNumber := (exF_ok x11).no,
    in_InvalidNumber := (exF_ok x11).ini,
    ty_InvalidNumber := (exF_ok x11).ty,
    xm_InvalidNumber := (exF_ok x11).xm,
    kv_InvalidNumber := (exF_ok x11).kv,
    ki_InvalidNumber_InvalidDeed := (exF_ok x11).k1,
    ki_InvalidNumber_InvalidNumber := (exF_ok x11).k2,
    ki_InvalidNumber_UnknownRegion := (exF_ok x11).k3,
    ox_UnknownRegion := (exF_ok x12).ox,
    ex_UnknownRegion := (exF_ok x12).ex,
    xf_UnknownRegion := (exF_ok x12).xf,
    no_UnknownRegion := (exF_ok x12).no,
    in_UnknownRegion := (exF_ok x12).ini,
    ty_UnknownRegion := (exF_ok x12).ty,
    xm_UnknownRegion := (exF_ok x12).xm,
    kv_UnknownRegion := (exF_ok x12).kv,
    ki_UnknownRegion_InvalidDeed := (exF_ok x12).k1,
    ki_UnknownRegion_InvalidNumber := (exF_ok x12).k2,
    ki_UnknownRegion_UnknownRegion := (exF_ok x12).k3,
    base := baseB_ok x13 }
theorem facts {f : Addr} (X : K.In h) (G : h.Ns mainGlobals mg) (hfa : mg ("law" : Str) = some (.ref f)) (c : He.SaysX fal fnl tabs [] exB w h K) :
    ∃ fd : FuncData, (∀ (s : Shared) (v : Value), BindsTo s fd ⟨[v], []⟩ [("_law_script", v)]) ∧ ∀ base : Heap, K.In base → base.Ns mainGlobals mg → FnG P w K mg base CX0 8 f fd ["_law_script"] (spLaw K) := by
  have T := txt_of X G c
  obtain ⟨fd, F⟩ := c.t.d.def_ 39 (d := dl "law" s_law) rfl
  have e := hfa.symm.trans (He.glo_ok X G (c.t.d.fact 39 (f := .glo "law") rfl))
  cases e
  have b := FunD.bindsA (ps := ["_law_script"]) F fun _ _ _ _ _ _ us hl => match us, hl with | [_], _ => rfl
  refine ⟨fd, fun s v => b s [v] rfl, fun base _ _ => ?_⟩
  have e_ok_is_name : C8.Cal P w K mg base 1 "is_name" spIsName [] := ok_is_name (D_ok_is_name X G c) T
  have e_ok_regs : C8.Cal P w K mg base 2 "checked_regions" (spRegs K) [] := ok_regs (D_ok_regs X G c) T e_ok_is_name
  have e_ok_is_region : C8.Cal P w K mg base 1 "is_region" spIsRegion [] := ok_is_region (D_ok_is_region X G c) T
  have e_ok_is_fact : C8.Cal P w K mg base 2 "is_fact" (spIsFact K) [] := ok_is_fact (D_ok_is_fact X G c) T e_ok_is_region
  have e_ok_facts : C8.Cal P w K mg base 3 "checked_facts" (spFacts K) [] := ok_facts (D_ok_facts X G c) T e_ok_is_fact
  have e_ok_mask_of : C8.Cal P w K mg base 1 "mask_of" (spMaskOf K) [] := ok_mask_of (D_ok_mask_of X G c) T
  have e_ok_clashes : C8.Cal P w K mg base 1 "clashes" spClashes [] := ok_clashes (D_ok_clashes X G c) T
  have e_ok_breaking : C8.Cal P w K mg base 1 "breaking" (spBreaking K) [] := ok_breaking (D_ok_breaking X G c) T
  have e_ok_is_deed : C8.Cal P w K mg base 2 "is_deed" (spIsDeed K) [] := ok_is_deed (D_ok_is_deed X G c) T e_ok_is_name
  have e_ok_region_of : C8.Cal P w K mg base 1 "region_of" (spRegionOf K) [] := ok_region_of (D_ok_region_of X G c) T
  have e_ok_steps : C8.Cal P w K mg base 2 "steps_of" (spSteps K) [] := ok_steps (D_ok_steps X G c) T e_ok_breaking
  have e_ok_reached : C8.Cal P w K mg base 1 "reached" (spReached K) [] := ok_reached (D_ok_reached X G c) T
  have e_ok_follows : C8.Cal P w K mg base 2 "follows" (spFollows K) [] := ok_follows (D_ok_follows X G c) T e_ok_breaking e_ok_clashes
  have e_ok_cands : C8.Cal P w K mg base 1 "candidates" (spCands K) [] := ok_cands (D_ok_cands X G c) T
  have e_ok_finit : C8.Mak P w K mg base 4 "Facts" (He.ga K "Facts") (spFInit K) [] := ok_finit (D_ok_finit X G c) T e_ok_regs e_ok_facts e_ok_steps e_ok_reached e_ok_mask_of e_ok_cands e_ok_follows
  have e_ini_deed : Ini P w K mg base "InvalidDeed" "index" := ini_deed (D_ini_deed X G c) T
  have e_ini_number : Ini P w K mg base "InvalidNumber" "number" := ini_number (D_ini_number X G c) T
  have e_ini_region : Ini P w K mg base "UnknownRegion" "region" := ini_region (D_ini_region X G c) T
  have e_ok_rinit : C8.Mak P w K mg base 3 "Row" (He.ga K "Row") (spRInit K) [] := ok_rinit (D_ok_rinit X G c) T e_ok_is_deed
  have e_ok_deeds : C8.Met P w K mg base 1 (He.ga K "Row") "deeds" (spDeeds K) [] := ok_deeds (D_ok_deeds X G c) T
  have e_ok_len : LenR P w K mg base := ok_len (D_ok_len X G c) T
  have e_ok_index : CalX P w K mg base 3 "checked_index" (spIndex K) := ok_index (D_ok_index X G c) T e_ini_number
  have e_ok_kinds : CalX P w K mg base 3 "check_kinds" (spKinds K) := ok_kinds (D_ok_kinds X G c) T e_ini_deed
  have e_ok_known : CalX P w K mg base 3 "check_known" (spKnown K) := ok_known (D_ok_known X G c) T e_ok_region_of e_ini_region
  have e_ok_coats : CalX P w K mg base 4 "check_coats" (spCoats K) := ok_coats (D_ok_coats X G c) T e_ok_kinds e_ok_known
  have e_ok_cm : C8.Cal P w K mg base 1 "claim_mask" (spCM K) [] := ok_cm (D_ok_cm X G c) T
  have e_ok_covering : C8.Cal P w K mg base 2 "covering" (spCovering K) [] := ok_covering (D_ok_covering X G c) T e_ok_cm e_ok_clashes
  have e_ok_covers : CalX P w K mg base 5 "covers" (spCovers K) := ok_covers (D_ok_covers X G c) T e_ok_coats e_ok_index e_ok_covering
  have e_ok_mixed : C8.Cal P w K mg base 1 "_law_mixed" spMixed [] := ok_mixed (D_ok_mixed X G c) T
  have e_ok_pile : C8.Cal P w K mg base 1 "_law_pile" (spPile K) [] := ok_pile (D_ok_pile X G c) T
  have e_ok_take : C8.Cal P w K mg base 2 "_law_take" spTake [] := ok_take (D_ok_take X G c) T e_ok_mixed
  have e_ok_order : C8.Cal P w K mg base 3 "_law_order" spOrder [] := ok_order (D_ok_order X G c) T e_ok_take
  have e_ok_names : C8.Cal P w K mg base 3 "_law_names" spNames [] := ok_names (D_ok_names X G c) T e_ok_take
  have e_ok_colours : C8.Cal P w K mg base 4 "_law_colours" spColours [] := ok_colours (D_ok_colours X G c) T e_ok_take e_ok_order
  have e_ok_facts2 : C8.Cal P w K mg base 3 "_law_facts" (spFacts2 K) [] := ok_facts2 (D_ok_facts2 X G c) T e_ok_take
  have e_ok_coats2 : C8.Cal P w K mg base 3 "_law_coats" (spCoats2 K) [] := ok_coats2 (D_ok_coats2 X G c) T e_ok_take
  have e_ok_keeps : C8.Cal P w K mg base 1 "_law_keeps" (spKeeps K) [] := ok_keeps (D_ok_keeps X G c) T
  have e_ok_all : C8.Cal P w K mg base 1 "_law_all" (spAll K) [] := ok_all (D_ok_all X G c) T
  have e_ok_poss : C8.Cal P w K mg base 2 "_law_possible" (spPoss K) [] := ok_poss (D_ok_poss X G c) T e_ok_all e_ok_keeps
  have e_ok_covered : C8.Cal P w K mg base 1 "_law_covered" (spCovered K) [] := ok_covered (D_ok_covered X G c) T
  have e_ok_due : C8.Cal P w K mg base 1 "_law_due" (spDue K) [] := ok_due (D_ok_due X G c) T
  have e_ok_held : C8.Cal P w K mg base 4 "_law_held" (spHeld K) [] := ok_held (D_ok_held X G c) T e_ok_all e_ok_facts2 e_ok_keeps
  have e_ok_refused : C8.Cal P w K mg base 6 "_law_refused" (spRefused K) [] := ok_refused (D_ok_refused X G c) T e_ok_covers
  have e_ok_twice : C8.Cal P w K mg base 6 "_law_twice_right" (spTwice K) [] := ok_twice (D_ok_twice X G c) T e_ok_poss e_ok_finit e_ok_covers e_ok_due e_ok_deeds e_ok_len
  have e_ok_many : C8.Cal P w K mg base 6 "_law_many_right" spMany [] := ok_many (D_ok_many X G c) T e_ok_take e_ok_order e_ok_finit e_ok_rinit e_ok_covers
  have e_ok_doors : CalG P w K mg base 7 "_law_doors_right" (spDoors K) := ok_doors (D_ok_doors X G c) T e_ok_take e_ok_rinit e_ok_refused
  exact ok_law (fun_of F) T e_ok_take e_ok_pile e_ok_names e_ok_held e_ok_poss e_ok_colours e_ok_coats2 e_ok_finit e_ok_rinit e_ok_due e_ok_covered e_ok_covers e_ok_many e_ok_twice e_ok_doors
end
end Cw
end
open PySem PySem.W PySem.Calls PyProof.Rows
theorem PySem.Challenge.cw_coatrows_k60_whole_covered_deeds_holds : PySem.Challenge.rw_coatrows_k60_whole_covered_deeds.Holds := by
  w_on; o_law
  refine HandSHeadRun.head_any (r := Cw.R) (q := Cw.qv) (H := Cw.hk) (ob := Cw.ob) (M := 20000) (loose := Cw.loose) (d := HandSHeadRun.topDef Cw.R.prog 74) (kwd := []) Cw.ob_eq
    (by kernel_rfl) (fun s => by kernel_rfl) Cw.run (by kernel_rfl) (by kernel_rfl) (by kernel_rfl) (by rfl) (by first | assumption | decide +kernel) (by decide +kernel) ⟨rfl, rfl, rfl, rfl, rfl, by decide +kernel⟩ ?hw ?hc
  case hw => w_witness2
  case hc =>
    refine Cw.walk_ofG (l := PySem.Challenge.rw_coatrows_k60_whole_covered_deeds) (n := 63) (k := 8) (x := "_law_script") (CX := L2.CX0) rfl (by decide) (by kernel_rfl) ⟨rfl, by decide, by decide⟩ ?F (fun _ _ _ _ z => z)
    intro w mg fa h Y G hmg0
    obtain ⟨K, KX, c⟩ := Y
    have hmg : mg ("law" : PySem.Str) = some (.ref fa) := by
      have e : (HandSHeadRun.topDef Cw.R.prog 74).name = ("law" : PySem.Str) := by kernel_rfl
      rw [← e]
      exact hmg0
    obtain ⟨fd, hb, hF⟩ := Cw.facts (P := (PySem.Challenge.rw_coatrows_k60_whole_covered_deeds).prog) (w := w) KX G hmg c
    exact ⟨K, fd, Cw.spLaw K, KX, hb, fun H a ns hl hS => ⟨a, ns, rfl, hS, fun _ => rfl⟩, hF⟩
