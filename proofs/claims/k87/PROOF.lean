import PyProof.Rows.All
import Wide.All
import OpenK.AllK
import Wide.FinOn
import PySem.Challenge.RW_twinsheets_k87_whole_families_by_all_cur
import HandS.ForMost
import HandS.ForExc
import HandS.Walk
import HandS.Head0
import HandS.Head1
import HandS.Head2
import HandS.HeadHook4
import HandS.HeadNt
import HandS.HeadWalk
import HandS.Slots
import HandS.SlotsOwn
import HandS.Lambda
import HandS.AnyAll
import HandS.TupAny
import HandS.Style
import HandS.TupLen
import HandS.Conv
import HandS.IsInst
import HandS.Star
import KE.KFmtOwn
import HandS.FStr
import HandS.Zip
import KE.GoesMore
import KE.GoesEnum
import HandS.TupMul
import HandS.RaiseMore
import KE.KDictDisplayH
import KE.KDictCopyH
import HandS.DictTup
import KE.SortData
import HandS.Wide
import KE.KDictIter
import KE.DataMinKey
section STwO1
set_option Elab.async false
set_option linter.all false
set_option maxRecDepth 100000
set_option maxHeartbeats 4000000
/-! The head (1): the program's text by places; what is looked at behind the top. -/
namespace Tw
open PySem PySem.Spec PyProof.Rows L2 He
def top (i : Nat) : Stmt := PySem.Challenge.pw_twinsheets_k87_whole_families_by_all_cur.main.body.getD i (.Pass ⟨0, 0, 0, 0⟩)
abbrev sRaised : Stmt := top 67
abbrev sWhole : Stmt := top 13
abbrev sInteger : Stmt := top 14
abbrev sPrime : Stmt := top 15
abbrev sReqPrime : Stmt := top 16
abbrev sReqCount : Stmt := top 17
abbrev sPolyRow : Stmt := top 27
abbrev sPolyNumber : Stmt := top 31
abbrev sPolyTerm : Stmt := top 32
abbrev sPolyText : Stmt := top 33
abbrev sEntInit : Stmt := inClass (top 26) 1
abbrev sMade : Stmt := top 28
abbrev sPolyInit : Stmt := inClass (top 42) 1
abbrev sPPrime : Stmt := inClass (top 42) 3
abbrev sPEntries : Stmt := inClass (top 42) 4
abbrev sPDegree : Stmt := inClass (top 42) 5
abbrev sPLead : Stmt := inClass (top 42) 6
abbrev sPZero : Stmt := inClass (top 42) 8
abbrev sPStr : Stmt := inClass (top 42) 26
abbrev sReqPoly : Stmt := top 43
abbrev sReqSame : Stmt := top 44
abbrev sReqDiv : Stmt := top 45
abbrev sPolyInv : Stmt := top 40
abbrev sPolyDiv : Stmt := top 41
abbrev sPMod : Stmt := inClass (top 42) 14
abbrev sResidue : Stmt := top 18
abbrev sPCall : Stmt := inClass (top 42) 16
abbrev sPScaled : Stmt := inClass (top 42) 20
abbrev sPMonic : Stmt := inClass (top 42) 19
abbrev sPDer : Stmt := inClass (top 42) 21
abbrev sMonOrZero : Stmt := top 48
abbrev sCommon : Stmt := top 49
abbrev sSqf : Stmt := top 50
abbrev sPolyAt : Stmt := top 46
abbrev sCurvesIn : Stmt := top 68
abbrev sCountCurves : Stmt := top 69
abbrev sChangesIn : Stmt := top 70
abbrev sMass : Stmt := top 71
abbrev sMovedOn : Stmt := top 74
abbrev sFormRow : Stmt := top 76
abbrev sRoots : Stmt := top 57
abbrev sKindIn : Stmt := top 58
abbrev sRimsIn : Stmt := top 59
abbrev sPointsIn : Stmt := top 60
abbrev sCurveInit : Stmt := inClass (top 62) 1
abbrev sCurveF : Stmt := inClass (top 62) 3
abbrev sCurveLen : Stmt := inClass (top 62) 10
abbrev sCurveOf : Stmt := top 77
abbrev sLRaised : Stmt := top 83
abbrev sLTrim : Stmt := top 84
abbrev sLInv : Stmt := top 86
abbrev sLMonic : Stmt := top 89
abbrev sLSlope : Stmt := top 91
abbrev sLGenus : Stmt := top 94
abbrev sLNumber : Stmt := top 95
abbrev sLMany : Stmt := top 99
abbrev sLShift : Stmt := top 97
abbrev sLDiv : Stmt := top 87
abbrev sLRest : Stmt := top 88
abbrev sLCommon : Stmt := top 90
abbrev sLFree : Stmt := top 92
abbrev sLMaker : Stmt := top 96
abbrev sLTimes : Stmt := top 85
abbrev sLMonics : Stmt := top 93
abbrev sLClan : Stmt := top 98
abbrev sLSheets : Stmt := top 100
abbrev sLLots : Stmt := top 101
abbrev sLShare : Stmt := top 102
abbrev sLDice : Stmt := top 80
abbrev sLRoll : Stmt := top 81
abbrev sOrder : Stmt := top 72
abbrev sFirst : Stmt := top 73
abbrev sFamInit : Stmt := inClass (top 75) 1
abbrev sNextRows : Stmt := inClass (top 75) 2
abbrev sGather : Stmt := inClass (top 75) 3
abbrev sFamilies : Stmt := top 78
abbrev sLPick : Stmt := top 82
abbrev sLaw : Stmt := top 103
/-- what an object names, as far as the walks ask -/
def refY (o : Obj) : List Addr := match o.data with
  | .dict es _ => es.toList.flatMap fun e => refV e.val
  | .func fd => refV fd.code
  | .cls cd => [cd.ns]
  | .fields vs => (match o.cls with
    | .type t => (match decide (t = "property") with
      | true => vs.toList.flatMap refV
      | false => [])
    | _ => [])
  | _ => []
def stepY (g : Addr → Option Obj) (as : List Addr) : List Addr := as.flatMap fun a => match g a with
  | some o => refY o
  | none => []
/-- in five steps from the module's names: functions, classes; codes, tables of classes; methods; codes, getters; codes -/
def asY (g : Addr → Option Obj) : Nat → List Addr → List Addr
  | 0, as => as
  | n + 1, as => as ++ asY g n (stepY g as)
def kY (g : Addr → Option Obj) : PySem.W.Frag := frT g (asY g 5 [mainGlobals])
abbrev AlY : Type := AlD × Bool
def obsY (fa : List Fa) (fn : List He5.DefA) (tf : List Defn) (ex : PySem.W.Frag → Bool) (g : Addr → Option Obj) : AlY := (He5.obsA fa fn (kY g), ex (kY g) && tabsB g tf (kY g))
def valY (fn : List He5.DefA) : AlY := (He5.valA fn, true)
/-- what the end leans on -/
structure SaysY (fa : List Fa) (fn : List He5.DefA) (tf : List Defn) (ex : PySem.W.Frag → Bool) (h : Heap) (K : PySem.W.Frag) : Prop where
  a : He5.SaysA fa fn K
  more : ex K = true
  hd : ∀ p ∈ tf, PySem.W.codeHdIn K (cT K p).1 (cT K p).2 = true
  out : ∀ p ∈ tf, K.lookup (cT K p).2 = none
  empty : ∀ p ∈ tf, h.get? (cT K p).2 = some { cls := .none, data := .fields #[] }
theorem tab_one {g : Addr → Option Obj} {as : List Addr} {tf : List Defn} (e : tabsB g tf (frT g as) = true) {p : Defn} (hp : p ∈ tf) : PySem.W.codeHdIn (frT g as) (cT (frT g as) p).1 (cT (frT g as) p).2 = true ∧ ∃ o, g (cT (frT g as) p).2 = some o ∧ emptyTab o = true := by
  have q := ba (List.all_eq_true.mp e p hp)
  refine ⟨q.1, ?_⟩
  have q2 := q.2
  split at q2
  · exact ⟨_, ‹_›, q2⟩
  · cases q2
theorem saysY {fa : List Fa} {fn : List He5.DefA} {tf : List Defn} {ex : PySem.W.Frag → Bool} {h : Heap} (e : obsY fa fn tf ex h.get? = valY fn) : SaysY fa fn tf ex h (kY h.get?) := by
  have e1 : He5.obsA fa fn (kY h.get?) = He5.valA fn := congrArg Prod.fst e
  have e2 : (ex (kY h.get?) && tabsB h.get? tf (kY h.get?)) = true := congrArg Prod.snd e
  have e3 := ba e2
  have t : ∀ p ∈ tf, _ := fun p hp => tab_one (as := asY h.get? 5 [mainGlobals]) e3.2 hp
  exact ⟨e1, e3.1, fun p hp => (t p hp).1, fun p hp => (t p hp).2.elim fun o q => frT_none q.1 q.2, fun p hp => (t p hp).2.elim fun o q => by rw [← emptyTab_eq q.2]; exact q.1⟩
def hookY (fa : List Fa) (fn : List He5.DefA) (tf : List Defn) (ex : PySem.W.Frag → Bool) : PySem.W.Hook where
  α := AlY
  obs := fun s => obsY fa fn tf ex s.heap.get?
  val := fun _ => valY fn
  says := fun _ h => ∃ K : PySem.W.Frag, K.In h ∧ SaysY fa fn tf ex h K
  of := fun _ _ e => ⟨kY _, frT_in, saysY e⟩
  keeps := fun _ _ _ ⟨K, hK, c⟩ k => ⟨K, PySem.W.Frag.In.keeps hK k, c.a, c.more, c.hd, c.out, fun p hp => k _ _ (c.empty p hp)⟩
theorem obsY_eq {fa : List Fa} {fn : List He5.DefA} {tf : List Defn} {ex : PySem.W.Frag → Bool} {g : Addr → Option Obj} {s : Shared} (h : ∀ a, g a = s.heap.get? a) : obsY fa fn tf ex g = (hookY fa fn tf ex).obs s := by
  have e : g = s.heap.get? := funext h
  subst e
  rfl
/-! ### classes with slots -/
section
variable (K : PySem.W.Frag)
def clB (x : Str) : Bool := PySem.W.plainGet K (ga K x) Str.empty && (PySem.W.isClsIn K (ga K x) && (PySem.W.plainOver K (ga K x) && (eqO (PySem.W.findIn K (.ref (ga K x)) "__setattr__") (some (some (.builtin "object.__setattr__"))) &&
  (eqO (PySem.W.findIn K (.ref (ga K x)) "__class__") (some (some (.builtin "object.__class__"))) && (eqO (PySem.W.specialIn K (.builtin "object.__class__") "__get__") (some (some (.builtin "getset_descriptor.__get__"))) &&
  (decide (PySem.W.takesIn K (.builtin "object.__class__") = some true) && (decide (PySem.W.mroIn K (ga K x) (.type "object") = some true) && decide (PySem.W.kitOne K (.ref (ga K x)) (.ref (ga K x)) = some true))))))))
def slB (x f : Str) (i : Nat) : Bool := eqO (PySem.W.findIn K (.ref (ga K x)) f) (some (some (.ref (ma K (ga K x) f)))) && (eqO (PySem.W.specialIn K (.ref (ma K (ga K x) f)) "__get__") (some (some (.builtin "member_descriptor.__get__"))) &&
  (decide (PySem.W.takesIn K (.ref (ma K (ga K x) f)) = some true) && (decide (PySem.W.typeIn K (.ref (ma K (ga K x) f)) = some (.type "member_descriptor")) && (decide (PySem.W.slotIn K (ma K (ga K x) f) (ga K x) = some i) && decide (i < 1000)))))
def prB (x f : Str) : Bool := eqO (PySem.W.findIn K (.ref (ga K x)) f) (some (some (.ref (ma K (ga K x) f)))) && (eqO (PySem.W.specialIn K (.ref (ma K (ga K x) f)) "__get__") (some (some (.builtin "property.__get__"))) &&
  (decide (PySem.W.takesIn K (.ref (ma K (ga K x) f)) = some true) && (match PySem.W.recIn K (ma K (ga K x) f) "property" with
    | some (.ref _ :: _) => true
    | _ => false)))
/-- the getter -/
def gf (x f : Str) : Addr := He5.wf K (ga K x) "property" f
end
end Tw
end STwO1
section STwO2
set_option Elab.async false
set_option linter.all false
set_option maxRecDepth 100000
set_option maxHeartbeats 0
/-! The head (2): the facts by names, the run. -/
namespace Tw
open PySem PySem.Spec PyProof.Rows L2 He
def d_sRaised : He5.DefA := ⟨fun K => ga K "raised", "raised", "raised", defArgs sRaised, defBody sRaised, defScope sRaised, [], []⟩
def d_sWhole : He5.DefA := ⟨fun K => ga K "is_whole", "is_whole", "is_whole", defArgs sWhole, defBody sWhole, defScope sWhole, [], []⟩
def d_sInteger : He5.DefA := ⟨fun K => ga K "is_integer", "is_integer", "is_integer", defArgs sInteger, defBody sInteger, defScope sInteger, [], []⟩
def d_sPrime : He5.DefA := ⟨fun K => ga K "is_prime", "is_prime", "is_prime", defArgs sPrime, defBody sPrime, defScope sPrime, [], []⟩
def d_sReqPrime : He5.DefA := ⟨fun K => ga K "require_prime", "require_prime", "require_prime", defArgs sReqPrime, defBody sReqPrime, defScope sReqPrime, [], []⟩
def d_sReqCount : He5.DefA := ⟨fun K => ga K "require_count", "require_count", "require_count", defArgs sReqCount, defBody sReqCount, defScope sReqCount, [], []⟩
def d_sPolyRow : He5.DefA := ⟨fun K => ga K "poly_row", "poly_row", "poly_row", defArgs sPolyRow, defBody sPolyRow, defScope sPolyRow, [], []⟩
def d_sPolyNumber : He5.DefA := ⟨fun K => ga K "poly_number", "poly_number", "poly_number", defArgs sPolyNumber, defBody sPolyNumber, defScope sPolyNumber, [], []⟩
def d_sCurveInit : He5.DefA := ⟨fun K => ma K (ga K "Curve") "__init__", "__init__", "Curve.__init__", defArgs sCurveInit, defBody sCurveInit, defScope sCurveInit, [], []⟩
def d_sCurveF : He5.DefA := ⟨fun K => gf K "Curve" "f", "f", "Curve.f", defArgs sCurveF, defBody sCurveF, defScope sCurveF, [], []⟩
def d_sCurveLen : He5.DefA := ⟨fun K => ma K (ga K "Curve") "__len__", "__len__", "Curve.__len__", defArgs sCurveLen, defBody sCurveLen, defScope sCurveLen, [], []⟩
def d_sCurveOf : He5.DefA := ⟨fun K => ga K "curve_of", "curve_of", "curve_of", defArgs sCurveOf, defBody sCurveOf, defScope sCurveOf, [], []⟩
def d_sPolyTerm : He5.DefA := ⟨fun K => ga K "poly_term", "poly_term", "poly_term", defArgs sPolyTerm, defBody sPolyTerm, defScope sPolyTerm, [], []⟩
def d_sPolyText : He5.DefA := ⟨fun K => ga K "poly_text", "poly_text", "poly_text", defArgs sPolyText, defBody sPolyText, defScope sPolyText, [], []⟩
def d_sEntInit : He5.DefA := ⟨fun K => ma K (ga K "Entries") "__init__", "__init__", "Entries.__init__", defArgs sEntInit, defBody sEntInit, defScope sEntInit, [], []⟩
def d_sMade : He5.DefA := ⟨fun K => ga K "made", "made", "made", defArgs sMade, defBody sMade, defScope sMade, [], []⟩
def d_sPolyInit : He5.DefA := ⟨fun K => ma K (ga K "Poly") "__init__", "__init__", "Poly.__init__", defArgs sPolyInit, defBody sPolyInit, defScope sPolyInit, [], []⟩
def d_sPPrime : He5.DefA := ⟨fun K => gf K "Poly" "prime", "prime", "Poly.prime", defArgs sPPrime, defBody sPPrime, defScope sPPrime, [], []⟩
def d_sPEntries : He5.DefA := ⟨fun K => gf K "Poly" "entries", "entries", "Poly.entries", defArgs sPEntries, defBody sPEntries, defScope sPEntries, [], []⟩
def d_sPDegree : He5.DefA := ⟨fun K => gf K "Poly" "degree", "degree", "Poly.degree", defArgs sPDegree, defBody sPDegree, defScope sPDegree, [], []⟩
def d_sPLead : He5.DefA := ⟨fun K => gf K "Poly" "lead", "lead", "Poly.lead", defArgs sPLead, defBody sPLead, defScope sPLead, [], []⟩
def d_sPZero : He5.DefA := ⟨fun K => gf K "Poly" "is_zero", "is_zero", "Poly.is_zero", defArgs sPZero, defBody sPZero, defScope sPZero, [], []⟩
def d_sPStr : He5.DefA := ⟨fun K => ma K (ga K "Poly") "__str__", "__str__", "Poly.__str__", defArgs sPStr, defBody sPStr, defScope sPStr, [], []⟩
def d_sReqPoly : He5.DefA := ⟨fun K => ga K "require_poly", "require_poly", "require_poly", defArgs sReqPoly, defBody sReqPoly, defScope sReqPoly, [], []⟩
def d_sReqSame : He5.DefA := ⟨fun K => ga K "require_same_prime", "require_same_prime", "require_same_prime", defArgs sReqSame, defBody sReqSame, defScope sReqSame, [], []⟩
def d_sReqDiv : He5.DefA := ⟨fun K => ga K "require_divisor", "require_divisor", "require_divisor", defArgs sReqDiv, defBody sReqDiv, defScope sReqDiv, [], []⟩
def d_sPolyInv : He5.DefA := ⟨fun K => ga K "poly_inverse", "poly_inverse", "poly_inverse", defArgs sPolyInv, defBody sPolyInv, defScope sPolyInv, [], []⟩
def d_sPolyDiv : He5.DefA := ⟨fun K => ga K "poly_divided", "poly_divided", "poly_divided", defArgs sPolyDiv, defBody sPolyDiv, defScope sPolyDiv, [], []⟩
def d_sPMod : He5.DefA := ⟨fun K => ma K (ga K "Poly") "__mod__", "__mod__", "Poly.__mod__", defArgs sPMod, defBody sPMod, defScope sPMod, [], []⟩
def d_sResidue : He5.DefA := ⟨fun K => ga K "is_residue_of", "is_residue_of", "is_residue_of", defArgs sResidue, defBody sResidue, defScope sResidue, [], []⟩
def d_sPCall : He5.DefA := ⟨fun K => ma K (ga K "Poly") "__call__", "__call__", "Poly.__call__", defArgs sPCall, defBody sPCall, defScope sPCall, [], []⟩
def d_sPScaled : He5.DefA := ⟨fun K => ma K (ga K "Poly") "scaled", "scaled", "Poly.scaled", defArgs sPScaled, defBody sPScaled, defScope sPScaled, [], []⟩
def d_sPMonic : He5.DefA := ⟨fun K => ma K (ga K "Poly") "monic", "monic", "Poly.monic", defArgs sPMonic, defBody sPMonic, defScope sPMonic, [], []⟩
def d_sPDer : He5.DefA := ⟨fun K => ma K (ga K "Poly") "derivative", "derivative", "Poly.derivative", defArgs sPDer, defBody sPDer, defScope sPDer, [], []⟩
def d_sMonOrZero : He5.DefA := ⟨fun K => ga K "monic_or_zero", "monic_or_zero", "monic_or_zero", defArgs sMonOrZero, defBody sMonOrZero, defScope sMonOrZero, [], []⟩
def d_sCommon : He5.DefA := ⟨fun K => ga K "common_of", "common_of", "common_of", defArgs sCommon, defBody sCommon, defScope sCommon, [], []⟩
def d_sSqf : He5.DefA := ⟨fun K => ga K "is_square_free", "is_square_free", "is_square_free", defArgs sSqf, defBody sSqf, defScope sSqf, [], []⟩
def d_sPolyAt : He5.DefA := ⟨fun K => ga K "poly_at", "poly_at", "poly_at", defArgs sPolyAt, defBody sPolyAt, defScope sPolyAt, [], []⟩
def d_sCurvesIn : He5.DefA := ⟨fun K => ga K "curves_in", "curves_in", "curves_in", defArgs sCurvesIn, defBody sCurvesIn, defScope sCurvesIn, [], []⟩
def d_sCountCurves : He5.DefA := ⟨fun K => ga K "count_curves", "count_curves", "count_curves", defArgs sCountCurves, defBody sCountCurves, defScope sCountCurves, [], []⟩
def d_sChangesIn : He5.DefA := ⟨fun K => ga K "changes_in", "changes_in", "changes_in", defArgs sChangesIn, defBody sChangesIn, defScope sChangesIn, [], []⟩
def d_sMass : He5.DefA := ⟨fun K => ga K "mass", "mass", "mass", defArgs sMass, defBody sMass, defScope sMass, [], []⟩
def d_sMovedOn : He5.DefA := ⟨fun K => ga K "moved_on", "moved_on", "moved_on", defArgs sMovedOn, defBody sMovedOn, defScope sMovedOn, [], []⟩
def d_sFormRow : He5.DefA := ⟨fun K => ga K "form_row", "form_row", "form_row", defArgs sFormRow, defBody sFormRow, defScope sFormRow, [], []⟩
def d_sRoots : He5.DefA := ⟨fun K => ga K "square_roots", "square_roots", "square_roots", defArgs sRoots, defBody sRoots, defScope sRoots, [], []⟩
def d_sKindIn : He5.DefA := ⟨fun K => ga K "kind_in", "kind_in", "kind_in", defArgs sKindIn, defBody sKindIn, defScope sKindIn, [], []⟩
def d_sRimsIn : He5.DefA := ⟨fun K => ga K "rims_in", "rims_in", "rims_in", defArgs sRimsIn, defBody sRimsIn, defScope sRimsIn, [], []⟩
def d_sPointsIn : He5.DefA := ⟨fun K => ga K "points_in", "points_in", "points_in", defArgs sPointsIn, defBody sPointsIn, defScope sPointsIn, [], []⟩
def d_sFirst : He5.DefA := ⟨fun K => ga K "first_generator", "first_generator", "first_generator", defArgs sFirst, defBody sFirst, defScope sFirst, [], []⟩
def d_sLRaised : He5.DefA := ⟨fun K => ga K "_law_raised", "_law_raised", "_law_raised", defArgs sLRaised, defBody sLRaised, defScope sLRaised, [], []⟩
def d_sLTrim : He5.DefA := ⟨fun K => ga K "_law_trim", "_law_trim", "_law_trim", defArgs sLTrim, defBody sLTrim, defScope sLTrim, [], []⟩
def d_sLInv : He5.DefA := ⟨fun K => ga K "_law_inverse", "_law_inverse", "_law_inverse", defArgs sLInv, defBody sLInv, defScope sLInv, [], []⟩
def d_sLMonic : He5.DefA := ⟨fun K => ga K "_law_monic", "_law_monic", "_law_monic", defArgs sLMonic, defBody sLMonic, defScope sLMonic, [], []⟩
def d_sLSlope : He5.DefA := ⟨fun K => ga K "_law_slope", "_law_slope", "_law_slope", defArgs sLSlope, defBody sLSlope, defScope sLSlope, [], []⟩
def d_sLGenus : He5.DefA := ⟨fun K => ga K "_law_genus", "_law_genus", "_law_genus", defArgs sLGenus, defBody sLGenus, defScope sLGenus, [], []⟩
def d_sLNumber : He5.DefA := ⟨fun K => ga K "_law_number", "_law_number", "_law_number", defArgs sLNumber, defBody sLNumber, defScope sLNumber, [], []⟩
def d_sLMany : He5.DefA := ⟨fun K => ga K "_law_many_changes", "_law_many_changes", "_law_many_changes", defArgs sLMany, defBody sLMany, defScope sLMany, [], []⟩
def d_sLShift : He5.DefA := ⟨fun K => ga K "_law_shifted", "_law_shifted", "_law_shifted", defArgs sLShift, defBody sLShift, defScope sLShift, [], []⟩
def d_sLDiv : He5.DefA := ⟨fun K => ga K "_law_divided", "_law_divided", "_law_divided", defArgs sLDiv, defBody sLDiv, defScope sLDiv, [], []⟩
def d_sLRest : He5.DefA := ⟨fun K => ga K "_law_rest", "_law_rest", "_law_rest", defArgs sLRest, defBody sLRest, defScope sLRest, [], []⟩
def d_sLCommon : He5.DefA := ⟨fun K => ga K "_law_common", "_law_common", "_law_common", defArgs sLCommon, defBody sLCommon, defScope sLCommon, [], []⟩
def d_sLFree : He5.DefA := ⟨fun K => ga K "_law_is_free", "_law_is_free", "_law_is_free", defArgs sLFree, defBody sLFree, defScope sLFree, [], []⟩
def d_sLMaker : He5.DefA := ⟨fun K => ga K "_law_maker", "_law_maker", "_law_maker", defArgs sLMaker, defBody sLMaker, defScope sLMaker, [], []⟩
def d_sLTimes : He5.DefA := ⟨fun K => ga K "_law_times", "_law_times", "_law_times", defArgs sLTimes, defBody sLTimes, defScope sLTimes, [], []⟩
def d_sLMonics : He5.DefA := ⟨fun K => ga K "_law_monics", "_law_monics", "_law_monics", defArgs sLMonics, defBody sLMonics, defScope sLMonics, [], []⟩
def d_sLClan : He5.DefA := ⟨fun K => ga K "_law_clan", "_law_clan", "_law_clan", defArgs sLClan, defBody sLClan, defScope sLClan, [], []⟩
def d_sLSheets : He5.DefA := ⟨fun K => ga K "_law_sheets_of", "_law_sheets_of", "_law_sheets_of", defArgs sLSheets, defBody sLSheets, defScope sLSheets, [], []⟩
def d_sLLots : He5.DefA := ⟨fun K => ga K "_law_lots", "_law_lots", "_law_lots", defArgs sLLots, defBody sLLots, defScope sLLots, [], []⟩
def d_sLShare : He5.DefA := ⟨fun K => ga K "_law_is_share", "_law_is_share", "_law_is_share", defArgs sLShare, defBody sLShare, defScope sLShare, [], []⟩
def d_sLDice : He5.DefA := ⟨fun K => ga K "_law_dice", "_law_dice", "_law_dice", defArgs sLDice, defBody sLDice, defScope sLDice, [], []⟩
def d_sLRoll : He5.DefA := ⟨fun K => ga K "_law_roll", "_law_roll", "_law_roll", defArgs sLRoll, defBody sLRoll, defScope sLRoll, [], []⟩
def d_sFamInit : He5.DefA := ⟨fun K => ma K (ga K "Family") "__init__", "__init__", "Family.__init__", defArgs sFamInit, defBody sFamInit, defScope sFamInit, [], []⟩
def d_sNextRows : He5.DefA := ⟨fun K => ma K (ga K "Family") "next_rows", "next_rows", "Family.next_rows", defArgs sNextRows, defBody sNextRows, defScope sNextRows, [], []⟩
def d_sGather : He5.DefA := ⟨fun K => ma K (ga K "Family") "gather", "gather", "Family.gather", defArgs sGather, defBody sGather, defScope sGather, [], []⟩
def d_sFamilies : He5.DefA := ⟨fun K => ga K "families", "families", "families", defArgs sFamilies, defBody sFamilies, defScope sFamilies, [], []⟩
def d_sLPick : He5.DefA := ⟨fun K => ga K "_law_pick", "_law_pick", "_law_pick", defArgs sLPick, defBody sLPick, defScope sLPick, [], []⟩
def d_sLaw : He5.DefA := ⟨fun K => ga K "law", "law", "law", defArgs sLaw, defBody sLaw, defScope sLaw, [], []⟩
def d_sOrder : He5.DefA := ⟨fun K => ga K "order_of", "order_of", "order_of", defArgs sOrder, defBody sOrder, defScope sOrder, [], []⟩
def faY0 : List Fa := [.glo "raised", .glo "is_whole", .glo "is_integer", .glo "is_prime", .glo "require_prime", .glo "require_count", .glo "poly_row", .glo "poly_number", .glo "curve_of", .glo "poly_term", .glo "poly_text", .glo "made", .glo "require_poly", .glo "require_same_prime", .glo "require_divisor", .glo "poly_inverse", .glo "poly_divided", .glo "is_residue_of", .glo "monic_or_zero", .glo "common_of", .glo "is_square_free", .glo "poly_at", .glo "curves_in", .glo "count_curves", .glo "changes_in", .glo "mass", .glo "moved_on", .glo "form_row", .glo "square_roots", .glo "kind_in"]
def faY1 : List Fa := [.glo "rims_in", .glo "points_in", .glo "first_generator", .glo "_law_raised", .glo "_law_trim", .glo "_law_inverse", .glo "_law_monic", .glo "_law_slope", .glo "_law_genus", .glo "_law_number", .glo "_law_many_changes", .glo "_law_shifted", .glo "_law_divided", .glo "_law_rest", .glo "_law_common", .glo "_law_is_free", .glo "_law_maker", .glo "_law_times", .glo "_law_monics", .glo "_law_clan", .glo "_law_sheets_of", .glo "_law_lots", .glo "_law_is_share", .glo "_law_dice", .glo "_law_roll", .glo "families", .glo "_law_pick", .glo "law", .glo "order_of", .glo "Entries"]
def faY2 : List Fa := [.glo "Poly", .glo "Curve", .glo "Family", .glo "PRIMES", .free "abs", .free "enumerate", .free "int", .free "isinstance", .free "len", .free "list", .free "max", .free "min", .free "next", .free "range", .free "sorted", .free "str", .free "sum", .free "tuple", .free "zip", .free "bool", .int "GREAT" (10 ^ 60), .int "MAX_FAMILY" 100000, .int "MAX_GENUS" 99, .int "MAX_LISTED_GENUS" 3, .int "MAX_DEGREE" 8, .str "RIM" "rim", .str "ONE" "one", .str "TWO" "two", .str "NONE" "none", .str "LETTER" "x"]
def faY3 : List Fa := [.mkr "Entries", .mkr "Poly", .mkr "Curve", .mkr "Family", .meth "Curve" "__len__", .meth "Poly" "__str__", .meth "Poly" "__mod__", .meth "Poly" "__call__", .meth "Poly" "scaled", .meth "Poly" "monic", .meth "Poly" "derivative", .meth "Family" "next_rows", .meth "Family" "gather"]
def faY : List Fa := faY0 ++ faY1 ++ faY2 ++ faY3
def fnY0 : List He5.DefA := [d_sRaised, d_sWhole, d_sInteger, d_sPrime, d_sReqPrime, d_sReqCount, d_sPolyRow, d_sPolyNumber, d_sCurveInit, d_sCurveF, d_sCurveLen, d_sCurveOf, d_sPolyTerm, d_sPolyText, d_sEntInit, d_sMade, d_sPolyInit, d_sPPrime, d_sPEntries, d_sPDegree, d_sPLead, d_sPZero, d_sPStr, d_sReqPoly, d_sReqSame, d_sReqDiv, d_sPolyInv, d_sPolyDiv, d_sPMod, d_sResidue]
def fnY1 : List He5.DefA := [d_sPCall, d_sPScaled, d_sPMonic, d_sPDer, d_sMonOrZero, d_sCommon, d_sSqf, d_sPolyAt, d_sCurvesIn, d_sCountCurves, d_sChangesIn, d_sMass, d_sMovedOn, d_sFormRow, d_sRoots, d_sKindIn, d_sRimsIn, d_sPointsIn, d_sFirst, d_sLRaised, d_sLTrim, d_sLInv, d_sLMonic, d_sLSlope, d_sLGenus, d_sLNumber, d_sLMany, d_sLShift, d_sLDiv, d_sLRest]
def fnY2 : List He5.DefA := [d_sLCommon, d_sLFree, d_sLMaker, d_sLTimes, d_sLMonics, d_sLClan, d_sLSheets, d_sLLots, d_sLShare, d_sLDice, d_sLRoll, d_sFamInit, d_sNextRows, d_sGather, d_sFamilies, d_sLPick, d_sLaw, d_sOrder]
def fnY : List He5.DefA := fnY0 ++ fnY1 ++ fnY2
def tfY : List Defn := [("first_generator", none), ("Family", some "gather")]
def exY (K : PySem.W.Frag) : Bool := [clB K "Entries",
  clB K "Poly",
  clB K "Curve",
  clB K "Family",
  slB K "Entries" "own_row" 0,
  slB K "Poly" "own_entries" 0,
  slB K "Poly" "own_lead" 1,
  slB K "Poly" "own_number" 2,
  slB K "Poly" "own_prime" 3,
  slB K "Poly" "own_text" 4,
  slB K "Curve" "own_f" 0,
  slB K "Curve" "own_genus" 1,
  slB K "Curve" "own_kind" 2,
  slB K "Curve" "own_points" 3,
  slB K "Curve" "own_prime" 4,
  slB K "Curve" "own_rims" 5,
  slB K "Curve" "own_text" 6,
  slB K "Family" "own_generator" 0,
  slB K "Family" "own_prime" 1,
  slB K "Family" "own_rows" 2,
  prB K "Curve" "f",
  prB K "Poly" "prime",
  prB K "Poly" "entries",
  prB K "Poly" "degree",
  prB K "Poly" "lead",
  prB K "Poly" "is_zero",
  tupB K "PRIMES" [.int 3, .int 5, .int 7, .int 11, .int 13, .int 17, .int 19, .int 23, .int 29, .int 31],
  PySem.W.selfFirst K (ga K "Poly"),
  eqO (PySem.W.findIn K (.ref (ga K "Poly")) "__format__") (some (some (.builtin "object.__format__"))),
  !Nat.beq (cT K ("first_generator", none)).2 (cT K ("Family", some "gather")).2,
  !Nat.beq (ga K "Curve") (ga K "Poly")].all fun b => b
def nmY0 : List PySem.Str := [("_wall" : PySem.Str), ("CurveError" : PySem.Str), ("InvalidPrime" : PySem.Str), ("InvalidPoly" : PySem.Str), ("InvalidCurve" : PySem.Str), ("InvalidOperation" : PySem.Str), ("ParseError" : PySem.Str), ("InvalidCount" : PySem.Str), ("TooMany" : PySem.Str), ("PRIMES" : PySem.Str), ("GREAT" : PySem.Str), ("is_whole" : PySem.Str), ("is_integer" : PySem.Str), ("is_prime" : PySem.Str), ("require_prime" : PySem.Str), ("require_count" : PySem.Str), ("is_residue_of" : PySem.Str), ("MAX_ENTRIES" : PySem.Str), ("MAX_POWER" : PySem.Str), ("MOST_SIGNS" : PySem.Str), ("MOST_FIGURES" : PySem.Str), ("FIGURES" : PySem.Str), ("LETTER" : PySem.Str), ("Entries" : PySem.Str), ("poly_row" : PySem.Str), ("made" : PySem.Str), ("constant" : PySem.Str), ("are_poly_entries" : PySem.Str), ("poly_number" : PySem.Str), ("poly_term" : PySem.Str), ("poly_text" : PySem.Str), ("poly_figures" : PySem.Str), ("poly_term_in" : PySem.Str), ("poly_row_in" : PySem.Str), ("poly_sum" : PySem.Str)]
def nmY1 : List PySem.Str := [("poly_opposite" : PySem.Str), ("poly_product" : PySem.Str), ("poly_inverse" : PySem.Str), ("poly_divided" : PySem.Str), ("Poly" : PySem.Str), ("require_poly" : PySem.Str), ("require_same_prime" : PySem.Str), ("require_divisor" : PySem.Str), ("poly_at" : PySem.Str), ("monic_or_zero" : PySem.Str), ("common_of" : PySem.Str), ("is_square_free" : PySem.Str), ("MAX_DEGREE" : PySem.Str), ("RIM" : PySem.Str), ("ONE" : PySem.Str), ("TWO" : PySem.Str), ("NONE" : PySem.Str), ("square_roots" : PySem.Str), ("kind_in" : PySem.Str), ("rims_in" : PySem.Str), ("points_in" : PySem.Str), ("is_plain" : PySem.Str), ("Curve" : PySem.Str), ("MAX_FAMILY" : PySem.Str), ("MAX_GENUS" : PySem.Str), ("MAX_LISTED_GENUS" : PySem.Str), ("raised" : PySem.Str), ("curves_in" : PySem.Str), ("count_curves" : PySem.Str), ("changes_in" : PySem.Str), ("mass" : PySem.Str), ("order_of" : PySem.Str), ("first_generator" : PySem.Str), ("moved_on" : PySem.Str), ("Family" : PySem.Str)]
def nmY2 : List PySem.Str := [("form_row" : PySem.Str), ("curve_of" : PySem.Str), ("families" : PySem.Str), ("_law_dice" : PySem.Str), ("_law_roll" : PySem.Str), ("_law_pick" : PySem.Str), ("_law_raised" : PySem.Str), ("_law_trim" : PySem.Str), ("_law_times" : PySem.Str), ("_law_inverse" : PySem.Str), ("_law_divided" : PySem.Str), ("_law_rest" : PySem.Str), ("_law_monic" : PySem.Str), ("_law_common" : PySem.Str), ("_law_slope" : PySem.Str), ("_law_is_free" : PySem.Str), ("_law_monics" : PySem.Str), ("_law_genus" : PySem.Str), ("_law_number" : PySem.Str), ("_law_maker" : PySem.Str), ("_law_shifted" : PySem.Str), ("_law_clan" : PySem.Str), ("_law_many_changes" : PySem.Str), ("_law_sheets_of" : PySem.Str), ("_law_lots" : PySem.Str), ("_law_is_share" : PySem.Str)]
def namesY : List PySem.Str := nmY0 ++ nmY1 ++ nmY2
abbrev RwY : PySem.W.OpenRow := PySem.W.OpenLaw.row PySem.Challenge.rw_twinsheets_k87_whole_families_by_all_cur
abbrev qvY : Program := PySem.W.view RwY.prog [103]
abbrev hkY : PySem.W.Hook := hookY faY fnY tfY exY
def obY (s : PySem.W.SharedT) : AlY := obsY faY fnY tfY exY (HandSHeadRun.getT s)
theorem obY_eq (s : PySem.W.SharedT) : obY s = hkY.obs s.abs := obsY_eq (HandSHeadRun.getT_eq s)
end Tw
end STwO2
section STwO3
set_option Elab.async false
set_option linter.all false
set_option maxRecDepth 100000
set_option maxHeartbeats 0
/-! The head (3): the run. -/
namespace Tw
open PySem PySem.Spec PyProof.Rows L2 He
theorem runY (w : World) : HandSHeadRun.RunEq RwY qvY hkY obY 8000 namesY w := by
  intro os
  kernel_rfl
end Tw
end STwO3
section STwA
set_option Elab.async false
set_option linter.all false
set_option maxRecDepth 100000
set_option maxHeartbeats 4000000
/-! A small typed layer over the hand layer: heaps that only grow, values by singleton types, one judgement for derivation and reading. -/
namespace Tw
open PySem PySem.Spec PyProof.Rows L2

/-! ### heaps that grow -/
/-- two tables of code objects may grow: that of a generator expression's def (P), that of a lambda's def (L, its code's name q) -/
structure Tb where
  P : Addr
  L : Addr
  q : Str
def Tbl (tb : Tb) (H : Hp) : Prop := GxR.TabG H tb.P ∧ LamX.TabS H tb.L tb.q
structure Ex (tb : Tb) (H H' : Hp) : Prop where
  keep : ∀ b o, H b = some o → (∀ ps, o ≠ .tbl ps) → H' b = some o
  dom : ∀ b, H' b = none → H b = none
  tab : Tbl tb H → Tbl tb H'
/-- neither a table nor a code object -/
def NotC (u : HO) : Prop := (∀ ps, u ≠ .tbl ps) ∧ ∀ c q, u ≠ LamX.CodeO c q
section
variable {tb : Tb} {H H' H1 H2 H3 : Hp} {p : Addr} {o u : HO}
theorem Ex.refl : Ex tb H H := ⟨fun _ _ h _ => h, fun _ h => h, fun h => h⟩
theorem Ex.trans (a : Ex tb H H1) (b : Ex tb H1 H2) : Ex tb H H2 := ⟨fun x o h n => b.keep x o (a.keep x o h n) n, fun x h => a.dom x (b.dom x h), fun h => b.tab (a.tab h)⟩
theorem notC_lst {xs : List V} : NotC (.lst xs) := ⟨(fun _ z => nomatch z), fun _ _ z => by unfold LamX.CodeO at z; cases z⟩
theorem notC_tup {xs : List V} : NotC (.tup xs) := ⟨(fun _ z => nomatch z), fun _ _ z => by unfold LamX.CodeO at z; cases z⟩
theorem notC_dT {kvs : List (List Key × V)} : NotC (.dT kvs) := ⟨(fun _ z => nomatch z), fun _ _ z => by unfold LamX.CodeO at z; cases z⟩
theorem notC_ins {C d : Addr} {fs : List (Str × V)} : NotC (.ins C d fs) := ⟨(fun _ z => nomatch z), fun _ _ z => by unfold LamX.CodeO at z; cases z⟩
theorem notC_own {d : Addr} : NotC (.own d) := ⟨(fun _ z => nomatch z), fun _ _ z => by unfold LamX.CodeO at z; cases z⟩
theorem notC_xd {fs : List (Str × V)} : NotC (.xd fs) := ⟨(fun _ z => nomatch z), fun _ _ z => by unfold LamX.CodeO at z; cases z⟩
theorem notC_slo {a C dx : Addr} {vs : List (Option V)} : NotC (SlX.SlO a C dx vs) := by
  refine ⟨(fun _ z => by unfold SlX.SlO at z; cases z), fun c q z => ?_⟩
  unfold SlX.SlO LamX.CodeO at z
  injection z with z
  -- a heap with a code object at c, a plain one elsewhere
  let g0 : Heap := ⟨((List.replicate (max a c + 1) ({ cls := .none, data := .plain } : Obj)).toArray).setIfInBounds c { cls := .none, data := .fields #[.none, .str q 0] }, {}⟩
  have hc : g0.get? c = some { cls := .none, data := .fields #[.none, .str q 0] } := by
    have e : g0.objs[c]? = some { cls := .none, data := .fields #[.none, .str q 0] } := by
      simp only [g0]
      rw [Array.getElem?_setIfInBounds_self]
      rw [if_pos (by simp; omega)]
    unfold Heap.get?
    rw [e]
  have h3 : (fun h : Heap => ∃ (oc : Obj) (vs : Array Value) (t : Tok), h.get? c = some oc ∧ oc.data = .fields vs ∧ vs[1]? = some (.str q t)) g0 := ⟨_, _, 0, hc, rfl, rfl⟩
  rw [← z] at h3
  obtain ⟨sl3, e3, _⟩ := h3
  by_cases ca : c = a
  · subst ca
    rw [hc] at e3
    have e4 : Data.fields #[.none, .str q 0] = Data.plain := congrArg Obj.data (Option.some.inj e3)
    cases e4
  · have ha : g0.get? a = some { cls := .none, data := .plain } := by
      have e : g0.objs[a]? = some { cls := .none, data := .plain } := by
        simp only [g0]
        rw [Array.getElem?_setIfInBounds_ne ca, List.getElem?_toArray, List.getElem?_replicate, if_pos (by omega)]
      unfold Heap.get?
      rw [e]
    rw [ha] at e3
    have e4 : Value.none = Value.ref C := congrArg Obj.cls (Option.some.inj e3)
    cases e4
theorem Tbl.upd (t : Tbl tb H) (h : ∀ u, H p = some u → NotC u) : Tbl tb (L2.upd H p o) := by
  obtain ⟨⟨ps, h1, h2⟩, ⟨qs, h3, h4, h5⟩⟩ := t
  have n1 : tb.P ≠ p := fun z => (h _ (by rw [← z]; exact h1)).1 ps rfl
  have n2 : tb.L ≠ p := fun z => (h _ (by rw [← z]; exact h3)).1 qs rfl
  refine ⟨⟨ps, by rw [upd_ne n1]; exact h1, h2⟩, ⟨qs, by rw [upd_ne n2]; exact h3, h4, fun pos cv e => ?_⟩⟩
  obtain ⟨c, e1, e2⟩ := h5 pos cv e
  refine ⟨c, e1, ?_⟩
  rw [upd_ne (fun z => (h _ (by rw [← z]; exact e2)).2 c tb.q rfl)]
  exact e2
theorem Ex.new (h : H p = none) : Ex tb H (upd H p o) := by
  refine ⟨fun a u e _ => by rw [upd_ne (ne_of_none e h)]; exact e, fun b e => ?_, fun t => t.upd fun u e => by rw [h] at e; cases e⟩
  by_cases hb : b = p
  · rw [hb]; exact h
  · rw [upd_ne hb] at e; exact e
/-- an object that H does not know may change -/
theorem Ex.mut (e : Ex tb H H') (h : H p = none) (h1 : ∀ u, H' p = some u → NotC u) : Ex tb H (upd H' p o) := by
  refine ⟨fun a u ha n => by rw [upd_ne (ne_of_none ha h)]; exact e.keep a u ha n, fun b z => ?_, fun t => (e.tab t).upd h1⟩
  by_cases hb : b = p
  · rw [hb]; exact h
  · rw [upd_ne hb] at z; exact e.dom b z
/-- one more object is known to stay -/
theorem Ex.and (e : Ex tb H H') (h : H' p = some u) (hu : NotC u) (h0 : H p = none ∨ H p = some u) : Ex tb (upd H p u) H' := by
  refine ⟨fun a o ha n => ?_, fun b z => ?_, fun t => e.tab ?_⟩
  · by_cases hb : a = p
    · subst hb; rw [upd_same] at ha; cases ha; exact h
    · rw [upd_ne hb] at ha; exact e.keep a o ha n
  · by_cases hb : b = p
    · subst hb; rw [h] at z; cases z
    · rw [upd_ne hb]; exact e.dom b z
  · have e2 : H = upd (upd H p u) p u ∨ H p = none := by
      rcases h0 with z | z
      · exact .inr z
      · refine .inl ?_
        funext b
        by_cases hb : b = p
        · subst hb; rw [upd_same]; exact z
        · rw [upd_ne hb, upd_ne hb]
    rcases e2 with z | z
    · rw [z]; exact t.upd fun w hw => by rw [upd_same] at hw; cases hw; exact hu
    · obtain ⟨⟨ps, h1, h2⟩, ⟨qs, h3, h4, h5⟩⟩ := t
      have n1 : tb.P ≠ p := fun y => by rw [y, upd_same] at h1; exact hu.1 ps (Option.some.inj h1)
      have n2 : tb.L ≠ p := fun y => by rw [y, upd_same] at h3; exact hu.1 qs (Option.some.inj h3)
      rw [upd_ne n1] at h1
      rw [upd_ne n2] at h3
      refine ⟨⟨ps, h1, h2⟩, ⟨qs, h3, h4, fun pos cv y => ?_⟩⟩
      obtain ⟨c, e1, e2⟩ := h5 pos cv y
      refine ⟨c, e1, ?_⟩
      rw [upd_ne (fun y => by rw [y, upd_same] at e2; exact hu.2 _ _ (Option.some.inj e2))] at e2
      exact e2
/-- .. and forgotten again -/
theorem Ex.un (e : Ex tb (upd H p u) H') (h0 : H p = none ∨ H p = some u) : Ex tb H H' := by
  rcases h0 with z | z
  · exact (Ex.new z).trans e
  · have e2 : upd H p u = H := by
      funext b
      by_cases hb : b = p
      · subst hb; rw [upd_same]; exact z.symm
      · rw [upd_ne hb]
    rw [← e2]
    exact e
theorem none_upd {a : Addr} (h : H a = none) (n : a ≠ p) : upd H p u a = none := by rw [upd_ne n]; exact h
end
end Tw
end STwA
section STwB
set_option Elab.async false
set_option linter.all false
set_option maxRecDepth 100000
set_option maxHeartbeats 4000000
/-! Types of values, environments, the judgements. -/
namespace Tw
open PySem PySem.Spec PyProof.Rows L2

/-- objects that never change (but for an instance that is being made) -/
def imm : HO → Bool
  | .tup _ => true
  | .ins _ _ _ => true
  | .own _ => true
  | .xd _ => true
  | .met _ _ => true
  | .ext _ => true
  | _ => false
def vn (n : Nat) : V := .int (n : Int)
theorem imm_ntbl {o : HO} (h : imm o = true) : ∀ ps, o ≠ .tbl ps := fun ps z => by subst z; cases h

/-- an instance with slots; what stands at its dict's address -/
def SltD (H : Hp) (a C dx : Addr) (vs : List (Option V)) : Prop := SlX.Slt H a C dx vs ∧ ∃ y, H dx = some (.own y) ∨ H dx = some (.xd [])
/-! ### what holds of a value for ever -/
structure Im where
  is : V → Hp → Prop
  mono : ∀ {H H' : Hp} {v : V}, (∀ b o, H b = some o → imm o = true → H' b = some o) → is v H → is v H'
  sl : Addr → Prop
  slot : ∀ {H : Hp} {a C dx : Addr} {vs vs' : List (Option V)} {v : V}, sl C → SltD H a C dx vs → is v H → is v (SlX.slH H a C dx vs')
/-- .. as long as the objects at fp stay -/
structure Ty where
  is : V → Hp → Prop
  fp : List Addr
  mono : ∀ {H H' : Hp} {v : V}, (∀ b o, H b = some o → imm o = true ∨ b ∈ fp → (∀ ps, o ≠ .tbl ps) → H' b = some o) → is v H → is v H'
  dom : ∀ {H : Hp} {v : V} {b : Addr}, is v H → b ∈ fp → ∃ o, H b = some o ∧ imm o = false ∧ NotC o
  sl : Addr → Prop
  slot : ∀ {H : Hp} {a C dx : Addr} {vs vs' : List (Option V)} {v : V}, sl C → SltD H a C dx vs → is v H → is v (SlX.slH H a C dx vs')
def Im.ty (T : Im) : Ty where
  is := T.is
  fp := []
  mono := fun k h => T.mono (fun b o e i => k b o e (.inl i) (imm_ntbl i)) h
  dom := fun _ h => nomatch h
  sl := T.sl
  slot := T.slot
section
variable {tb : Tb} {H H' : Hp} {v : V}
theorem Ty.ex (T : Ty) (e : Ex tb H H') (h : T.is v H) : T.is v H' := T.mono (fun b o q _ n => e.keep b o q n) h
theorem Im.ex (T : Im) (e : Ex tb H H') (h : T.is v H) : T.is v H' := T.mono (fun b o q i => e.keep b o q (imm_ntbl i)) h
end
theorem slt_ne {H : Hp} {a C dx b : Addr} {vs : List (Option V)} {o : HO} (s : SltD H a C dx vs) (h : H b = some o)
    (h1 : ∀ C d fs, o ≠ .ins C d fs) (h2 : ∀ φ, o ≠ .ext φ) (h3 : ∀ x, o ≠ .own x) (h4 : o ≠ .xd []) : b ≠ a ∧ b ≠ dx := by
  refine ⟨fun z => ?_, fun z => ?_⟩
  · subst z
    rcases s.1 with ⟨s1, _⟩ | ⟨s1, _⟩
    · rw [h] at s1; exact h1 _ _ _ (Option.some.inj s1)
    · rw [h] at s1; exact h2 _ (Option.some.inj s1)
  · subst z
    obtain ⟨y, q | q⟩ := s.2
    · rw [h] at q; exact h3 y (Option.some.inj q)
    · rw [h] at q; exact h4 (Option.some.inj q)
/-- behind a store to a slot tuples, lists, dicts stand as before -/
theorem slH_keep {H : Hp} {a C dx b : Addr} {vs vs' : List (Option V)} {o : HO} (s : SltD H a C dx vs) (h : H b = some o)
    (h1 : ∀ C d fs, o ≠ .ins C d fs) (h2 : ∀ φ, o ≠ .ext φ) (h3 : ∀ x, o ≠ .own x) (h4 : o ≠ .xd []) : SlX.slH H a C dx vs' b = some o := by
  obtain ⟨n1, n2⟩ := slt_ne s h h1 h2 h3 h4
  rw [SlX.slH_ne n1 n2]; exact h
/-! ### the types -/
/-- a value that is no object -/
def kC (c : V) : Im := ⟨fun v _ => v = c, fun _ h => h, fun _ => True, fun _ _ h => h⟩
abbrev kI (i : Int) : Im := kC (.int i)
abbrev kN (n : Nat) : Im := kC (.int (n : Int))
abbrev kB (b : Bool) : Im := kC (.bl b)
abbrev tC (c : V) : Ty := (kC c).ty
abbrev tI (i : Int) : Ty := (kI i).ty
abbrev tN (n : Nat) : Ty := (kN n).ty
abbrev tB (b : Bool) : Ty := (kB b).ty
abbrev tS (s : Str) : Ty := (kC (.str s)).ty
abbrev t0 : Ty := (kC .non).ty
/-- all of them -/
def All : List Im → List V → Hp → Prop
  | [], [], _ => True
  | T :: Ts, x :: xs, H => T.is x H ∧ All Ts xs H
  | _, _, _ => False
theorem All.mono {H H' : Hp} (k : ∀ b o, H b = some o → imm o = true → H' b = some o) : ∀ {Ts : List Im} {xs : List V}, All Ts xs H → All Ts xs H'
  | [], [], _ => trivial
  | T :: _, _ :: _, h => ⟨T.mono k h.1, All.mono k h.2⟩
  | [], _ :: _, h => h.elim
  | _ :: _, [], h => h.elim
theorem All.ex {tb : Tb} {H H' : Hp} (e : Ex tb H H') {Ts : List Im} {xs : List V} (h : All Ts xs H) : All Ts xs H' := h.mono fun b o q i => e.keep b o q (imm_ntbl i)
theorem All.length {H : Hp} : ∀ {Ts : List Im} {xs : List V}, All Ts xs H → Ts.length = xs.length
  | [], [], _ => rfl
  | _ :: Ts, _ :: xs, h => congrArg (· + 1) (All.length (Ts := Ts) h.2)
  | [], _ :: _, h => h.elim
  | _ :: _, [], h => h.elim
theorem All.get {H : Hp} : ∀ {Ts : List Im} {xs : List V} {i : Nat} {x : V}, All Ts xs H → xs[i]? = some x → ∃ T, Ts[i]? = some T ∧ T.is x H
  | T :: _, y :: _, 0, x, h, e => ⟨T, rfl, by have e : y = x := Option.some.inj e; rw [← e]; exact h.1⟩
  | _ :: Ts, _ :: xs, i + 1, x, h, e => All.get (Ts := Ts) (xs := xs) (i := i) h.2 e
  | [], [], _, _, _, e => by simp at e
  | [], _ :: _, _, _, h, _ => h.elim
  | _ :: _, [], _, _, h, _ => h.elim
theorem All.at {H : Hp} : ∀ {Ts : List Im} {xs : List V} {i : Nat} {T : Im}, All Ts xs H → Ts[i]? = some T → ∃ x, xs[i]? = some x ∧ T.is x H
  | T :: _, y :: _, 0, x, h, e => ⟨y, rfl, by have e : T = x := Option.some.inj e; rw [← e]; exact h.1⟩
  | _ :: Ts, _ :: xs, i + 1, x, h, e => All.at (Ts := Ts) (xs := xs) (i := i) h.2 e
  | [], [], _, _, _, e => by simp at e
  | [], _ :: _, _, _, h, _ => h.elim
  | _ :: _, [], _, _, h, _ => h.elim
theorem All.app {H : Hp} : ∀ {Ts Us : List Im} {xs ys : List V}, All Ts xs H → All Us ys H → All (Ts ++ Us) (xs ++ ys) H
  | [], _, [], _, _, h2 => h2
  | _ :: Ts, _, _ :: xs, _, h, h2 => ⟨h.1, All.app (Ts := Ts) h.2 h2⟩
  | [], _, _ :: _, _, h, _ => h.elim
  | _ :: _, _, [], _, h, _ => h.elim
theorem All.take {H : Hp} : ∀ {Ts : List Im} {xs : List V} (n : Nat), All Ts xs H → All (Ts.take n) (xs.take n) H
  | [], [], n, _ => by simp only [List.take_nil]; trivial
  | _ :: _, _ :: _, 0, _ => trivial
  | _ :: Ts, _ :: xs, n + 1, h => ⟨h.1, All.take (Ts := Ts) n h.2⟩
  | [], _ :: _, _, h => h.elim
  | _ :: _, [], _, h => h.elim
theorem All.drop {H : Hp} : ∀ {Ts : List Im} {xs : List V} (n : Nat), All Ts xs H → All (Ts.drop n) (xs.drop n) H
  | [], [], n, _ => by simp only [List.drop_nil]; trivial
  | _ :: _, _ :: _, 0, h => h
  | _ :: Ts, _ :: xs, n + 1, h => All.drop (Ts := Ts) n h.2
  | [], _ :: _, _, h => h.elim
  | _ :: _, [], _, h => h.elim
theorem All.rev {H : Hp} : ∀ {Ts : List Im} {xs : List V}, All Ts xs H → All Ts.reverse xs.reverse H
  | [], [], _ => trivial
  | _ :: Ts, _ :: xs, h => by
    rw [List.reverse_cons, List.reverse_cons]
    exact (All.rev (Ts := Ts) h.2).app ⟨h.1, trivial⟩
  | [], _ :: _, h => h.elim
  | _ :: _, [], h => h.elim
theorem All.set {H : Hp} {T : Im} {x : V} (hT : T.is x H) : ∀ {Ts : List Im} {xs : List V} (n : Nat), All Ts xs H → All (Ts.set n T) (xs.set n x) H
  | [], [], n, _ => by simp only [List.set_nil]; trivial
  | _ :: _, _ :: _, 0, h => ⟨hT, h.2⟩
  | _ :: Ts, _ :: xs, n + 1, h => ⟨h.1, All.set hT (Ts := Ts) n h.2⟩
  | [], _ :: _, _, h => h.elim
  | _ :: _, [], _, h => h.elim
theorem All.rep {H : Hp} {Ts : List Im} {xs : List V} (h : All Ts xs H) : ∀ n : Nat, All (List.replicate n Ts).flatten (List.replicate n xs).flatten H
  | 0 => trivial
  | n + 1 => by
    rw [List.replicate_succ, List.replicate_succ, List.flatten_cons, List.flatten_cons]
    exact h.app (All.rep h n)
theorem All.nums {H : Hp} : ∀ {r : List Nat} {xs : List V}, All (r.map kN) xs H → xs = r.map vn
  | [], [], _ => rfl
  | n :: r, x :: xs, h => by
    have h1 : x = .int (n : Int) := h.1
    rw [List.map_cons, h1, All.nums (r := r) h.2]
    rfl
  | [], _ :: _, h => h.elim
  | _ :: _, [], h => h.elim
theorem All.of_nums {H : Hp} : ∀ r : List Nat, All (r.map kN) (r.map vn) H
  | [] => trivial
  | n :: r => ⟨rfl, All.of_nums r⟩
theorem All.slot {H : Hp} {a C dx : Addr} {vs vs' : List (Option V)} (s : SltD H a C dx vs) : ∀ {Ts : List Im} {xs : List V}, (∀ T ∈ Ts, T.sl C) → All Ts xs H → All Ts xs (SlX.slH H a C dx vs')
  | [], [], _, _ => trivial
  | T :: Ts, x :: xs, hs, h => ⟨T.slot (hs T List.mem_cons_self) s h.1, All.slot s (fun U hU => hs U (List.mem_cons_of_mem _ hU)) h.2⟩
  | [], _ :: _, _, h => h.elim
  | _ :: _, [], _, h => h.elim
/-- a tuple of these -/
def kT (Ts : List Im) : Im where
  is := fun v H => ∃ e xs, v = .ref e ∧ H e = some (.tup xs) ∧ All Ts xs H
  mono := fun k ⟨e, xs, h1, h2, h3⟩ => ⟨e, xs, h1, k _ _ h2 rfl, h3.mono k⟩
  sl := fun C => ∀ T ∈ Ts, T.sl C
  slot := fun hs s ⟨e, xs, h1, h2, h3⟩ => ⟨e, xs, h1, slH_keep s h2 (fun _ _ _ z => nomatch z) (fun _ z => nomatch z) (fun _ z => nomatch z) (fun z => nomatch z), h3.slot s hs⟩
abbrev tT (Ts : List Im) : Ty := (kT Ts).ty
abbrev kRow (r : List Nat) : Im := kT (r.map kN)
abbrev tRow (r : List Nat) : Ty := (kRow r).ty
/-- a list at a -/
def tL (a : Addr) (Ts : List Im) : Ty where
  is := fun v H => v = .ref a ∧ ∃ xs, H a = some (.lst xs) ∧ All Ts xs H
  fp := [a]
  mono := fun k ⟨h1, xs, h2, h3⟩ => ⟨h1, xs, k _ _ h2 (.inr List.mem_cons_self) (fun _ z => nomatch z), h3.mono fun b o e i => k b o e (.inl i) (imm_ntbl i)⟩
  dom := fun ⟨_, xs, h2, _⟩ hb => by
    rw [List.mem_singleton.mp hb]
    exact ⟨_, h2, rfl, notC_lst⟩
  sl := fun C => ∀ T ∈ Ts, T.sl C
  slot := fun hs s ⟨h1, xs, h2, h3⟩ => ⟨h1, xs, slH_keep s h2 (fun _ _ _ z => nomatch z) (fun _ z => nomatch z) (fun _ z => nomatch z) (fun z => nomatch z), h3.slot s hs⟩
/-- the list at a, its very values told -/
def tLx (a : Addr) (xs : List V) (Ts : List Im) : Ty where
  is := fun v H => v = .ref a ∧ H a = some (.lst xs) ∧ All Ts xs H
  fp := [a]
  mono := fun k ⟨h1, h2, h3⟩ => ⟨h1, k _ _ h2 (.inr List.mem_cons_self) (fun _ z => nomatch z), h3.mono fun b o e i => k b o e (.inl i) (imm_ntbl i)⟩
  dom := fun ⟨_, h2, _⟩ hb => by
    rw [List.mem_singleton.mp hb]
    exact ⟨_, h2, rfl, notC_lst⟩
  sl := fun C => ∀ T ∈ Ts, T.sl C
  slot := fun hs s ⟨h1, h2, h3⟩ => ⟨h1, slH_keep s h2 (fun _ _ _ z => nomatch z) (fun _ z => nomatch z) (fun _ z => nomatch z) (fun z => nomatch z), h3.slot s hs⟩
/-- the tuple at a, its very values told -/
def tTx (a : Addr) (xs : List V) (Ts : List Im) : Ty where
  is := fun v H => v = .ref a ∧ H a = some (.tup xs) ∧ All Ts xs H
  fp := []
  mono := fun k ⟨h1, h2, h3⟩ => ⟨h1, k _ _ h2 (.inl rfl) (fun _ z => nomatch z), h3.mono fun b o e i => k b o e (.inl i) (imm_ntbl i)⟩
  dom := fun _ hb => nomatch hb
  sl := fun C => ∀ T ∈ Ts, T.sl C
  slot := fun hs s ⟨h1, h2, h3⟩ => ⟨h1, slH_keep s h2 (fun _ _ _ z => nomatch z) (fun _ z => nomatch z) (fun _ z => nomatch z) (fun z => nomatch z), h3.slot s hs⟩
/-- a row as a key -/
def keyN (r : List Nat) : List Key := r.map fun n : Nat => (Sum.inl (n : Int) : Key)
theorem keyN_vals (r : List Nat) : (keyN r).map kV = r.map vn := by
  unfold keyN
  rw [List.map_map]
  rfl
theorem keyN_inj : ∀ {r s : List Nat}, keyN r = keyN s → r = s
  | [], [], _ => rfl
  | [], _ :: _, h => by simp [keyN] at h
  | _ :: _, [], h => by simp [keyN] at h
  | a :: r, b :: s, h => by
    have h : (Sum.inl (a : Int) : Key) :: keyN r = Sum.inl (b : Int) :: keyN s := h
    injection h with h1 h2
    injection h1 with h1
    have h3 : a = b := by omega
    rw [h3, keyN_inj h2]
def keysN (ks : List (List Nat)) : List (List Key × V) := ks.map fun r => (keyN r, V.bl true)
/-- a dict at d whose keys are rows, all its values True -/
def tD (d : Addr) (ks : List (List Nat)) : Ty where
  is := fun v H => v = .ref d ∧ H d = some (.dT (keysN ks))
  fp := [d]
  mono := fun k ⟨h1, h2⟩ => ⟨h1, k _ _ h2 (.inr List.mem_cons_self) (fun _ z => nomatch z)⟩
  dom := fun ⟨_, h2⟩ hb => by
    rw [List.mem_singleton.mp hb]
    exact ⟨_, h2, rfl, notC_dT⟩
  sl := fun _ => True
  slot := fun _ s ⟨h1, h2⟩ => ⟨h1, slH_keep s h2 (fun _ _ _ z => nomatch z) (fun _ z => nomatch z) (fun _ z => nomatch z) (fun z => nomatch z)⟩

/-! ### environments -/
def Fit (H : Hp) : List (Option Ty) → L2.St → Prop
  | [], [] => True
  | none :: G, _ :: s => Fit H G s
  | some T :: G, o :: s => (∃ v, o = some v ∧ T.is v H) ∧ Fit H G s
  | _, _ => False
def FitD (H : Hp) : List (V × Ty) → Prop
  | [] => True
  | p :: D => p.2.is p.1 H ∧ FitD H D
section
variable {tb : Tb} {H H' H0 : Hp} {s : L2.St}
theorem Fit.ex (e : Ex tb H H') : ∀ {G : List (Option Ty)} {s : L2.St}, Fit H G s → Fit H' G s
  | [], [], _ => trivial
  | none :: G, _ :: s, h => Fit.ex e (G := G) (s := s) h
  | some T :: G, o :: s, h => ⟨let ⟨v, h1, h2⟩ := h.1; ⟨v, h1, T.ex e h2⟩, Fit.ex e (G := G) h.2⟩
  | [], _ :: _, h => h.elim
  | none :: _, [], h => h.elim
  | some _ :: _, [], h => h.elim
theorem Fit.get : ∀ {G : List (Option Ty)} {s : L2.St} {i : Nat} {T : Ty}, Fit H G s → G[i]? = some (some T) → ∃ v, s[i]? = some (some v) ∧ T.is v H
  | some U :: G, o :: s, 0, T, h, e => by
    have e : some U = some T := Option.some.inj e
    cases e
    obtain ⟨v, h1, h2⟩ := h.1
    exact ⟨v, by rw [h1]; rfl, h2⟩
  | none :: G, _ :: s, 0, T, h, e => by cases (Option.some.inj e)
  | none :: G, _ :: s, i + 1, T, h, e => Fit.get (G := G) (s := s) (i := i) h e
  | some _ :: G, _ :: s, i + 1, T, h, e => Fit.get (G := G) (s := s) (i := i) h.2 e
  | [], [], _, _, _, e => by simp at e
  | [], _ :: _, _, _, h, _ => h.elim
  | none :: _, [], _, _, h, _ => h.elim
  | some _ :: _, [], _, _, h, _ => h.elim
theorem Fit.set {T : Ty} {v : V} (hT : T.is v H) : ∀ {G : List (Option Ty)} {s : L2.St} (i : Nat), Fit H G s → Fit H (G.set i (some T)) (s.set i (some v))
  | [], [], i, _ => by simp only [List.set_nil]; trivial
  | none :: G, _ :: s, 0, h => ⟨⟨v, rfl, hT⟩, h⟩
  | some _ :: G, _ :: s, 0, h => ⟨⟨v, rfl, hT⟩, h.2⟩
  | none :: G, _ :: s, i + 1, h => Fit.set hT (G := G) (s := s) i h
  | some _ :: G, _ :: s, i + 1, h => ⟨h.1, Fit.set hT (G := G) (s := s) i h.2⟩
  | [], _ :: _, _, h => h.elim
  | none :: _, [], _, h => h.elim
  | some _ :: _, [], _, h => h.elim
theorem Fit.clear {o : Option V} : ∀ {G : List (Option Ty)} {s : L2.St} (i : Nat), Fit H G s → Fit H (G.set i none) (s.set i o)
  | [], [], i, _ => by simp only [List.set_nil]; trivial
  | none :: G, _ :: s, 0, h => h
  | some _ :: G, _ :: s, 0, h => h.2
  | none :: G, _ :: s, i + 1, h => Fit.clear (G := G) (s := s) i h
  | some _ :: G, _ :: s, i + 1, h => ⟨h.1, Fit.clear (G := G) (s := s) i h.2⟩
  | [], _ :: _, _, h => h.elim
  | none :: _, [], _, h => h.elim
  | some _ :: _, [], _, h => h.elim
/-- forget -/
def Wk : List (Option Ty) → List (Option Ty) → Prop
  | [], [] => True
  | _ :: G, none :: G' => Wk G G'
  | o :: G, some T :: G' => o = some T ∧ Wk G G'
  | _, _ => False
theorem Wk.refl : ∀ G : List (Option Ty), Wk G G
  | [] => trivial
  | none :: G => Wk.refl G
  | some _ :: G => ⟨rfl, Wk.refl G⟩
theorem Fit.wk : ∀ {G G' : List (Option Ty)} {s : L2.St}, Wk G G' → Fit H G s → Fit H G' s
  | [], [], [], _, _ => trivial
  | none :: G, none :: G', _ :: s, w, h => Fit.wk (G := G) (G' := G') (s := s) w h
  | some _ :: G, none :: G', _ :: s, w, h => Fit.wk (G := G) (G' := G') (s := s) w h.2
  | some T :: G, some U :: G', o :: s, w, h => by
    obtain ⟨e, w⟩ := w
    cases e
    exact ⟨h.1, Fit.wk (G := G) w h.2⟩
  | none :: G, some U :: G', o :: s, w, h => by
    obtain ⟨e, w⟩ := w
    cases e
  | [], _ :: _, _, w, _ => by cases ‹Option Ty› <;> exact w.elim
  | _ :: _, [], _, w, _ => w.elim
  | none :: _, _, [], _, h => h.elim
  | some _ :: _, _, [], _, h => h.elim
  | [], _, _ :: _, _, h => h.elim
theorem FitD.ex (e : Ex tb H H') : ∀ {D : List (V × Ty)}, FitD H D → FitD H' D
  | [], _ => trivial
  | p :: D, h => ⟨p.2.ex e h.1, FitD.ex e (D := D) h.2⟩
/-- nothing leans on a -/
def Off (a : Addr) : List (Option Ty) → Prop
  | [] => True
  | none :: G => Off a G
  | some T :: G => a ∉ T.fp ∧ Off a G
def OffD (a : Addr) : List (V × Ty) → Prop
  | [] => True
  | p :: D => a ∉ p.2.fp ∧ OffD a D
theorem Off.at {a : Addr} : ∀ {G : List (Option Ty)} {i : Nat} {T : Ty}, Off a G → G[i]? = some (some T) → a ∉ T.fp
  | none :: G, 0, T, _, e => by cases (Option.some.inj e)
  | some U :: G, 0, T, h, e => by
    have e : some U = some T := Option.some.inj e
    cases e
    exact h.1
  | none :: G, i + 1, T, h, e => Off.at (G := G) (i := i) h e
  | some _ :: G, i + 1, T, h, e => Off.at (G := G) (i := i) h.2 e
  | [], _, _, _, e => by simp at e
theorem off_new {p : Addr} (hp : ∀ o, H p = some o → imm o = true) : ∀ {G : List (Option Ty)} {s : L2.St}, Fit H G s → Off p G
  | [], [], _ => trivial
  | none :: G, _ :: s, h => off_new hp (G := G) (s := s) h
  | some T :: G, o :: s, h => ⟨(fun z => by
      obtain ⟨v, _, h2⟩ := h.1
      obtain ⟨ob, e, ei, _⟩ := T.dom h2 z
      rw [hp ob e] at ei
      cases ei), off_new hp (G := G) (s := s) h.2⟩
  | [], _ :: _, h => h.elim
  | none :: _, [], h => h.elim
  | some _ :: _, [], h => h.elim
theorem offD_new {p : Addr} (hp : ∀ o, H p = some o → imm o = true) : ∀ {D : List (V × Ty)}, FitD H D → OffD p D
  | [], _ => trivial
  | q :: D, h => ⟨(fun z => by
      obtain ⟨ob, e, ei, _⟩ := q.2.dom h.1 z
      rw [hp ob e] at ei
      cases ei), offD_new hp (D := D) h.2⟩
/-- a changing object changes -/
theorem upd_kept {a : Addr} {o u : HO} (ha : H a = some u) (hu : imm u = false) {fp : List Addr} (h : a ∉ fp) : ∀ b q, H b = some q → imm q = true ∨ b ∈ fp → (∀ ps, q ≠ .tbl ps) → upd H a o b = some q := fun b q e i _ => by
  have n : b ≠ a := fun z => by
    subst z
    rcases i with i | i
    · rw [ha] at e
      cases e
      rw [hu] at i; cases i
    · exact h i
  rw [upd_ne n]; exact e
theorem Fit.upd {a : Addr} {o u : HO} (ha : H a = some u) (hu : imm u = false) : ∀ {G : List (Option Ty)} {s : L2.St}, Off a G → Fit H G s → Fit (L2.upd H a o) G s
  | [], [], _, _ => trivial
  | none :: G, _ :: s, f, h => Fit.upd ha hu (G := G) (s := s) f h
  | some T :: G, _ :: s, f, h => ⟨let ⟨v, h1, h2⟩ := h.1; ⟨v, h1, T.mono (upd_kept ha hu f.1) h2⟩, Fit.upd ha hu (G := G) f.2 h.2⟩
  | [], _ :: _, _, h => h.elim
  | none :: _, [], _, h => h.elim
  | some _ :: _, [], _, h => h.elim
theorem FitD.upd {a : Addr} {o u : HO} (ha : H a = some u) (hu : imm u = false) : ∀ {D : List (V × Ty)}, OffD a D → FitD H D → FitD (L2.upd H a o) D
  | [], _, _ => trivial
  | p :: D, f, h => ⟨p.2.mono (upd_kept ha hu f.1) h.1, FitD.upd ha hu (D := D) f.2 h.2⟩
/-- where the proof stands: H0 the heap at the def's entry, G the slots' types, D facts besides -/
structure En (tb : Tb) (H0 : Hp) (G : List (Option Ty)) (D : List (V × Ty)) (s : L2.St) (H : Hp) : Prop where
  ex : Ex tb H0 H
  tab : Tbl tb H
  fit : Fit H G s
  more : FitD H D
variable {G G' : List (Option Ty)} {D : List (V × Ty)}
theorem En.step (g : En tb H0 G D s H) (e : Ex tb H H') : En tb H0 G D s H' := ⟨g.ex.trans e, e.tab g.tab, g.fit.ex e, g.more.ex e⟩
theorem En.wk (g : En tb H0 G D s H) (w : Wk G G') : En tb H0 G' D s H := ⟨g.ex, g.tab, g.fit.wk w, g.more⟩
theorem En.set {T : Ty} {v : V} {i : Nat} (g : En tb H0 G D s H) (hT : T.is v H) : En tb H0 (G.set i (some T)) D (s.set i (some v)) H := ⟨g.ex, g.tab, g.fit.set hT i, g.more⟩
theorem En.add {T : Ty} {v : V} (g : En tb H0 G D s H) (hT : T.is v H) : En tb H0 G ((v, T) :: D) s H := ⟨g.ex, g.tab, g.fit, hT, g.more⟩
theorem En.sub {p : V × Ty} (g : En tb H0 G (p :: D) s H) : En tb H0 G D s H := ⟨g.ex, g.tab, g.fit, g.more.2⟩
theorem En.mut {a : Addr} {o u : HO} (g : En tb H0 G D s H) (h0 : H0 a = none) (ha : H a = some u) (hu : imm u = false) (hc : NotC u) (f : Off a G) (fd : OffD a D) : En tb H0 G D s (upd H a o) :=
  ⟨g.ex.mut h0 (fun w e => by rw [ha] at e; cases e; exact hc), g.tab.upd (fun w e => by rw [ha] at e; cases e; exact hc), g.fit.upd ha hu f, g.more.upd ha hu fd⟩
end
end Tw
end STwB
section STwC
set_option Elab.async false
set_option linter.all false
set_option maxRecDepth 100000
set_option maxHeartbeats 4000000
/-! The judgements: derivation and reading at once; expressions, tests, arguments, blocks. -/
namespace Tw
open PySem PySem.Spec PyProof.Rows L2

/-! ### the weakest reading of a piece of syntax -/
section
variable (X : Cx)
def RE (e : Expr) : TE := fun σ H Q => ∀ (pins : List (Addr × Obj)) (s : Shared), Inv X pins σ H s → wpAny (model X.prog X.w) X.A (eval e X.env) (EP X pins σ Q) X.xe s
def RT (e : Expr) : TT := fun σ H Q => ∀ (pins : List (Addr × Obj)) (s : Shared), Inv X pins σ H s → wpAny (model X.prog X.w) X.A (isTrue e X.env (eval e X.env)) (TP X pins σ Q) X.xe s
def RW (e : Expr) : TT := fun σ H Q => ∀ (whole : Sem Value) (pins : List (Addr × Obj)) (s : Shared), Inv X pins σ H s → wpAny (model X.prog X.w) X.A (isTrue e X.env whole) (TP X pins σ Q) X.xe s
def RA (es : List Expr) : TA := fun σ H Q => ∀ (pos : Pos) (pins : List (Addr × Obj)) (s : Shared), Inv X pins σ H s → wpAny (model X.prog X.w) X.A (spliced (backTo pos (starEach es X.env))) (AP X pins σ Q) X.xe s
def RS (st : Stmt) : TS := fun D σ H => ∀ (pins : List (Addr × Obj)) (s : Shared), Inv X pins σ H s → wpAny (model X.prog X.w) X.A (exec st X.env) (SP X pins D) X.xe s
def RB (st : List Stmt) : TS := fun D σ H => ∀ (pins : List (Addr × Obj)) (s : Shared), Inv X pins σ H s → wpAny (model X.prog X.w) X.A (execs st X.env) (SP X pins D) X.xe s
def RI (tg iter : Expr) : TI := fun σ H R => ∀ (pins : List (Addr × Obj)) (s : Shared), Inv X pins σ H s → wpAny (model X.prog X.w) X.A (eval iter X.env) (fun v s1 => wpAny (model X.prog X.w) X.A (pyIter v) (PIE X pins σ tg R) X.xe s1) X.xe s
end
section
variable {X : Cx} {e : Expr} {es : List Expr} {st : Stmt} {sts : List Stmt} {tg iter : Expr} {σ : L2.St} {H : Hp}
theorem pe_RE : PE X e (RE X e) := ⟨fun pins s _ _ _ I h => h pins s I⟩
theorem pt_RT : PT X e (RT X e) := ⟨fun pins s _ _ _ I h => h pins s I⟩
theorem pw_RW : PW X e (RW X e) := ⟨fun wh pins s _ _ _ I h => h wh pins s I⟩
theorem pa_RA : PA X es (RA X es) := ⟨fun pos pins s _ _ _ I h => h pos pins s I⟩
theorem ps_RS : PS X st (RS X st) := ⟨fun pins s _ _ _ I h => h pins s I⟩
theorem pss_RB : PSs X sts (RB X sts) := ⟨fun pins s _ _ _ I h => h pins s I⟩
theorem pi_RI : PI X tg iter (RI X tg iter) := ⟨fun pins s _ _ _ I h => h pins s I⟩
theorem toE {t : TE} (h : PE X e t) {Q : VK} (q : t σ H Q) : RE X e σ H Q := fun pins s I => h.run pins s σ H Q I q
theorem toT {t : TT} (h : PT X e t) {Q : Bool → Hp → Prop} (q : t σ H Q) : RT X e σ H Q := fun pins s I => h.run pins s σ H Q I q
theorem toW {t : TT} (h : PW X e t) {Q : Bool → Hp → Prop} (q : t σ H Q) : RW X e σ H Q := fun wh pins s I => h.run wh pins s σ H Q I q
theorem toA {t : TA} (h : PA X es t) {Q : List V → Hp → Prop} (q : t σ H Q) : RA X es σ H Q := fun pos pins s I => h.run pos pins s σ H Q I q
theorem toS {t : TS} (h : PS X st t) {D : Ends} (q : t D σ H) : RS X st D σ H := fun pins s I => h.run pins s σ H D I q
theorem toB {t : TS} (h : PSs X sts t) {D : Ends} (q : t D σ H) : RB X sts D σ H := fun pins s I => h.run pins s σ H D I q
theorem toI {t : TI} (h : PI X tg iter t) {R : It → Hp → Prop} (q : t σ H R) : RI X tg iter σ H R := fun pins s I => h.run pins s σ H R I q
end

/-! ### results -/
structure Rs where
  is : Hp → V → Hp → Prop
  mono : ∀ {tb : Tb} {H0 H1 : Hp} {v : V} {H2 H3 : Hp}, Ex tb H0 H1 → is H1 v H2 → Ex tb H2 H3 → is H0 v H3
def val (T : Ty) : Rs := ⟨fun _ v H => T.is v H, fun _ h e => T.ex e h⟩
/-- a new list -/
def newL (Ts : List Im) : Rs := ⟨fun H0 v H => ∃ a, H0 a = none ∧ (tL a Ts).is v H, fun e0 ⟨a, h0, h⟩ e => ⟨a, e0.dom a h0, (tL a Ts).ex e h⟩⟩
def newD (ks : List (List Nat)) : Rs := ⟨fun H0 v H => ∃ a, H0 a = none ∧ (tD a ks).is v H, fun e0 ⟨a, h0, h⟩ e => ⟨a, e0.dom a h0, (tD a ks).ex e h⟩⟩
/-- what a def takes: an object's address is found at the call -/
abbrev Ag := Addr → Ty
abbrev ag (T : Ty) : Ag := fun _ => T
abbrev agL (Ts : List Im) : Ag := fun a => tL a Ts
def Fits : List Ag → List V → Hp → Prop
  | [], [], _ => True
  | A :: As, v :: vs, H => (∃ a, (A a).is v H) ∧ Fits As vs H
  | _, _, _ => False
theorem Fits.ex {tb : Tb} {H H' : Hp} (e : Ex tb H H') : ∀ {As : List Ag} {vs : List V}, Fits As vs H → Fits As vs H'
  | [], [], _ => trivial
  | A :: As, v :: vs, h => ⟨let ⟨a, h1⟩ := h.1; ⟨a, (A a).ex e h1⟩, Fits.ex e (As := As) h.2⟩
  | [], _ :: _, h => h.elim
  | _ :: _, [], h => h.elim

def EV (tb : Tb) (X : Cx) (G : List (Option Ty)) (e : Expr) (R : Rs) : Prop :=
  ∀ (σ : L2.St) (H : Hp), Tbl tb H → Fit H G σ → ∀ Q : VK, (∀ v H', Ex tb H H' → R.is H v H' → Q v H') → RE X e σ H Q
def EVT (tb : Tb) (X : Cx) (G : List (Option Ty)) (e : Expr) (b : Bool) : Prop :=
  ∀ (σ : L2.St) (H : Hp), Tbl tb H → Fit H G σ → ∀ Q : Bool → Hp → Prop, (∀ H', Ex tb H H' → Q b H') → RT X e σ H Q
def EVW (tb : Tb) (X : Cx) (G : List (Option Ty)) (e : Expr) (b : Bool) : Prop :=
  ∀ (σ : L2.St) (H : Hp), Tbl tb H → Fit H G σ → ∀ Q : Bool → Hp → Prop, (∀ H', Ex tb H H' → Q b H') → RW X e σ H Q
def EA (tb : Tb) (X : Cx) (G : List (Option Ty)) (es : List Expr) (As : List Ag) : Prop :=
  ∀ (σ : L2.St) (H : Hp), Tbl tb H → Fit H G σ → ∀ Q : List V → Hp → Prop, (∀ vs H', Ex tb H H' → Fits As vs H' → Q vs H') → RA X es σ H Q
def BK (tb : Tb) (X : Cx) (H0 : Hp) (G : List (Option Ty)) (D : List (V × Ty)) (sts : List Stmt) (E : Ends) : Prop :=
  ∀ (σ : L2.St) (H : Hp), En tb H0 G D σ H → RB X sts E σ H
/-- a two-place rule on such results -/
def RR (tb : Tb) (r : R2) (R1 R2' R : Rs) : Prop :=
  ∀ (H : Hp) (x : V) (H1 : Hp) (y : V) (H2 : Hp), Ex tb H H1 → R1.is H x H1 → Ex tb H1 H2 → R2'.is H1 y H2 → ∀ Q : VK, (∀ v H', Ex tb H2 H' → R.is H v H' → Q v H') → r x y H2 Q
def RC (tb : Tb) (r : List V → Hp → VK → Prop) (As : List Ag) (R : Rs) : Prop :=
  ∀ (H : Hp) (vs : List V) (H1 : Hp), Ex tb H H1 → Fits As vs H1 → ∀ Q : VK, (∀ v H', Ex tb H1 H' → R.is H v H' → Q v H') → r vs H1 Q

section
variable {tb : Tb} {X : Cx} {G : List (Option Ty)} {a b c e : Expr} {es : List Expr} {R R1 R2' : Rs} {T U : Ty} {pos p p' : Pos} {n m : Nat} {i j : Int} {x : Str} {Ts : List Im} {r : List Nat}

theorem EV.cast (h : EV tb X G e R) (q : R = R1) : EV tb X G e R1 := q ▸ h
theorem EV.imp (h : EV tb X G e R) (q : ∀ H v H', R.is H v H' → R1.is H v H') : EV tb X G e R1 := fun σ H t f Q k => h σ H t f Q fun v H' e h => k v H' e (q _ _ _ h)
theorem EVT.cast {d d' : Bool} (h : EVT tb X G e d) (q : d = d') : EVT tb X G e d' := q ▸ h
theorem EV.wk {G' : List (Option Ty)} (h : EV tb X G' e R) (w : Wk G G') : EV tb X G e R := fun σ H t f Q k => h σ H t (f.wk w) Q k

/-! ### constants, names -/
theorem e_k {v : V} {t : TE} (h : PE X e t) (ht : ∀ (σ : L2.St) (H : Hp) (Q : VK), Q v H → t σ H Q) : EV tb X G e (val (tC v)) := fun σ H _ _ Q k => toE h (ht σ H Q (k v H Ex.refl rfl))
theorem e_i (i : Int) {j : Nat} : EV tb X G (.Constant (.int i) j pos) (val (tI i)) := e_k pe_int fun _ _ _ q => q
theorem e_n (n : Nat) {j : Nat} : EV tb X G (.Constant (.int (n : Int)) j pos) (val (tN n)) := e_i _
theorem e_b {d : Bool} {j : Nat} : EV tb X G (.Constant (.bool d) j pos) (val (tB d)) := e_k pe_bl fun _ _ _ q => q
theorem e_0 {j : Nat} : EV tb X G (.Constant .none j pos) (val t0) := e_k pe_non fun _ _ _ q => q
theorem e_s {s : Str} {j : Nat} : EV tb X G (.Constant (.str s) j pos) (val (tS s)) := e_k pe_str fun _ _ _ q => q
theorem e_g {v : V} {u : Value} (hm : X.mg x = some u) (r : RelV v u) (hg : Gl X x := by rfl) (hd : (x == ("__debug__" : Str)) = false := by decide) : EV tb X G (.Name x pos) (val (tC v)) := e_k (pe_glob hg hm r hd) fun _ _ _ q => q
theorem e_v (i : Nat) (h : G[i]? = some (some T)) (hN : X.N[i]? = some x := by rfl) (hv : Vis X.env.scope x := by first | exact Or.inl rfl | exact Or.inr (Or.inl rfl) | exact Or.inr (Or.inr rfl)) (hd : (x == ("__debug__" : Str)) = false := by decide)
    (hcd : (x == ("__classdict__" : Str)) = false := by decide) : EV tb X G (.Name x pos) (val T) := fun σ H _ f Q k => by
  obtain ⟨v, h1, h2⟩ := f.get h
  exact toE (pe_var (i := i) hN hv hd hcd) ⟨v, h1, k v H Ex.refl h2⟩

/-! ### two operands -/
theorem EV.bin {r : R2} (pe : ∀ {ta tb : TE}, PE X a ta → PE X b tb → PE X e (tOp r ta tb)) (ha : EV tb X G a R1) (hb : EV tb X G b R2') (hr : RR tb r R1 R2' R) : EV tb X G e R := fun σ H t f Q k =>
  toE (pe pe_RE pe_RE) (ha σ H t f _ fun x H1 e1 h1 => hb σ H1 (e1.tab t) (f.ex e1) _ fun y H2 e2 h2 => hr H x H1 y H2 e1 h1 e2 h2 Q fun v H' e' h => k v H' ((e1.trans e2).trans e') h)
theorem e_op {op : Operator} {r : R2} (ho : OpR X (binaryOp op) r) (hr : RR tb r R1 R2' R) (ha : EV tb X G a R1) (hb : EV tb X G b R2') : EV tb X G (.BinOp a op b pos) R := EV.bin (fun p q => pe_op ho p q) ha hb hr
theorem e_cmp {op : CmpOp} {r : R2} (ho : OpR X (compareOp op) r) (hr : RR tb r R1 R2' R) (ha : EV tb X G a R1) (hb : EV tb X G b R2') (hm : behindInMarks op b = false := by first | exact nomark _ | rfl) : EV tb X G (.Compare a [op] [b] pos) R := EV.bin (fun p q => pe_cmpR ho p q hm) ha hb hr
theorem t_cmp {op : CmpOp} {r : R2} {d : Bool} (ho : OpR X (compareOp op) r) (hr : RR tb r R1 R2' (val (tB d))) (ha : EV tb X G a R1) (hb : EV tb X G b R2') (hm : behindInMarks op b = false := by first | exact nomark _ | rfl) : EVT tb X G (.Compare a [op] [b] pos) d := fun σ H t f Q k =>
  toT (pt_cmpR ho pe_RE pe_RE hm) (ha σ H t f _ fun x H1 e1 h1 => hb σ H1 (e1.tab t) (f.ex e1) _ fun y H2 e2 h2 => hr H x H1 y H2 e1 h1 e2 h2 _ fun v H' e' h => ⟨d, h, k H' ((e1.trans e2).trans e')⟩)
theorem e_ixr {r : R2} (ho : IxR X r) (hr : RR tb r R1 R2' R) (ha : EV tb X G a R1) (hb : EV tb X G b R2') (hs : PlainIx b := by exact fun _ _ => rfl) : EV tb X G (.Subscript a b pos) R := EV.bin (fun p q => pe_ix ho p q hs) ha hb hr
theorem e_un {op : UnaryOp} {r : V → Hp → VK → Prop} (ho : UnR X (unaryOp op) r) (hr : ∀ (H : Hp) (x : V) (H1 : Hp), Ex tb H H1 → R1.is H x H1 → ∀ Q : VK, (∀ v H', Ex tb H1 H' → R.is H v H' → Q v H') → r x H1 Q) (ha : EV tb X G a R1) : EV tb X G (.UnaryOp op a pos) R := fun σ H t f Q k =>
  toE (pe_un ho pe_RE) (ha σ H t f _ fun x H1 e1 h1 => hr H x H1 e1 h1 Q fun v H' e' h => k v H' (e1.trans e') h)

theorem rr_I {C : Int → Int → Prop} {g : Int → Int → V} (hc : C i j) : RR tb (rI C g) (val (tI i)) (val (tI j)) (val (tC (g i j))) := fun _ _ _ _ _ _ h1 _ h2 _ k => by
  cases h1; cases h2; exact ⟨i, j, rfl, rfl, hc, k _ _ Ex.refl rfl⟩
theorem rr_I0 {g : Int → Int → V} : RR tb (rI0 g) (val (tI i)) (val (tI j)) (val (tC (g i j))) := fun _ _ _ _ _ _ h1 _ h2 _ k => by
  cases h1; cases h2; exact ⟨i, j, rfl, rfl, k _ _ Ex.refl rfl⟩
theorem op_eqI : OpR X (compareOp .Eq) (rI0 fun i j => .bl (decide (i = j))) := opB0 fun _ _ _ _ _ _ _ q => eq_int (by rw [Bool.beq_eq_decide_eq]; exact q)
theorem op_neI : OpR X (compareOp .NotEq) (rI0 fun i j => .bl (!decide (i = j))) := opB0 fun _ _ _ _ _ _ _ q => ne_int (by rw [bne, Bool.beq_eq_decide_eq]; exact q)
-- whole numbers
theorem e_addI (ha : EV tb X G a (val (tI i))) (hb : EV tb X G b (val (tI j))) : EV tb X G (.BinOp a .Add b pos) (val (tI (i + j))) := e_op op_add rr_I0 ha hb
theorem e_subI (ha : EV tb X G a (val (tI i))) (hb : EV tb X G b (val (tI j))) : EV tb X G (.BinOp a .Sub b pos) (val (tI (i - j))) := e_op op_sub rr_I0 ha hb
theorem e_mulI (ha : EV tb X G a (val (tI i))) (hb : EV tb X G b (val (tI j))) (hc : CMul i j) : EV tb X G (.BinOp a .Mult b pos) (val (tI (i * j))) := e_op op_mul (rr_I hc) ha hb
theorem e_modI (ha : EV tb X G a (val (tI i))) (hb : EV tb X G b (val (tI j))) (hc : 0 < j) : EV tb X G (.BinOp a .Mod b pos) (val (tI (i % j))) := e_op op_mod (rr_I hc) ha hb
-- natural numbers
theorem val_eq {u v : V} (h : u = v) : val (tC u) = val (tC v) := by rw [h]
theorem e_add (ha : EV tb X G a (val (tN n))) (hb : EV tb X G b (val (tN m))) : EV tb X G (.BinOp a .Add b pos) (val (tN (n + m))) := (e_addI ha hb).cast (val_eq (by rw [← Int.natCast_add]))
theorem e_sub (ha : EV tb X G a (val (tN n))) (hb : EV tb X G b (val (tN m))) (h : m ≤ n) : EV tb X G (.BinOp a .Sub b pos) (val (tN (n - m))) := (e_subI ha hb).cast (val_eq (by rw [Int.ofNat_sub h]))
theorem e_mul (ha : EV tb X G a (val (tN n))) (hb : EV tb X G b (val (tN m))) (h : n < 2 ^ 64 ∨ m < 2 ^ 64) : EV tb X G (.BinOp a .Mult b pos) (val (tN (n * m))) := by
  refine (e_mulI ha hb ?_).cast (val_eq (by rw [← Int.natCast_mul]))
  rcases h with h | h
  · exact .inl ⟨by omega, by omega⟩
  · exact .inr ⟨by omega, by omega⟩
theorem e_mod (ha : EV tb X G a (val (tN n))) (hb : EV tb X G b (val (tN m))) (h : 0 < m) : EV tb X G (.BinOp a .Mod b pos) (val (tN (n % m))) := (e_modI ha hb (by omega)).cast (val_eq (by rw [← Int.natCast_emod]))
theorem e_div (ha : EV tb X G a (val (tN n))) (hb : EV tb X G b (val (tN m))) (h : 0 < m) (h2 : m < 1073741824) : EV tb X G (.BinOp a .FloorDiv b pos) (val (tN (n / m))) := by
  refine EV.cast (e_op (R := val (tC (.int ((n : Int) / (m : Int))))) op_fdiv (rr_I ⟨by omega, by omega⟩) ha hb) (val_eq (by rw [← Int.natCast_ediv]))
theorem rr_lt : RR tb (rI0 fun i j => .bl (decide (i < j))) (val (tN n)) (val (tN m)) (val (tB (decide (n < m)))) := fun H x H1 y H2 e1 h1 e2 h2 Q k => rr_I0 (i := n) (j := m) H x H1 y H2 e1 h1 e2 h2 Q fun v H' e h => k v H' e (by
  have h : v = .bl (decide ((n : Int) < m)) := h
  rw [h]; show V.bl _ = V.bl _; congr 1; exact decide_eq_decide.mpr (by omega))
theorem rr_le : RR tb (rI0 fun i j => .bl (decide (i ≤ j))) (val (tN n)) (val (tN m)) (val (tB (decide (n ≤ m)))) := fun H x H1 y H2 e1 h1 e2 h2 Q k => rr_I0 (i := n) (j := m) H x H1 y H2 e1 h1 e2 h2 Q fun v H' e h => k v H' e (by
  have h : v = .bl (decide ((n : Int) ≤ m)) := h
  rw [h]; show V.bl _ = V.bl _; congr 1; exact decide_eq_decide.mpr (by omega))
theorem rr_eq : RR tb (rI0 fun i j => .bl (decide (i = j))) (val (tN n)) (val (tN m)) (val (tB (decide (n = m)))) := fun H x H1 y H2 e1 h1 e2 h2 Q k => rr_I0 (i := n) (j := m) H x H1 y H2 e1 h1 e2 h2 Q fun v H' e h => k v H' e (by
  have h : v = .bl (decide ((n : Int) = m)) := h
  rw [h]; show V.bl _ = V.bl _; congr 1; exact decide_eq_decide.mpr (by omega))
theorem rr_ne : RR tb (rI0 fun i j => .bl (!decide (i = j))) (val (tN n)) (val (tN m)) (val (tB (!decide (n = m)))) := fun H x H1 y H2 e1 h1 e2 h2 Q k => rr_I0 (i := n) (j := m) H x H1 y H2 e1 h1 e2 h2 Q fun v H' e h => k v H' e (by
  have h : v = .bl (!decide ((n : Int) = m)) := h
  rw [h]; show V.bl _ = V.bl _; congr 2; exact decide_eq_decide.mpr (by omega))
theorem rr_gt : RR tb (rI0 fun i j => .bl (decide (j < i))) (val (tN n)) (val (tN m)) (val (tB (decide (m < n)))) := fun H x H1 y H2 e1 h1 e2 h2 Q k => rr_I0 (i := n) (j := m) H x H1 y H2 e1 h1 e2 h2 Q fun v H' e h => k v H' e (by
  have h : v = .bl (decide ((m : Int) < n)) := h
  rw [h]; show V.bl _ = V.bl _; congr 1; exact decide_eq_decide.mpr (by omega))
theorem rr_ge : RR tb (rI0 fun i j => .bl (decide (j ≤ i))) (val (tN n)) (val (tN m)) (val (tB (decide (m ≤ n)))) := fun H x H1 y H2 e1 h1 e2 h2 Q k => rr_I0 (i := n) (j := m) H x H1 y H2 e1 h1 e2 h2 Q fun v H' e h => k v H' e (by
  have h : v = .bl (decide ((m : Int) ≤ n)) := h
  rw [h]; show V.bl _ = V.bl _; congr 1; exact decide_eq_decide.mpr (by omega))

/-! ### tests -/
theorem t_val {d : Bool} (h : EV tb X G e (val (tB d))) (he : ∀ whole, isTrue e X.env whole = (do let v ← whole; standAt e.pos; holding [v] (truthy v)) := by intro _; rfl) : EVT tb X G e d := fun σ H t f Q k =>
  toT (pt_val pe_RE he) (h σ H t f _ fun v H' e h => ⟨d, h, k H' e⟩)
theorem t_not {d : Bool} (h : EVT tb X G a d) : EVT tb X G (.UnaryOp .Not a pos) (!d) := fun σ H t f Q k => toT (pt_not pt_RT) (h σ H t f _ fun H' e => k H' e)
theorem t_w {d : Bool} (h : EVW tb X G e d) : EVT tb X G e d := fun σ H t f Q k => toT (PW.pt pw_RW) (h σ H t f Q k)
theorem w_and1 {d : Bool} (h : EVT tb X G a d) : EVW tb X G (.BoolOp .And [a] pos) d := fun σ H t f Q k => toW (pw_and1 pt_RT) (h σ H t f Q k)
theorem w_or1 {d : Bool} (h : EVT tb X G a d) : EVW tb X G (.BoolOp .Or [a] pos) d := fun σ H t f Q k => toW (pw_or1 pt_RT) (h σ H t f Q k)
theorem w_and {d d' : Bool} (h : EVT tb X G a d) (h2 : d = true → EVW tb X G (.BoolOp .And (b :: es) pos) d') : EVW tb X G (.BoolOp .And (a :: b :: es) pos) (d && d') := fun σ H t f Q k =>
  toW (pw_and pt_RT pw_RW) (h σ H t f _ fun H1 e1 => by
    cases d with
    | true => exact iteT (h2 rfl σ H1 (e1.tab t) (f.ex e1) _ fun H2 e2 => k H2 (e1.trans e2))
    | false => exact iteF (k H1 e1))
theorem w_or {d d' : Bool} (h : EVT tb X G a d) (h2 : d = false → EVW tb X G (.BoolOp .Or (b :: es) pos) d') : EVW tb X G (.BoolOp .Or (a :: b :: es) pos) (d || d') := fun σ H t f Q k =>
  toW (pw_or pt_RT pw_RW) (h σ H t f _ fun H1 e1 => by
    cases d with
    | true => exact iteT (k H1 e1)
    | false => exact iteF (h2 rfl σ H1 (e1.tab t) (f.ex e1) _ fun H2 e2 => k H2 (e1.trans e2)))
theorem t_and {d d' : Bool} (h : EVT tb X G a d) (h2 : d = true → EVT tb X G b d') : EVT tb X G (.BoolOp .And [a, b] pos) (d && d') := t_w (w_and h fun z => w_and1 (h2 z))
theorem t_or {d d' : Bool} (h : EVT tb X G a d) (h2 : d = false → EVT tb X G b d') : EVT tb X G (.BoolOp .Or [a, b] pos) (d || d') := t_w (w_or h fun z => w_or1 (h2 z))
-- as values
theorem e_one {op : BoolOp} (h : EV tb X G a R) : EV tb X G (.BoolOp op [a] pos) R := fun σ H t f Q k => toE (pe_one pe_RE) (h σ H t f Q k)
theorem e_and {d d' : Bool} (h : EV tb X G a (val (tB d))) (h2 : d = true → EV tb X G (.BoolOp .And (b :: es) pos) (val (tB d'))) : EV tb X G (.BoolOp .And (a :: b :: es) pos) (val (tB (d && d'))) := fun σ H t f Q k =>
  toE (pe_and pe_RE pe_RE) (h σ H t f _ fun v H1 e1 q => ⟨d, q, by
    cases d with
    | true => exact iteT (h2 rfl σ H1 (e1.tab t) (f.ex e1) _ fun v H2 e2 q => k v H2 (e1.trans e2) q)
    | false => exact iteF (k _ H1 e1 rfl)⟩)
theorem e_or {d d' : Bool} (h : EV tb X G a (val (tB d))) (h2 : d = false → EV tb X G (.BoolOp .Or (b :: es) pos) (val (tB d'))) : EV tb X G (.BoolOp .Or (a :: b :: es) pos) (val (tB (d || d'))) := fun σ H t f Q k =>
  toE (pe_or pe_RE pe_RE) (h σ H t f _ fun v H1 e1 q => ⟨d, q, by
    cases d with
    | true => exact iteT (k _ H1 e1 rfl)
    | false => exact iteF (h2 rfl σ H1 (e1.tab t) (f.ex e1) _ fun v H2 e2 q => k v H2 (e1.trans e2) q)⟩)
theorem e_not {d : Bool} (h : EV tb X G a (val (tB d))) : EV tb X G (.UnaryOp .Not a pos) (val (tB (!d))) := fun σ H t f Q k => toE (pe_not pe_RE) (h σ H t f _ fun v H1 e1 q => ⟨d, q, k _ H1 e1 rfl⟩)
theorem e_ife {d : Bool} (h : EVT tb X G c d) (h1 : d = true → EV tb X G a R) (h2 : d = false → EV tb X G b R) : EV tb X G (.IfExp c a b pos) R := fun σ H t f Q k =>
  toE (pe_ifExp pt_RT pe_RE pe_RE) (h σ H t f _ fun H1 e1 => by
    cases d with
    | true => exact iteT (h1 rfl σ H1 (e1.tab t) (f.ex e1) _ fun v H2 e2 q => k v H2 (e1.trans e2) (R.mono e1 q Ex.refl))
    | false => exact iteF (h2 rfl σ H1 (e1.tab t) (f.ex e1) _ fun v H2 e2 q => k v H2 (e1.trans e2) (R.mono e1 q Ex.refl)))
/-- a truth as a value -/
theorem t_nope {d : Bool} (h : d = false) (k : EVT tb X G e d) : EVT tb X G e false := h ▸ k

/-! ### arguments -/
theorem ea_nil : EA tb X G [] [] := fun σ H t f Q k => toA pa_nil (k [] H Ex.refl trivial)
theorem ea_cons {A : Ag} {As : List Ag} (h : EV tb X G e R) (hA : ∀ H v H', R.is H v H' → ∃ a, (A a).is v H') (hr : EA tb X G es As) (hs : starEach (e :: es) X.env = (false, eval e X.env) :: starEach es X.env := by rfl) : EA tb X G (e :: es) (A :: As) := fun σ H t f Q k =>
  toA (pa_cons pe_RE pa_RA hs) (h σ H t f _ fun v H1 e1 q => hr σ H1 (e1.tab t) (f.ex e1) _ fun vs H2 e2 q2 => k (v :: vs) H2 (e1.trans e2) ⟨let ⟨a, z⟩ := hA _ _ _ q; ⟨a, (A a).ex e2 z⟩, q2⟩)
theorem ea_v {As : List Ag} (h : EV tb X G e (val T)) (hr : EA tb X G es As) (hs : starEach (e :: es) X.env = (false, eval e X.env) :: starEach es X.env := by rfl) : EA tb X G (e :: es) (ag T :: As) := ea_cons h (fun _ _ _ q => ⟨0, q⟩) hr hs
theorem ea_l {As : List Ag} {z : Addr} (h : EV tb X G e (val (tL z Ts))) (hr : EA tb X G es As) (hs : starEach (e :: es) X.env = (false, eval e X.env) :: starEach es X.env := by rfl) : EA tb X G (e :: es) (agL Ts :: As) := ea_cons h (fun _ _ _ q => ⟨z, q⟩) hr hs
theorem ea_n {As : List Ag} (h : EV tb X G e (newL Ts)) (hr : EA tb X G es As) (hs : starEach (e :: es) X.env = (false, eval e X.env) :: starEach es X.env := by rfl) : EA tb X G (e :: es) (agL Ts :: As) := ea_cons h (fun _ _ _ ⟨a, _, q⟩ => ⟨a, q⟩) hr hs
theorem e_callB {id : String} {rr : List V → Hp → VK → Prop} {As : List Ag} (hc : CallR X (.builtin id) rr) (hm : X.mg x = none) (hv : bootBuiltins x = some (.builtin id)) (hr : RC tb rr As R) (ha : EA tb X G (e :: es) As) (hg : Gl X x := by rfl) (hn : x ≠ "__name__" := by decide) (hdb : (x == ("__debug__" : Str)) = false := by decide)
    (hst : starEach (e :: es) X.env = (false, eval e X.env) :: starEach es X.env := by rfl) (hpl : (backTo pos (starEach es X.env)).any (·.1) = false := by rfl) : EV tb X G (.Call (.Name x p) (e :: es) [] pos) R := fun σ H t f Q k =>
  toE (pe_callB hc hg hm hv pa_RA hn hdb hst hpl) (ha σ H t f _ fun vs H1 e1 q => hr H vs H1 e1 q Q fun v H' e2 h => k v H' (e1.trans e2) h)
theorem e_callT {id : String} {rr : List V → Hp → VK → Prop} {As : List Ag} (hc : CallR X (.type id) rr) (hm : X.mg x = none) (hv : bootBuiltins x = some (.type id)) (hr : RC tb rr As R) (ha : EA tb X G (e :: es) As) (hg : Gl X x := by rfl) (hn : x ≠ "__name__" := by decide) (hdb : (x == ("__debug__" : Str)) = false := by decide)
    (hst : starEach (e :: es) X.env = (false, eval e X.env) :: starEach es X.env := by rfl) (hpl : (backTo pos (starEach es X.env)).any (·.1) = false := by rfl) : EV tb X G (.Call (.Name x p) (e :: es) [] pos) R := fun σ H t f Q k =>
  toE (pe_callTy hc hg hm hv pa_RA hn hdb hst hpl) (ha σ H t f _ fun vs H1 e1 q => hr H vs H1 e1 q Q fun v H' e2 h => k v H' (e1.trans e2) h)
end
end Tw
end STwC
section STwD
set_option Elab.async false
set_option linter.all false
set_option maxRecDepth 100000
set_option maxHeartbeats 4000000
/-! Sequences, calls, blocks. -/
namespace Tw
open PySem PySem.Spec PyProof.Rows L2

/-- arguments of types for ever -/
def EM (tb : Tb) (X : Cx) (G : List (Option Ty)) (es : List Expr) (Ks : List Im) : Prop :=
  ∀ (σ : L2.St) (H : Hp), Tbl tb H → Fit H G σ → ∀ Q : List V → Hp → Prop, (∀ vs H', Ex tb H H' → All Ks vs H' → Q vs H') → RA X es σ H Q

section
variable {tb : Tb} {X : Cx} {G : List (Option Ty)} {a b c e : Expr} {es : List Expr} {R R1 R2' : Rs} {T U : Ty} {pos p p' : Pos} {n m : Nat} {i j : Int} {x : Str} {Ts Us : List Im} {r s : List Nat} {z : Addr} {K : Im}
theorem em_nil : EM tb X G [] [] := fun σ H t f Q k => toA pa_nil (k [] H Ex.refl trivial)
theorem em_cons (h : EV tb X G e (val K.ty)) (hr : EM tb X G es Ts) (hs : starEach (e :: es) X.env = (false, eval e X.env) :: starEach es X.env := by rfl) : EM tb X G (e :: es) (K :: Ts) := fun σ H t f Q k =>
  toA (pa_cons pe_RE pa_RA hs) (h σ H t f _ fun v H1 e1 q => hr σ H1 (e1.tab t) (f.ex e1) _ fun vs H2 e2 q2 => k (v :: vs) H2 (e1.trans e2) ⟨K.ex e2 q, q2⟩)
theorem e_tup {k : Nat} (h : EM tb X G es Ts) (hz : Nat.ble Ts.length 1000 = true := by rfl) : EV tb X G (.Tuple es k pos) (val (tT Ts)) := fun σ H t f Q q =>
  toE (pe_tup pa_RA) (h σ H t f _ fun vs H1 e1 hv => ⟨Nat.le_trans (Nat.le_trans (Nat.le_of_eq hv.length.symm) (Nat.le_of_ble_eq_true hz)) (by decide), fun p hp => q _ _ (e1.trans (Ex.new hp)) ⟨p, vs, rfl, upd_same, hv.ex (tb := tb) (Ex.new hp)⟩⟩)
theorem e_lst (h : EM tb X G es Ts) (hz : Nat.ble Ts.length 1000 = true := by rfl) : EV tb X G (.List es pos) (newL Ts) := fun σ H t f Q q =>
  toE (pe_lst pa_RA) (h σ H t f _ fun vs H1 e1 hv => ⟨Nat.le_trans (Nat.le_trans (Nat.le_of_eq hv.length.symm) (Nat.le_of_ble_eq_true hz)) (by decide), fun p hp => q _ _ (e1.trans (Ex.new hp)) ⟨p, e1.dom p hp, rfl, vs, upd_same, hv.ex (tb := tb) (Ex.new hp)⟩⟩)

/-! ### items -/
theorem atI_all {H : Hp} {xs : List V} (h : All Ts xs H) (q : atI Ts i = some K) : ∃ v, atI xs i = some v ∧ K.is v H := by
  unfold atI at q ⊢
  rw [← h.length]
  cases e : ixN Ts.length i with
  | none => rw [e] at q; cases q
  | some k =>
    rw [e] at q
    exact h.at q
theorem rr_ixT (q : atI Ts i = some K) : RR tb (rIxT X.K) (val (tT Ts)) (val (tI i)) (val K.ty) := fun H x H1 y H2 e1 h1 e2 h2 Q k => by
  obtain ⟨e, xs, rfl, he, ha⟩ := (tT Ts).ex e2 h1
  cases h2
  obtain ⟨v, hv, kv⟩ := atI_all ha q
  exact ⟨e, xs, i, v, rfl, rfl, SqT.of he, hv, k v _ Ex.refl kv⟩
theorem rr_ixL (q : atI Ts i = some K) : RR tb (rIxL X.K) (val (tL z Ts)) (val (tI i)) (val K.ty) := fun H x H1 y H2 e1 h1 e2 h2 Q k => by
  obtain ⟨rfl, xs, he, ha⟩ := (tL z Ts).ex e2 h1
  cases h2
  obtain ⟨v, hv, kv⟩ := atI_all ha q
  exact ⟨z, xs, i, v, rfl, rfl, SqL.of he, hv, k v _ Ex.refl kv⟩
theorem rr_ixN (q : atI Ts i = some K) : RR tb (rIxL X.K) (newL Ts) (val (tI i)) (val K.ty) := fun H x H1 y H2 e1 h1 e2 h2 Q k => by
  obtain ⟨z, _, h1⟩ := h1
  obtain ⟨rfl, xs, he, ha⟩ := (tL z Ts).ex e2 h1
  cases h2
  obtain ⟨v, hv, kv⟩ := atI_all ha q
  exact ⟨z, xs, i, v, rfl, rfl, SqL.of he, hv, k v _ Ex.refl kv⟩
theorem atI_map {α β : Type} (f : α → β) {l : List α} {k : Nat} {d : α} (h : l[k]? = some d) : atI (l.map f) (k : Int) = some (f d) := atI_nat (by rw [List.getElem?_map, h]; rfl)
theorem atI_neg {α : Type} {l : List α} {d : α} (h : l[l.length - 1]? = some d) : atI l (-1) = some d := by
  have hl : l.length - 1 < l.length := (List.getElem?_eq_some_iff.mp h).1
  unfold atI ixN
  rw [if_neg (by decide), if_pos (by omega)]
  show l[((-1 : Int) + (l.length : Nat)).toNat]? = some d
  have e : ((-1 : Int) + (l.length : Nat)).toNat = l.length - 1 := by omega
  rw [e]; exact h
/-- t[k] -/
theorem e_ixT {k : Nat} (ha : EV tb X G a (val (tT Ts))) (hb : EV tb X G b (val (tN k))) (h : Ts[k]? = some K) (hs : PlainIx b := by exact fun _ _ => rfl) : EV tb X G (.Subscript a b pos) (val K.ty) := e_ixr ix_tup (rr_ixT (atI_nat h)) ha hb hs
theorem e_ixL {k : Nat} (ha : EV tb X G a (val (tL z Ts))) (hb : EV tb X G b (val (tN k))) (h : Ts[k]? = some K) (hs : PlainIx b := by exact fun _ _ => rfl) : EV tb X G (.Subscript a b pos) (val K.ty) := e_ixr ix_list (rr_ixL (atI_nat h)) ha hb hs
theorem e_ixN {k : Nat} (ha : EV tb X G a (newL Ts)) (hb : EV tb X G b (val (tN k))) (h : Ts[k]? = some K) (hs : PlainIx b := by exact fun _ _ => rfl) : EV tb X G (.Subscript a b pos) (val K.ty) := e_ixr ix_list (rr_ixN (atI_nat h)) ha hb hs
theorem nums_at {k d : Nat} (h : r[k]? = some d) : (r.map kN)[k]? = some (kN d) := by rw [List.getElem?_map, h]; rfl
theorem e_ixR {k d : Nat} (ha : EV tb X G a (val (tRow r))) (hb : EV tb X G b (val (tN k))) (h : r[k]? = some d) (hs : PlainIx b := by exact fun _ _ => rfl) : EV tb X G (.Subscript a b pos) (val (tN d)) := e_ixT ha hb (nums_at h) hs
theorem e_ixLR {k d : Nat} (ha : EV tb X G a (val (tL z (r.map kN)))) (hb : EV tb X G b (val (tN k))) (h : r[k]? = some d) (hs : PlainIx b := by exact fun _ _ => rfl) : EV tb X G (.Subscript a b pos) (val (tN d)) := e_ixL ha hb (nums_at h) hs
theorem e_neg (ha : EV tb X G a (val (tI i))) : EV tb X G (.UnaryOp .USub a pos) (val (tI (-i))) := e_un un_neg (fun H x H1 e1 h1 Q k => by cases h1; exact ⟨i, rfl, k _ _ Ex.refl rfl⟩) ha
/-- t[-1] -/
theorem e_lastR {d : Nat} {k : Nat} {p1 p2 : Pos} (ha : EV tb X G a (val (tRow r))) (h : r[r.length - 1]? = some d) (hs : PlainIx (.UnaryOp .USub (.Constant (.int 1) k p1) p2) := by exact fun _ _ => rfl) :
    EV tb X G (.Subscript a (.UnaryOp .USub (.Constant (.int 1) k p1) p2) pos) (val (tN d)) :=
  e_ixr ix_tup (rr_ixT (i := -1) (atI_neg (by rw [List.length_map]; exact nums_at h))) ha (e_neg (e_i 1)) hs

/-! ### slices -/
theorem All.cut {H : Hp} {xs : List V} (h : All Ts xs H) (n m : Nat) : All ((Ts.drop n).take m) ((xs.drop n).take m) H := (h.drop n).take m
/-- xs[:k] of a list -/
theorem e_takeL {k : Nat} {p2 : Pos} (ha : EV tb X G a (val (tL z Ts))) (hb : EV tb X G b (val (tN k))) : EV tb X G (.Subscript a (.Slice none (some b) none p2) pos) (newL (Ts.take k)) := fun σ H t f Q q =>
  toE (pe_slice sl_list pe_RE po_none (po_some pe_RE)) (ha σ H t f _ fun v H1 e1 h1 => hb σ H1 (e1.tab t) (f.ex e1) _ fun y H2 e2 h2 => by
    obtain ⟨rfl, xs, he, hA⟩ := (tL z Ts).ex e2 h1
    cases h2
    refine ⟨_, rfl, z, xs, rfl, SqL.of he, fun p hp => q _ _ ((e1.trans e2).trans (Ex.new hp)) ⟨p, (e1.trans e2).dom p hp, rfl, _, upd_same, ?_⟩⟩
    have e3 : cutV xs none (some (k : Int)) = xs.take k := by
      unfold cutV
      rw [HT.sIx_none, HT.sIx_nat, List.drop_zero, Nat.sub_zero, ← List.take_take, List.take_length]
    rw [e3]
    exact (hA.take k).ex (tb := tb) (Ex.new hp))
/-- xs[k:] of a list -/
theorem e_dropL {k : Nat} {p2 : Pos} (ha : EV tb X G a (val (tL z Ts))) (hb : EV tb X G b (val (tN k))) : EV tb X G (.Subscript a (.Slice (some b) none none p2) pos) (newL (Ts.drop k)) := fun σ H t f Q q =>
  toE (pe_slice sl_list pe_RE (po_some pe_RE) po_none) (ha σ H t f _ fun v H1 e1 h1 => hb σ H1 (e1.tab t) (f.ex e1) _ fun y H2 e2 h2 => by
    obtain ⟨rfl, xs, he, hA⟩ := (tL z Ts).ex e2 h1
    cases h2
    refine ⟨_, rfl, z, xs, rfl, SqL.of he, fun p hp => q _ _ ((e1.trans e2).trans (Ex.new hp)) ⟨p, (e1.trans e2).dom p hp, rfl, _, upd_same, ?_⟩⟩
    have e3 : cutV xs (some (k : Int)) none = xs.drop k := by
      unfold cutV
      rw [HT.sIx_none, HT.sIx_nat]
      by_cases hk : k ≤ xs.length
      · rw [Nat.min_eq_left hk, ← List.length_drop, List.take_length]
      · rw [Nat.min_eq_right (by omega), List.drop_eq_nil_of_le (Nat.le_refl _), List.drop_eq_nil_of_le (by omega), List.take_nil]
    rw [e3]
    exact (hA.drop k).ex (tb := tb) (Ex.new hp))
theorem e_dropN {k : Nat} {p2 : Pos} (ha : EV tb X G a (newL Ts)) (hb : EV tb X G b (val (tN k))) : EV tb X G (.Subscript a (.Slice (some b) none none p2) pos) (newL (Ts.drop k)) := fun σ H t f Q q =>
  toE (pe_slice sl_list pe_RE (po_some pe_RE) po_none) (ha σ H t f _ fun v H1 e1 h1 => hb σ H1 (e1.tab t) (f.ex e1) _ fun y H2 e2 h2 => by
    obtain ⟨z, _, h1⟩ := h1
    obtain ⟨rfl, xs, he, hA⟩ := (tL z Ts).ex e2 h1
    cases h2
    refine ⟨_, rfl, z, xs, rfl, SqL.of he, fun p hp => q _ _ ((e1.trans e2).trans (Ex.new hp)) ⟨p, (e1.trans e2).dom p hp, rfl, _, upd_same, ?_⟩⟩
    have e3 : cutV xs (some (k : Int)) none = xs.drop k := by
      unfold cutV
      rw [HT.sIx_none, HT.sIx_nat]
      by_cases hk : k ≤ xs.length
      · rw [Nat.min_eq_left hk, ← List.length_drop, List.take_length]
      · rw [Nat.min_eq_right (by omega), List.drop_eq_nil_of_le (Nat.le_refl _), List.drop_eq_nil_of_le (by omega), List.take_nil]
    rw [e3]
    exact (hA.drop k).ex (tb := tb) (Ex.new hp))
/-- t[:k] of a tuple -/
theorem e_takeT {k : Nat} {p2 : Pos} (ha : EV tb X G a (val (tT Ts))) (hb : EV tb X G b (val (tN k))) : EV tb X G (.Subscript a (.Slice none (some b) none p2) pos) (val (tT (Ts.take k))) := fun σ H t f Q q =>
  toE (pe_slice sl_tupA pe_RE po_none (po_some pe_RE)) (ha σ H t f _ fun v H1 e1 h1 => hb σ H1 (e1.tab t) (f.ex e1) _ fun y H2 e2 h2 => by
    obtain ⟨e, xs, rfl, he, hA⟩ := (tT Ts).ex e2 h1
    cases h2
    have e3 : cutV xs none (some (k : Int)) = xs.take k := by
      unfold cutV
      rw [HT.sIx_none, HT.sIx_nat, List.drop_zero, Nat.sub_zero, ← List.take_take, List.take_length]
    refine ⟨_, rfl, e, xs, rfl, SqT.of he, fun w => ?_, fun _ p hp => q _ _ ((e1.trans e2).trans (Ex.new hp)) ⟨p, _, rfl, upd_same, ?_⟩⟩
    · refine q _ _ (e1.trans e2) ⟨e, xs, rfl, he, ?_⟩
      have w2 := w.2
      rw [HT.sIx_nat] at w2
      have hl := hA.length
      rw [List.take_of_length_le (by omega)]
      exact hA
    · rw [e3]
      exact (hA.take k).ex (tb := tb) (Ex.new hp))

/-! ### len, list, tuple, sum, max, min .. -/
theorem rc_len1 : RC tb (fun xs H Q => ∃ p ys, xs = [.ref p] ∧ (SqL X.K H p ys ∨ SqT X.K H p ys) ∧ Q (.int ys.length) H) [agL Ts] (val (tN Ts.length)) := fun H vs H1 e1 hf Q k => by
  match vs, hf with
  | [v], ⟨⟨z, h⟩, _⟩ =>
    obtain ⟨rfl, xs, he, hA⟩ := h
    exact ⟨z, xs, rfl, .inl (SqL.of he), k _ _ Ex.refl (by show V.int _ = V.int _; rw [hA.length])⟩
theorem rc_len2 : RC tb (fun xs H Q => ∃ p ys, xs = [.ref p] ∧ (SqL X.K H p ys ∨ SqT X.K H p ys) ∧ Q (.int ys.length) H) [ag (tT Ts)] (val (tN Ts.length)) := fun H vs H1 e1 hf Q k => by
  match vs, hf with
  | [v], ⟨⟨_, h⟩, _⟩ =>
    obtain ⟨e, xs, rfl, he, hA⟩ := h
    exact ⟨e, xs, rfl, .inr (SqT.of he), k _ _ Ex.refl (by show V.int _ = V.int _; rw [hA.length])⟩
theorem e_lenL (hm : X.mg "len" = none) (ha : EV tb X G a (val (tL z Ts))) (hg : Gl X "len" := by rfl) (hs : starEach [a] X.env = (false, eval a X.env) :: starEach [] X.env := by rfl) : EV tb X G (.Call (.Name "len" p) [a] [] pos) (val (tN Ts.length)) :=
  e_callB call_len_seq hm PySem.boot_len rc_len1 (ea_l ha ea_nil hs) hg (by decide) (by decide) hs
theorem e_lenN (hm : X.mg "len" = none) (ha : EV tb X G a (newL Ts)) (hg : Gl X "len" := by rfl) (hs : starEach [a] X.env = (false, eval a X.env) :: starEach [] X.env := by rfl) : EV tb X G (.Call (.Name "len" p) [a] [] pos) (val (tN Ts.length)) :=
  e_callB call_len_seq hm PySem.boot_len rc_len1 (ea_n ha ea_nil hs) hg (by decide) (by decide) hs
theorem e_lenT (hm : X.mg "len" = none) (ha : EV tb X G a (val (tT Ts))) (hg : Gl X "len" := by rfl) (hs : starEach [a] X.env = (false, eval a X.env) :: starEach [] X.env := by rfl) : EV tb X G (.Call (.Name "len" p) [a] [] pos) (val (tN Ts.length)) :=
  e_callB call_len_seq hm PySem.boot_len rc_len2 (ea_v ha ea_nil hs) hg (by decide) (by decide) hs
theorem e_lenR (hm : X.mg "len" = none) (ha : EV tb X G a (val (tRow r))) (hg : Gl X "len" := by rfl) (hs : starEach [a] X.env = (false, eval a X.env) :: starEach [] X.env := by rfl) : EV tb X G (.Call (.Name "len" p) [a] [] pos) (val (tN r.length)) := (e_lenT hm ha hg hs).cast (by rw [List.length_map])
theorem e_lenLR (hm : X.mg "len" = none) (ha : EV tb X G a (val (tL z (r.map kN)))) (hg : Gl X "len" := by rfl) (hs : starEach [a] X.env = (false, eval a X.env) :: starEach [] X.env := by rfl) : EV tb X G (.Call (.Name "len" p) [a] [] pos) (val (tN r.length)) := (e_lenL hm ha hg hs).cast (by rw [List.length_map])
/-- list(t), list(xs) -/
theorem rc_list1 : RC tb (fun xs H Q => ∃ p ys, xs = [.ref p] ∧ (SqL X.K H p ys ∨ SqT X.K H p ys) ∧ ∀ l, H l = none → Q (.ref l) (upd H l (.lst ys))) [ag (tT Ts)] (newL Ts) := fun H vs H1 e1 hf Q k => by
  match vs, hf with
  | [v], ⟨⟨_, h⟩, _⟩ =>
    obtain ⟨e, xs, rfl, he, hA⟩ := h
    exact ⟨e, xs, rfl, .inr (SqT.of he), fun l hl => k _ _ (Ex.new hl) ⟨l, e1.dom l hl, rfl, xs, upd_same, hA.ex (tb := tb) (Ex.new hl)⟩⟩
theorem e_listT (hm : X.mg "list" = none) (ha : EV tb X G a (val (tT Ts))) (hg : Gl X "list" := by rfl) (hs : starEach [a] X.env = (false, eval a X.env) :: starEach [] X.env := by rfl) : EV tb X G (.Call (.Name "list" p) [a] [] pos) (newL Ts) :=
  e_callT call_list_of hm (by decide +kernel) rc_list1 (ea_v ha ea_nil hs) hg (by decide) (by decide) hs
theorem rc_tup1 : RC tb (fun xs H Q => ∃ p ys, xs = [.ref p] ∧ ((SqL X.K H p ys ∧ ∀ l, H l = none → Q (.ref l) (upd H l (.tup ys))) ∨ (SqT X.K H p ys ∧ Q (.ref p) H))) [agL Ts] (val (tT Ts)) := fun H vs H1 e1 hf Q k => by
  match vs, hf with
  | [v], ⟨⟨z, h⟩, _⟩ =>
    obtain ⟨rfl, xs, he, hA⟩ := h
    exact ⟨z, xs, rfl, .inl ⟨SqL.of he, fun l hl => k _ _ (Ex.new hl) ⟨l, xs, rfl, upd_same, hA.ex (tb := tb) (Ex.new hl)⟩⟩⟩
theorem rc_tup2 : RC tb (fun xs H Q => ∃ p ys, xs = [.ref p] ∧ ((SqL X.K H p ys ∧ ∀ l, H l = none → Q (.ref l) (upd H l (.tup ys))) ∨ (SqT X.K H p ys ∧ Q (.ref p) H))) [ag (tT Ts)] (val (tT Ts)) := fun H vs H1 e1 hf Q k => by
  match vs, hf with
  | [v], ⟨⟨_, h⟩, _⟩ =>
    obtain ⟨e, xs, rfl, he, hA⟩ := h
    exact ⟨e, xs, rfl, .inr ⟨SqT.of he, k _ _ Ex.refl ⟨e, xs, rfl, he, hA⟩⟩⟩
theorem e_tupL (hm : X.mg "tuple" = none) (ha : EV tb X G a (val (tL z Ts))) (hg : Gl X "tuple" := by rfl) (hs : starEach [a] X.env = (false, eval a X.env) :: starEach [] X.env := by rfl) : EV tb X G (.Call (.Name "tuple" p) [a] [] pos) (val (tT Ts)) :=
  e_callT call_tuple_of hm (by decide +kernel) rc_tup1 (ea_l ha ea_nil hs) hg (by decide) (by decide) hs
theorem e_tupN (hm : X.mg "tuple" = none) (ha : EV tb X G a (newL Ts)) (hg : Gl X "tuple" := by rfl) (hs : starEach [a] X.env = (false, eval a X.env) :: starEach [] X.env := by rfl) : EV tb X G (.Call (.Name "tuple" p) [a] [] pos) (val (tT Ts)) :=
  e_callT call_tuple_of hm (by decide +kernel) rc_tup1 (ea_n ha ea_nil hs) hg (by decide) (by decide) hs
theorem e_tupT (hm : X.mg "tuple" = none) (ha : EV tb X G a (val (tT Ts))) (hg : Gl X "tuple" := by rfl) (hs : starEach [a] X.env = (false, eval a X.env) :: starEach [] X.env := by rfl) : EV tb X G (.Call (.Name "tuple" p) [a] [] pos) (val (tT Ts)) :=
  e_callT call_tuple_of hm (by decide +kernel) rc_tup2 (ea_v ha ea_nil hs) hg (by decide) (by decide) hs
/-- int(n) -/
theorem rc_int : RC tb (fun xs H Q => (∃ i, xs = [.int i] ∧ Q (.int i) H) ∨ ∃ k, xs = [.bl k] ∧ Q (.int (if k then 1 else 0)) H) [ag (tI i)] (val (tI i)) := fun H vs H1 e1 hf Q k => by
  match vs, hf with
  | [v], ⟨⟨_, h⟩, _⟩ =>
    cases h
    exact .inl ⟨i, rfl, k _ _ Ex.refl rfl⟩
theorem e_int (hm : X.mg "int" = none) (ha : EV tb X G a (val (tI i))) (hg : Gl X "int" := by rfl) (hs : starEach [a] X.env = (false, eval a X.env) :: starEach [] X.env := by rfl) : EV tb X G (.Call (.Name "int" p) [a] [] pos) (val (tI i)) :=
  e_callT call_int1 hm (by decide +kernel) rc_int (ea_v ha ea_nil hs) hg (by decide) (by decide) hs
/-- + of tuples, of lists, * of a list -/
theorem rr_cat : RR tb (rCatA X.K) (val (tT Ts)) (val (tT Us)) (val (tT (Ts ++ Us))) ∨ ¬ (Ts.length + Us.length ≤ 1000) := by
  by_cases hz : Ts.length + Us.length ≤ 1000
  · refine .inl fun H x H1 y H2 e1 h1 e2 h2 Q k => ?_
    obtain ⟨e, xs, rfl, he, hA⟩ := (tT Ts).ex e2 h1
    obtain ⟨e', ys, rfl, he', hB⟩ := h2
    have l1 := hA.length
    have l2 := hB.length
    refine ⟨e, e', xs, ys, rfl, rfl, SqT.of he, SqT.of he', Nat.le_trans (show xs.length + ys.length ≤ 1000 by omega) (by decide), fun hx => ?_, fun hx hy => ?_, fun hx hy p hp => ?_⟩
    · refine k _ _ Ex.refl ⟨e', ys, rfl, he', ?_⟩
      have : Ts = [] := by subst hx; exact List.length_eq_zero_iff.mp l1
      rw [this]; exact hB
    · refine k _ _ Ex.refl ⟨e, xs, rfl, he, ?_⟩
      have : Us = [] := by subst hy; exact List.length_eq_zero_iff.mp l2
      rw [this, List.append_nil]; exact hA
    · exact k _ _ (Ex.new hp) ⟨p, _, rfl, upd_same, (hA.app hB).ex (tb := tb) (Ex.new hp)⟩
  · exact .inr hz
end
end Tw
end STwD
section STwE
set_option Elab.async false
set_option linter.all false
set_option maxRecDepth 100000
set_option maxHeartbeats 4000000
/-! Promises of defs, blocks, loops, comprehensions. -/
namespace Tw
open PySem PySem.Spec PyProof.Rows L2

/-! ### promises -/
structure Prm (α : Type) where
  args : α → List Ag
  ok : α → Prop
  res : α → Rs
def spF {α : Type} (tb : Tb) (P : Prm α) : Sp := fun vs H Q _ => ∃ a, P.ok a ∧ Tbl tb H ∧ Fits (P.args a) vs H ∧ ∀ v H', Ex tb H H' → (P.res a).is H v H' → Q v H'
/-- a def of the module's, as its callers see it -/
structure Def {α : Type} (tb : Tb) (P : Program) (w : World) (K : PySem.W.Frag) (mg : Str → Option Value) (base : Heap) (x : Str) (k : Nat) (Pm : Prm α) : Prop where
  ex : ∃ (f : Addr) (fd : FuncData) (ps : List Str), FnOk P w K mg base CX0 k f fd ps (spF tb Pm) ∧ mg x = some (.ref f) ∧ PySem.W.keepIn K (.ref f) = true ∧ Binds K fd ps []
section
variable {α : Type} {tb : Tb} {X : Cx} {G : List (Option Ty)} {e : Expr} {es : List Expr} {pos p : Pos} {x : Str} {k : Nat} {Pm : Prm α}
theorem e_call {R : Rs} (F : Def tb X.prog X.w X.K X.mg X.base x k Pm) (hr : Room k X.A) (a : α) (hok : Pm.ok a) (ha : EA tb X G (e :: es) (Pm.args a)) (hR : Pm.res a = R := by rfl) (hg : Gl X x := by rfl) (hdb : (x == ("__debug__" : Str)) = false := by decide) (hs : starEach (e :: es) X.env = (false, eval e X.env) :: starEach es X.env := by rfl)
    (hpl : (backTo pos (starEach es X.env)).any (·.1) = false := by rfl) : EV tb X G (.Call (.Name x p) (e :: es) [] pos) R := by
  obtain ⟨f, fd, ps, F, hm, hk, hb⟩ := F.ex
  rw [← hR]
  exact fun σ H t f' Q q => toE (pe_call F hr hg hm hk hb .nil pass0 pa_RA hdb hs hpl) (ha σ H t f' _ fun vs H1 e1 h1 => ⟨a, hok, e1.tab t, by rw [List.append_nil]; exact h1, fun v H' e2 h2 => q v H' (e1.trans e2) ((Pm.res a).mono e1 h2 Ex.refl)⟩)
end
/-- the slots at a def's entry -/
def gam : List Ag → (Nat → Addr) → Nat → List (Option Ty)
  | [], _, n => List.replicate n none
  | A :: As, as, n => some (A (as 0)) :: gam As (fun i => as (i + 1)) n
theorem fit_start {H : Hp} : ∀ {As : List Ag} {vs : List V} (n : Nat), Fits As vs H → ∃ as, Fit H (gam As as n) (vs.map some ++ List.replicate n none)
  | [], [], n, _ => ⟨fun _ => 0, by
      show Fit H (List.replicate n none) (List.replicate n none)
      induction n with
      | zero => trivial
      | succ n ih => rw [List.replicate_succ, List.replicate_succ]; exact ih⟩
  | A :: As, v :: vs, n, h => by
    obtain ⟨a, ha⟩ := h.1
    obtain ⟨as, hs⟩ := fit_start (As := As) (vs := vs) n h.2
    exact ⟨fun i => match i with | 0 => a | i + 1 => as i, ⟨v, rfl, ha⟩, hs⟩
  | [], _ :: _, _, h => h.elim
  | _ :: _, [], _, h => h.elim
theorem Fits.length {H : Hp} : ∀ {As : List Ag} {vs : List V}, Fits As vs H → As.length = vs.length
  | [], [], _ => rfl
  | _ :: As, _ :: vs, h => congrArg (· + 1) (Fits.length (As := As) h.2)
  | [], _ :: _, h => h.elim
  | _ :: _, [], h => h.elim
section
variable {P : Program} {w : World} {K : PySem.W.Frag} {mg : Str → Option Value} {base : Heap}
/-- THE RULE for a def of the module's -/
theorem fun_tw {α : Type} {tb : Tb} {Pm : Prm α} {x qual : Str} {st : Stmt} {f : Addr} {fd : FuncData} {N ps : List Str} {k : Nat} (F : Fun K x qual st f fd) (S : FnScope N ps (defScope st)) (hl : ∀ a, (Pm.args a).length = ps.length)
    (body : ∀ (a : α) (cdv : Value) (A : Around) (outer : List Env) (s : Shared) (H0 : Hp) (E : XK) (as : Nat → Addr) (D : Ends), Pm.ok a → Room k (A.deeper (envOfC qual (defScope st) s.heap.objs.size f cdv)) → Tbl tb H0 →
      (∀ v H', Ex tb H0 H' → (Pm.res a).is H0 v H' → D.rt v H') → (∀ σ H', Ex tb H0 H' → (Pm.res a).is H0 .non H' → D.nx σ H') →
      BK tb (cxOf CX0 P w K mg base N qual (defScope st) f cdv A outer s H0 E).nox H0 (gam (Pm.args a) as (N.length - ps.length)) [] (defBody st) D) : FnOk P w K mg base CX0 (k + 1) f fd ps (spF tb Pm) := by
  refine F.ok S (fun vs H Q E h => ?_) (fun cdv A outer s H vs Q E hr h => ?_)
  · obtain ⟨a, _, _, hf, _⟩ := h
    rw [← hf.length, hl]
  · obtain ⟨a, hok, ht, hf, hq⟩ := h
    obtain ⟨as, hs⟩ := fit_start (N.length - ps.length) hf
    refine ⟨RB _ _, pss_RB, ?_⟩
    refine body a cdv A outer s H E as _ hok hr ht hq (fun σ H' e h => hq _ H' e h) _ _ ⟨Ex.refl, ht, ?_, trivial⟩
    unfold L2.start
    rw [← hf.length, hl]
    exact hs
theorem def_mk {α : Type} {tb : Tb} {Pm : Prm α} {x : Str} {k : Nat} {f : Addr} {fd : FuncData} {ps : List Str} (F : FnOk P w K mg base CX0 k f fd ps (spF tb Pm)) (hm : mg x = some (.ref f)) (hk : PySem.W.keepIn K (.ref f) = true) (hb : Binds K fd ps []) : Def tb P w K mg base x k Pm := ⟨⟨f, fd, ps, F, hm, hk, hb⟩⟩
end

/-! ### blocks -/
section
variable {tb : Tb} {X : Cx} {H0 : Hp} {G G' : List (Option Ty)} {D : List (V × Ty)} {a b c e ix : Expr} {es : List Expr} {R R1 R2' : Rs} {T U : Ty} {pos p p' tp : Pos} {n m : Nat} {x y : Str} {Ts Us : List Im} {K : Im} {z : Addr} {st : Stmt} {rest body els : List Stmt} {E : Ends}
theorem bk_of (h : ∀ (σ : L2.St) (H : Hp), En tb H0 G D σ H → RS X st { E with nx := fun σ' H' => RB X rest E σ' H' } σ H) : BK tb X H0 G D (st :: rest) E := fun σ H g => toB (pss_cons ps_RS pss_RB) (h σ H g)
theorem BK.wk {sts : List Stmt} (h : BK tb X H0 G' D sts E) (w : Wk G G') : BK tb X H0 G D sts E := fun σ H g => h σ H (g.wk w)
/-- the block's end -/
theorem b_fall (h : ∀ σ H, En tb H0 G D σ H → E.nx σ H) : BK tb X H0 G D [] E := fun σ H g => toB pss_nil (h σ H g)
theorem b_pass (h : BK tb X H0 G D rest E) : BK tb X H0 G D (.Pass pos :: rest) E := bk_of fun σ H g => toS ps_pass (h σ H g)
theorem b_break (h : ∀ σ H, En tb H0 G D σ H → E.bk σ H) : BK tb X H0 G D (.Break pos :: rest) E := bk_of fun σ H g => toS ps_break (h σ H g)
theorem b_cont (h : ∀ σ H, En tb H0 G D σ H → E.ct σ H) : BK tb X H0 G D (.Continue pos :: rest) E := bk_of fun σ H g => toS ps_continue (h σ H g)
/-- x = e -/
theorem b_set (nd : X.N.Nodup) (i : Nat) (he : EV tb X G e (val T)) (k : BK tb X H0 (G.set i (some T)) D rest E) (hi : X.N[i]? = some x := by rfl) (hx : Loc X.env.scope x := by first | exact Or.inl rfl | exact Or.inr rfl) (hs : swapsWith e (some (.Name x p)) pos.line X.env = pure false := by rfl)
    (hf : X.fn x = true ∨ X.env.scope.names.lookup x = some .local := by first | exact .inl rfl | exact .inr rfl) : BK tb X H0 G D (.Assign [.Name x p] e pos :: rest) E :=
  bk_of fun σ H g => toS (ps_set nd hi hx pe_RE hs hf) (he σ H g.tab g.fit _ fun v H' e' hT => k _ _ ((g.step e').set hT))
/-- x = e, e a new list -/
theorem b_new (nd : X.N.Nodup) (i : Nat) (he : EV tb X G e (newL Ts)) (k : ∀ z, H0 z = none → Off z G → OffD z D → BK tb X H0 (G.set i (some (tL z Ts))) D rest E) (hi : X.N[i]? = some x := by rfl) (hx : Loc X.env.scope x := by first | exact Or.inl rfl | exact Or.inr rfl) (hs : swapsWith e (some (.Name x p)) pos.line X.env = pure false := by rfl)
    (hf : X.fn x = true ∨ X.env.scope.names.lookup x = some .local := by first | exact .inl rfl | exact .inr rfl) : BK tb X H0 G D (.Assign [.Name x p] e pos :: rest) E :=
  bk_of fun σ H g => toS (ps_set nd hi hx pe_RE hs hf) (he σ H g.tab g.fit _ fun v H' e' ⟨z, hz, hT⟩ => k z (g.ex.dom z hz) (off_new (fun o q => by rw [hz] at q; cases q) g.fit) (offD_new (fun o q => by rw [hz] at q; cases q) g.more) _ _ ((g.step e').set hT))
theorem b_newD {ks : List (List Nat)} (nd : X.N.Nodup) (i : Nat) (he : EV tb X G e (newD ks)) (k : ∀ z, H0 z = none → Off z G → OffD z D → BK tb X H0 (G.set i (some (tD z ks))) D rest E) (hi : X.N[i]? = some x := by rfl) (hx : Loc X.env.scope x := by first | exact Or.inl rfl | exact Or.inr rfl) (hs : swapsWith e (some (.Name x p)) pos.line X.env = pure false := by rfl)
    (hf : X.fn x = true ∨ X.env.scope.names.lookup x = some .local := by first | exact .inl rfl | exact .inr rfl) : BK tb X H0 G D (.Assign [.Name x p] e pos :: rest) E :=
  bk_of fun σ H g => toS (ps_set nd hi hx pe_RE hs hf) (he σ H g.tab g.fit _ fun v H' e' ⟨z, hz, hT⟩ => k z (g.ex.dom z hz) (off_new (fun o q => by rw [hz] at q; cases q) g.fit) (offD_new (fun o q => by rw [hz] at q; cases q) g.more) _ _ ((g.step e').set hT))
theorem b_ret (he : EV tb X G e R) (h : ∀ v H', Ex tb H0 H' → R.is H0 v H' → E.rt v H') : BK tb X H0 G D (.Return (some e) pos :: rest) E :=
  bk_of fun σ H g => toS (ps_ret pe_RE) (he σ H g.tab g.fit _ fun v H' e' hT => h v H' (g.ex.trans e') (R.mono g.ex hT Ex.refl))
theorem b_expr (he : EV tb X G e R) (k : BK tb X H0 G D rest E) (hs : swapsWith e none pos.line X.env = pure false := by rfl) : BK tb X H0 G D (.Expr e pos :: rest) E :=
  bk_of fun σ H g => toS (ps_expr pe_RE hs) (he σ H g.tab g.fit _ fun v H' e' _ => k _ _ (g.step e'))
theorem b_if {d : Bool} (ht : EVT tb X G c d) (h1 : d = true → BK tb X H0 G D body { E with nx := fun σ' H' => RB X rest E σ' H' }) (h2 : d = false → BK tb X H0 G D els { E with nx := fun σ' H' => RB X rest E σ' H' }) : BK tb X H0 G D (.If c body els pos :: rest) E :=
  bk_of fun σ H g => toS (ps_if pt_RT pss_RB pss_RB) (ht σ H g.tab g.fit _ fun H' e' => by
    cases d with
    | true => exact iteT (h1 rfl _ _ (g.step e'))
    | false => exact iteF (h2 rfl _ _ (g.step e')))
/-- an if without else -/
theorem b_when {d : Bool} (ht : EVT tb X G c d) (h1 : d = true → BK tb X H0 G D body { E with nx := fun σ' H' => RB X rest E σ' H' }) (h2 : d = false → BK tb X H0 G D rest E) : BK tb X H0 G D (.If c body [] pos :: rest) E :=
  b_if ht h1 fun z => b_fall fun σ H g => h2 z σ H g
/-- .. whose test is known to fail -/
theorem b_skip (ht : EVT tb X G c false) (h2 : BK tb X H0 G D rest E) : BK tb X H0 G D (.If c body [] pos :: rest) E := b_when ht (fun z => nomatch z) fun _ => h2
/-- x op= e -/
theorem b_aug {op : Operator} {r : R2} (nd : X.N.Nodup) (i : Nat) (h : G[i]? = some (some T)) (ho : PIp X op r) (hr : RR tb r (val T) R2' (val U)) (he : EV tb X G e R2') (k : BK tb X H0 (G.set i (some U)) D rest E) (hi : X.N[i]? = some x := by rfl) (hx : Loc X.env.scope x := by first | exact Or.inl rfl | exact Or.inr rfl)
    (hf : X.fn x = true ∨ X.env.scope.names.lookup x = some .local := by first | exact .inl rfl | exact .inr rfl) : BK tb X H0 G D (.AugAssign (.Name x p) op e pos :: rest) E :=
  bk_of fun σ H g => toS (ps_aug nd hi hx pe_RE ho hf) (by
    obtain ⟨v, h1, h2⟩ := g.fit.get h
    exact ⟨v, h1, he σ H g.tab g.fit _ fun y H1 e1 hy => hr H v H y H1 Ex.refl h2 e1 hy _ fun w' H2 e2 hw => k _ _ ((g.step (e1.trans e2)).set hw)⟩)
/-- xs[k] = e -/
theorem b_seti {k : Nat} (j : Nat) (hL : G[j]? = some (some (tL z Ts))) (h0 : H0 z = none) (f : Off z (G.set j none)) (fd : OffD z D) (hv : EV tb X G e (val K.ty)) (ha : EV tb X G a (val (tL z Ts))) (hi : EV tb X G ix (val (tN k))) (hk : k < Ts.length) (kk : BK tb X H0 (G.set j (some (tL z (Ts.set k K)))) D rest E)
    (hss : swapsWithSole [.Subscript a ix tp] e pos.line X.env = pure false := by rfl) (hw : swappedStores [.Subscript a ix tp] e X.env = pure none := by rfl) (h1 : (assignEach [.Subscript a ix tp] X.env).map (·.2) = [assign (.Subscript a ix tp) X.env] := by rfl)
    (has : ∀ v, assign (.Subscript a ix tp) X.env v = (do
      let ov ← holding [v] (eval a X.env)
      let iv ← holding [v, ov] (eval ix X.env)
      standAt tp
      holding [v, ov, iv] (setItem ov iv v)
      release [v, ov, iv] []) := by intro _; rfl) : BK tb X H0 G D (.Assign [.Subscript a ix tp] e pos :: rest) E :=
  bk_of fun σ H g => toS (ps_asg pe_RE (pg_sub pe_RE pe_RE set_list has) hss hw h1) (hv σ H g.tab g.fit _ fun v H1 e1 h1 => ha σ H1 (e1.tab g.tab) (g.fit.ex e1) _ fun o H2 e2 h2 => hi σ H2 ((e1.trans e2).tab g.tab) (g.fit.ex (e1.trans e2)) _ fun i H3 e3 h3 => by
    have g3 := g.step ((e1.trans e2).trans e3)
    obtain ⟨rfl, xs, hx, hA⟩ := (tL z Ts).ex e3 h2
    cases h3
    have hl := hA.length
    have hv3 := K.ex (e2.trans e3) h1
    refine ⟨z, xs, (k : Int), k, rfl, rfl, hx, ?_, ?_⟩
    · unfold ixN
      rw [if_pos (by omega), if_pos (by omega)]
      simp
    · obtain ⟨v0, q1, q2, _⟩ := g3.fit.get hL
      subst q2
      refine kk _ _ ?_
      have g4 : En tb H0 (G.set j none) D (σ.set j (some (.ref z))) H3 := ⟨g3.ex, g3.tab, g3.fit.clear j, g3.more⟩
      have g5 := g4.mut (o := .lst (xs.set k v)) h0 hx rfl notC_lst f fd
      have g6 := g5.set (T := tL z (Ts.set k K)) (v := .ref z) (i := j) ⟨rfl, _, upd_same, (hA.set hv3 k).mono fun b o q i => by
        rw [upd_ne (fun w => by rw [w, hx] at q; cases q; cases i)]; exact q⟩
      rw [List.set_set, List.set_set] at g6
      have e7 : σ.set j (some (.ref z)) = σ := by
        apply List.ext_getElem?
        intro n
        by_cases hn : n = j
        · subst hn
          have hlt := (List.getElem?_eq_some_iff.mp q1).1
          rw [List.getElem?_set_self hlt, q1]
        · rw [List.getElem?_set_ne (Ne.symm hn)]
      rw [e7] at g6
      exact g6)
theorem set_same {α : Type} {l : List α} {j : Nat} {v : α} (h : l[j]? = some v) : l.set j v = l := by
  apply List.ext_getElem?
  intro n
  by_cases hn : n = j
  · subst hn
    have hlt := (List.getElem?_eq_some_iff.mp h).1
    rw [List.getElem?_set_self hlt, h]
  · rw [List.getElem?_set_ne (Ne.symm hn)]
/-- xs.append(e), xs in slot j -/
theorem b_app {apos : Pos} (j : Nat) (hL : G[j]? = some (some (tL z Ts))) (h0 : H0 z = none) (f : Off z (G.set j none)) (fd : OffD z D) (hz : Ts.length < 16000000) (ha : EV tb X G a (val (tL z Ts))) (hv : EV tb X G e (val K.ty)) (kk : BK tb X H0 (G.set j (some (tL z (Ts ++ [K])))) D rest E)
    (hpe : ∀ {to : TE} {t : TA}, PE X a to → PA X [e] t → PE X (.Call (.Attribute a "append" apos) [e] [] p) (tBM X.K "list" rAppend to t) := by exact fun h1 h2 => pe_bm PySem.F.plainAttrs_list PySem.F.slot_list_append PySem.F.type_list_append mt_append h1 h2)
    (hs : swapsWith (.Call (.Attribute a "append" apos) [e] [] p) none pos.line X.env = pure false := by rfl) (hst : starEach [e] X.env = (false, eval e X.env) :: starEach [] X.env := by rfl) : BK tb X H0 G D (.Expr (.Call (.Attribute a "append" apos) [e] [] p) pos :: rest) E :=
  bk_of fun σ H g => toS (ps_expr (hpe pe_RE (pa_cons pe_RE pa_nil hst)) hs) (ha σ H g.tab g.fit _ fun o H1 e1 h1 => by
    obtain ⟨rfl, xs1, hx1, hA1⟩ := _root_.id h1
    refine ⟨.inl ⟨rfl, xs1, SqL.of hx1⟩, hv σ H1 (e1.tab g.tab) (g.fit.ex e1) _ fun v H2 e2 h2 => ?_⟩
    have g3 := g.step (e1.trans e2)
    obtain ⟨_, xs, hx, hA⟩ := (tL z Ts).ex e2 h1
    have hl := hA.length
    refine ⟨z, xs, v, rfl, rfl, hx, by rw [sizeLine_eq]; omega, ?_⟩
    obtain ⟨v0, q1, q2, _⟩ := g3.fit.get hL
    subst q2
    refine kk _ _ ?_
    have g4 : En tb H0 (G.set j none) D (σ.set j (some (.ref z))) H2 := ⟨g3.ex, g3.tab, g3.fit.clear j, g3.more⟩
    have g5 := g4.mut (o := .lst (xs ++ [v])) h0 hx rfl notC_lst f fd
    have g6 := g5.set (T := tL z (Ts ++ [K])) (v := .ref z) (i := j) ⟨rfl, _, upd_same, (hA.app (Us := [K]) (ys := [v]) ⟨h2, trivial⟩).mono fun b o q i => by
      rw [upd_ne (fun w => by rw [w, hx] at q; cases q; cases i)]; exact q⟩
    rw [List.set_set, List.set_set, set_same q1] at g6
    exact g6)
/-- a, b = e1, e2 -/
theorem b_par {px py pt : Pos} {kt k2 : Nat} {pt2 : Pos} (nd : X.N.Nodup) (i j : Nat) (ha : EV tb X G a (val T)) (hb : EV tb X G b (val U)) (k : BK tb X H0 ((G.set i (some T)).set j (some U)) D rest E) (hc : X.calm = true := by rfl) (hij : i ≠ j := by decide) (hi : X.N[i]? = some x := by rfl) (hj : X.N[j]? = some y := by rfl)
    (hx : X.env.scope.names.lookup x = some .local := by rfl) (hy : X.env.scope.names.lookup y = some .local := by rfl) (hw : swappedStores [.Tuple [.Name x px, .Name y py] kt pt] (.Tuple [a, b] k2 pt2) X.env = pure (some [x, y]) := by rfl)
    (hs : swapsWithSole [.Tuple [.Name x px, .Name y py] kt pt] (.Tuple [a, b] k2 pt2) pos.line X.env = pure false := by rfl) (hst : starEach [a, b] X.env = (false, eval a X.env) :: starEach [b] X.env := by rfl) (hst2 : starEach [b] X.env = (false, eval b X.env) :: starEach [] X.env := by rfl) :
    BK tb X H0 G D (.Assign [.Tuple [.Name x px, .Name y py] kt pt] (.Tuple [a, b] k2 pt2) pos :: rest) E :=
  bk_of fun σ H g => toS (ps_par hc nd hi hj hij hx hy (pa_cons pe_RE (pa_cons pe_RE pa_nil hst2) hst) hw hs) (ha σ H g.tab g.fit _ fun v H1 e1 h1 => hb σ H1 (e1.tab g.tab) (g.fit.ex e1) _ fun u H2 e2 h2 => ⟨v, u, rfl, k _ _ (((g.step (e1.trans e2)).set (T.ex e2 h1)).set h2)⟩)
/-- a, b = e, e a pair -/
theorem b_pair {K1 K2 : Im} {px py pt : Pos} {kt : Nat} (nd : X.N.Nodup) (i j : Nat) (he : EV tb X G e (val (tT [K1, K2]))) (k : BK tb X H0 ((G.set i (some K1.ty)).set j (some K2.ty)) D rest E) (hc : X.calm = true := by rfl) (hi : X.N[i]? = some x := by rfl) (hj : X.N[j]? = some y := by rfl)
    (hx : Loc X.env.scope x := by first | exact Or.inl rfl | exact Or.inr rfl) (hy : Loc X.env.scope y := by first | exact Or.inl rfl | exact Or.inr rfl) (hfx : X.fn x = true ∨ X.env.scope.names.lookup x = some .local := by first | exact .inl rfl | exact .inr rfl) (hfy : X.fn y = true ∨ X.env.scope.names.lookup y = some .local := by first | exact .inl rfl | exact .inr rfl)
    (hss : swapsWithSole [.Tuple [.Name x px, .Name y py] kt pt] e pos.line X.env = pure false := by rfl) (hw : swappedStores [.Tuple [.Name x px, .Name y py] kt pt] e X.env = pure none := by rfl) (h1 : (assignEach [.Tuple [.Name x px, .Name y py] kt pt] X.env).map (·.2) = [assign (.Tuple [.Name x px, .Name y py] kt pt) X.env] := by rfl)
    (hs1 : (assignEach [.Name x px, .Name y py] X.env).map (·.2) = assign (.Name x px) X.env :: (assignEach [.Name y py] X.env).map (·.2) := by rfl) (hs2 : (assignEach [.Name y py] X.env).map (·.2) = assign (.Name y py) X.env :: (assignEach [] X.env).map (·.2) := by rfl)
    (hn : (assignEach [.Name x px, .Name y py] X.env).length = 2 := by rfl) (hst : (assignEach [.Name x px, .Name y py] X.env).findIdx? (·.1) = none := by rfl) : BK tb X H0 G D (.Assign [.Tuple [.Name x px, .Name y py] kt pt] e pos :: rest) E :=
  bk_of fun σ H g => toS (ps_asg pe_RE (pg_tup hc (pgs_cons (pg_name nd hi hx hfx) (pgs_cons (pg_name nd hj hy hfy) pgs_nil hs2) hs1) hn hst) hss hw h1) (he σ H g.tab g.fit _ fun v H1 e1 ⟨q, xs, ev, hq, hA⟩ => by
    match xs, hA with
    | [u, w'], ⟨h1, h2, _⟩ => exact ⟨q, [u, w'], ev, SqT.of hq, rfl, u, [w'], rfl, w', [], rfl, rfl, k _ _ (((g.step e1).set (T := K1.ty) h1).set (T := K2.ty) h2)⟩)
/-- while -/
theorem b_while {ζ : Type} (Gz : ζ → List (Option Ty)) (ok : ζ → Prop) (μ : ζ → Nat) (tst : ζ → Bool) (z0 : ζ) (ok0 : ok z0) (w0 : Wk G (Gz z0)) (ht : ∀ z, ok z → EVT tb X (Gz z) c (tst z))
    (hs : ∀ z, ok z → tst z = true → BK tb X H0 (Gz z) D body { E with nx := fun σ H => ∃ z', ok z' ∧ μ z' < μ z ∧ En tb H0 (Gz z') D σ H, ct := fun σ H => ∃ z', ok z' ∧ μ z' < μ z ∧ En tb H0 (Gz z') D σ H, bk := fun σ' H' => RB X rest E σ' H' })
    (hd : ∀ z, ok z → tst z = false → BK tb X H0 (Gz z) D rest E) (hp : PassesOwn (model X.prog X.w) X.A X.env X.xe := by exact PassesOwn.never) : BK tb X H0 G D (.While c body [] pos :: rest) E :=
  bk_of fun σ H g => toS (ps_while hp pt_RT pss_RB) ⟨fun m σ H => ∃ z, ok z ∧ μ z = m ∧ En tb H0 (Gz z) D σ H, ⟨_, z0, ok0, rfl, g.wk w0⟩, fun m σ H ⟨z, okz, hm, g⟩ => ht z okz σ H g.tab g.fit _ fun H1 e1 => by
    cases q : tst z with
    | true => exact iteT ⟨_, fun σ' H' ⟨z', ok', hlt, g'⟩ => ⟨μ z', by omega, z', ok', rfl, g'⟩, hs z okz q _ _ (g.step e1)⟩
    | false => exact iteF (hd z okz q _ _ (g.step e1))⟩
end

/-! ### what is walked -/
theorem FitD.app {H : Hp} {D : List (V × Ty)} (hD : FitD H D) : ∀ {gv : List (V × Ty)}, FitD H gv → FitD H (gv ++ D)
  | [], _ => hD
  | q :: r, h => ⟨h.1, FitD.app hD (gv := r) h.2⟩
theorem FitD.left {H : Hp} {D : List (V × Ty)} : ∀ {gv : List (V × Ty)}, FitD H (gv ++ D) → FitD H gv
  | [], _ => trivial
  | q :: r, h => ⟨h.1, FitD.left (gv := r) h.2⟩
theorem FitD.right {H : Hp} {D : List (V × Ty)} : ∀ {gv : List (V × Ty)}, FitD H (gv ++ D) → FitD H D
  | [], h => h
  | q :: r, h => FitD.right (gv := r) h.2
theorem OffD.app {a : Addr} {D : List (V × Ty)} (hD : OffD a D) : ∀ {gv : List (V × Ty)}, OffD a gv → OffD a (gv ++ D)
  | [], _ => hD
  | q :: r, h => ⟨h.1, OffD.app hD (gv := r) h.2⟩
def EI (tb : Tb) (X : Cx) (G : List (Option Ty)) (tg iter : Expr) (Ks : List Im) (zs : List Addr) : Prop :=
  ∀ (σ : L2.St) (H : Hp), Tbl tb H → Fit H G σ → ∀ R : It → Hp → Prop,
    (∀ (J : It) (H' : Hp) (gv : List (V × Ty)) (Gd : Hp → Prop) (Y : Nat → Hp → V → Hp → Prop), Ex tb H H' → Walk J Ks.length Gd Y → FitD H' gv → (∀ (i : Nat) (T : Ty) (b : Addr), G[i]? = some (some T) → b ∈ T.fp → b ∉ zs → OffD b gv) → (∀ H2, FitD H2 gv → Gd H2) →
      (∀ (i : Nat) (T : Im) (H2 : Hp) (v : V) (H3 : Hp), Ks[i]? = some T → FitD H2 gv → Y i H2 v H3 → Ex tb H2 H3 ∧ T.is v H3) → R J H') → RI X tg iter σ H R
section
variable {tb : Tb} {X : Cx} {H0 : Hp} {G G' : List (Option Ty)} {D : List (V × Ty)} {a b c e tg iter : Expr} {pos p tp : Pos} {n m : Nat} {x y : Str} {Ts Us Ks : List Im} {K : Im} {z : Addr} {zs : List Addr} {rest body : List Stmt} {E : Ends}
theorem All.idx {H : Hp} {Ts : List Im} {xs : List V} (h : All Ts xs H) {i : Nat} {T : Im} {v : V} (h1 : Ts[i]? = some T) (h2 : xs[i]? = some v) : T.is v H := by
  obtain ⟨U, hU, hv⟩ := h.get h2
  rw [h1] at hU
  cases hU
  exact hv
/-- over a list in a slot -/
theorem i_list (he : EV tb X G iter (val (tL z Ts))) : EI tb X G tg iter Ts [z] := fun σ H t f R k =>
  toI (pi_list pe_RE) (he σ H t f _ fun v H1 e1 ⟨ev, xs, hx, hA⟩ => ⟨z, ev, ⟨xs, SqL.of hx⟩, by
    refine k _ H1 [(.ref z, tLx z xs Ts)] _ _ e1 (by rw [hA.length]; exact walk_list (xs := xs)) ⟨⟨rfl, hx, hA⟩, trivial⟩ (fun i T b _ _ hb => ⟨hb, trivial⟩) (fun H2 h => SqL.of h.1.2.1) ?_
    rintro i T H2 v H3 hT h ⟨rfl, hv⟩
    exact ⟨Ex.refl, h.1.2.2.idx hT hv⟩⟩)
/-- over a new list -/
theorem i_new (he : EV tb X G iter (newL Ts)) : EI tb X G tg iter Ts [] := fun σ H t f R k =>
  toI (pi_list pe_RE) (he σ H t f _ fun v H1 e1 ⟨z, hz, ev, xs, hx, hA⟩ => ⟨z, ev, ⟨xs, SqL.of hx⟩, by
    refine k _ H1 [(.ref z, tLx z xs Ts)] _ _ e1 (by rw [hA.length]; exact walk_list (xs := xs)) ⟨⟨rfl, hx, hA⟩, trivial⟩ (fun i T b hT hb _ => ⟨fun q => ?_, trivial⟩) (fun H2 h => SqL.of h.1.2.1) ?_
    · rw [List.mem_singleton.mp q] at hb
      exact (off_new (p := z) (fun o w => by rw [hz] at w; cases w) f).at hT hb
    · rintro i T H2 v H3 hT h ⟨rfl, hv⟩
      exact ⟨Ex.refl, h.1.2.2.idx hT hv⟩⟩)
theorem i_tup (he : EV tb X G iter (val (tT Ts))) : EI tb X G tg iter Ts [] := fun σ H t f R k =>
  toI (pi_tup pe_RE) (he σ H t f _ fun v H1 e1 ⟨z, xs, ev, hx, hA⟩ => ⟨z, ev, ⟨xs, SqT.of hx⟩, by
    refine k _ H1 [(.ref z, tTx z xs Ts)] _ _ e1 (by rw [hA.length]; exact walk_tup (xs := xs)) ⟨⟨rfl, hx, hA⟩, trivial⟩ (fun i T b hT hb _ => ⟨(fun q => nomatch q), trivial⟩) (fun H2 h => SqT.of h.1.2.1) ?_
    rintro i T H2 v H3 hT h ⟨rfl, hv⟩
    exact ⟨Ex.refl, h.1.2.2.idx hT hv⟩⟩)
/-- the numbers lo, lo + 1, .. -/
def rangeK (lo n : Nat) : List Im := (List.range n).map fun i => kN (lo + i)
theorem rangeK_at {lo n i : Nat} {T : Im} (h : (rangeK lo n)[i]? = some T) : T = kN (lo + i) ∧ i < n := by
  unfold rangeK at h
  rw [List.getElem?_map] at h
  by_cases hi : i < n
  · rw [List.getElem?_range hi] at h
    exact ⟨(Option.some.inj h).symm, hi⟩
  · rw [List.getElem?_eq_none (by simpa using hi)] at h
    cases h
theorem rangeK_len {lo n : Nat} : (rangeK lo n).length = n := by unfold rangeK; rw [List.length_map, List.length_range]
theorem i_range1 (hm : X.mg "range" = none) (he : EV tb X G a (val (tN n))) (hn : n < 2 ^ 62) (hg : Gl X "range" := by rfl) (hst : starEach [a] X.env = (false, eval a X.env) :: starEach [] X.env := by rfl) : EI tb X G tg (.Call (.Name "range" p) [a] [] pos) (rangeK 0 n) [] := fun σ H t f R k =>
  toI (pi_range1 hg hm (pa_cons pe_RE pa_nil hst) hst) (he σ H t f _ fun v H1 e1 h1 => by
    cases h1
    refine ⟨n, rfl, by omega, by omega, k _ H1 [] (fun _ => True) _ e1 (by rw [rangeK_len, Int.toNat_natCast]; exact walk_range) trivial (fun _ _ _ _ _ _ => trivial) (fun _ _ => trivial) ?_⟩
    rintro i T H2 v H3 hT _ ⟨rfl, rfl⟩
    obtain ⟨rfl, _⟩ := rangeK_at hT
    exact ⟨Ex.refl, (by show V.int _ = V.int _; congr 1)⟩)
theorem i_range2 (hm : X.mg "range" = none) (ha : EV tb X G a (val (tN n))) (hb : EV tb X G b (val (tN m))) (hn : n < 2 ^ 62 ∧ m < 2 ^ 62) (hg : Gl X "range" := by rfl) (hst : starEach [a, b] X.env = [(false, eval a X.env), (false, eval b X.env)] := by rfl) (hst2 : starEach [b] X.env = [(false, eval b X.env)] := by rfl) : EI tb X G tg (.Call (.Name "range" p) [a, b] [] pos) (rangeK n (m - n)) [] := fun σ H t f R k =>
  toI (pi_range2 hg hm (pa_cons pe_RE (pa_cons pe_RE pa_nil (by rw [hst2]; rfl)) (by rw [hst, hst2])) hst hst2) (ha σ H t f _ fun v H1 e1 h1 => hb σ H1 (e1.tab t) (f.ex e1) _ fun u H2 e2 h2 => by
    cases h1
    cases h2
    refine ⟨n, m, rfl, by omega, k _ H2 [] (fun _ => True) _ (e1.trans e2) (by rw [rangeK_len, show m - n = ((m : Int) - n).toNat by omega]; exact walk_range) trivial (fun _ _ _ _ _ _ => trivial) (fun _ _ => trivial) ?_⟩
    rintro i T H2 v H3 hT _ ⟨rfl, rfl⟩
    obtain ⟨rfl, _⟩ := rangeK_at hT
    exact ⟨Ex.refl, (by show V.int _ = V.int _; congr 1)⟩)
/-- n, n - 1, .. m + 1 -/
def downK (n k : Nat) : List Im := (List.range k).map fun i => kN (n - i)
theorem downK_at {n k i : Nat} {T : Im} (h : (downK n k)[i]? = some T) : T = kN (n - i) ∧ i < k := by
  unfold downK at h
  rw [List.getElem?_map] at h
  by_cases hi : i < k
  · rw [List.getElem?_range hi] at h
    exact ⟨(Option.some.inj h).symm, hi⟩
  · rw [List.getElem?_eq_none (by simpa using hi)] at h
    cases h
theorem downK_len {n k : Nat} : (downK n k).length = k := by unfold downK; rw [List.length_map, List.length_range]
/-- range(i, j, -1): k turns from n downwards (none if i is below 0 too) -/
theorem i_down {i j : Int} {k : Nat} (hm : X.mg "range" = none) (ha : EV tb X G a (val (tI i))) (hb : EV tb X G b (val (tI j))) (hc : EV tb X G c (val (tI (-1)))) (hk : (i - j).toNat = k) (hi : k = 0 ∨ (i = (n : Int) ∧ k ≤ n + 1)) (hbd : -(2 ^ 62) ≤ i ∧ i < 2 ^ 62 ∧ -(2 ^ 62) ≤ j ∧ j < 2 ^ 62) (hg : Gl X "range" := by rfl)
    (hst : starEach [a, b, c] X.env = (false, eval a X.env) :: starEach [b, c] X.env := by rfl) (hst2 : starEach [b, c] X.env = (false, eval b X.env) :: starEach [c] X.env := by rfl) (hst3 : starEach [c] X.env = (false, eval c X.env) :: starEach [] X.env := by rfl) (hpl : (backTo pos (starEach [b, c] X.env)).any (·.1) = false := by rfl) :
    EI tb X G tg (.Call (.Name "range" p) [a, b, c] [] pos) (downK n k) [] := fun σ H t f R kk =>
  toI (pi_range3 hg hm (pa_cons pe_RE (pa_cons pe_RE (pa_cons pe_RE pa_nil hst3) hst2) hst) hst hpl) (ha σ H t f _ fun v H1 e1 h1 => hb σ H1 (e1.tab t) (f.ex e1) _ fun u H2 e2 h2 => hc σ H2 ((e1.trans e2).tab t) (f.ex (e1.trans e2)) _ fun w H3 e3 h3 => by
    cases h1
    cases h2
    cases h3
    refine ⟨i, j, -1, (i - j).toNat, rfl, RgC.neg hbd.1 hbd.2.1 hbd.2.2.1 hbd.2.2.2, kk _ H3 [] (fun _ => True) _ ((e1.trans e2).trans e3) (by rw [downK_len, hk]; exact walk_rangeC) trivial (fun _ _ _ _ _ _ => trivial) (fun _ _ => trivial) ?_⟩
    rintro q T H2 v H3 hT _ ⟨rfl, rfl⟩
    obtain ⟨rfl, hq⟩ := downK_at hT
    rcases hi with hi | ⟨rfl, hi⟩
    · omega
    · exact ⟨Ex.refl, (by show V.int _ = V.int _; congr 1; omega)⟩)

/-- for x in .. -/
theorem b_for {ζ : Type} (nd : X.N.Nodup) (j : Nat) (hi : EI tb X G (.Name x tp) iter Ks zs) (Gi : Nat → ζ → List (Option Ty)) (ok : Nat → ζ → Prop) (z0 : ζ) (ok0 : ok 0 z0) (w0 : Wk G (Gi 0 z0))
    (hs : ∀ gv : List (V × Ty), (∀ (i : Nat) (T : Ty) (b : Addr), G[i]? = some (some T) → b ∈ T.fp → b ∉ zs → OffD b gv) → ∀ i T z, i < Ks.length → Ks[i]? = some T → ok i z →
      BK tb X H0 ((Gi i z).set j (some T.ty)) (gv ++ D) body { E with nx := fun σ H => ∃ z', ok (i + 1) z' ∧ En tb H0 (Gi (i + 1) z') (gv ++ D) σ H, ct := fun σ H => ∃ z', ok (i + 1) z' ∧ En tb H0 (Gi (i + 1) z') (gv ++ D) σ H, bk := fun σ' H' => RB X rest E σ' H' })
    (hd : ∀ z, ok Ks.length z → BK tb X H0 (Gi Ks.length z) D rest E) (hp : PassesOwn (model X.prog X.w) X.A X.env X.xe := by exact PassesOwn.never) (hc : X.calm = true := by rfl) (hxi : X.N[j]? = some x := by rfl) (hx : Loc X.env.scope x := by first | exact Or.inl rfl | exact Or.inr rfl)
    (hf : X.fn x = true ∨ X.env.scope.names.lookup x = some .local := by first | exact .inl rfl | exact .inr rfl) (hfs : ∀ v, foldedSetIterable iter X.env v = pure v := by intro _; rfl) : BK tb X H0 G D (.For (.Name x tp) iter body [] pos :: rest) E :=
  bk_of fun σ H g => toS (ps_for hp hc pi_RI (pg_name nd hxi hx hf) pss_RB hfs) (hi σ H g.tab g.fit _ fun J H1 gv Gd Y e1 wlk fd off hG hY =>
    for_it wlk (fun i σ H => ∃ z, ok i z ∧ En tb H0 (Gi i z) (gv ++ D) σ H) ⟨z0, ok0, g.ex.trans e1, e1.tab g.tab, (g.fit.ex e1).wk w0, (g.more.ex e1).app fd⟩
      (fun i σ H _ ⟨z, _, gi⟩ => hG H gi.more.left)
      (fun i v σ H H' hlt ⟨z, okz, gi⟩ y => by
        obtain ⟨T, hT⟩ : ∃ T, Ks[i]? = some T := ⟨Ks[i], List.getElem?_eq_getElem hlt⟩
        have m : FitD H gv := gi.more.left
        obtain ⟨e2, hv⟩ := hY i T H v H' hT m y
        exact hs gv off i T z hlt hT okz _ _ ((gi.step e2).set (T := T.ty) hv))
      (fun σ H ⟨z, okz, gi⟩ => hd z okz σ H ⟨gi.ex, gi.tab, gi.fit, gi.more.right⟩))
/-- for x, y in .. -/
theorem b_for2 {ζ : Type} (nd : X.N.Nodup) (j1 j2 : Nat) {px py pt : Pos} {kt : Nat} (hi : EI tb X G (.Tuple [.Name x px, .Name y py] kt pt) iter Ks zs) (K1 K2 : Nat → Im) (hK : ∀ i T, Ks[i]? = some T → T = kT [K1 i, K2 i]) (Gi : Nat → ζ → List (Option Ty)) (ok : Nat → ζ → Prop) (z0 : ζ) (ok0 : ok 0 z0) (w0 : Wk G (Gi 0 z0))
    (hs : ∀ gv : List (V × Ty), (∀ (i : Nat) (T : Ty) (b : Addr), G[i]? = some (some T) → b ∈ T.fp → b ∉ zs → OffD b gv) → ∀ i z, i < Ks.length → ok i z →
      BK tb X H0 (((Gi i z).set j1 (some (K1 i).ty)).set j2 (some (K2 i).ty)) (gv ++ D) body { E with nx := fun σ H => ∃ z', ok (i + 1) z' ∧ En tb H0 (Gi (i + 1) z') (gv ++ D) σ H, ct := fun σ H => ∃ z', ok (i + 1) z' ∧ En tb H0 (Gi (i + 1) z') (gv ++ D) σ H, bk := fun σ' H' => RB X rest E σ' H' })
    (hd : ∀ z, ok Ks.length z → BK tb X H0 (Gi Ks.length z) D rest E) (hp : PassesOwn (model X.prog X.w) X.A X.env X.xe := by exact PassesOwn.never) (hc : X.calm = true := by rfl) (hxi : X.N[j1]? = some x := by rfl) (hyi : X.N[j2]? = some y := by rfl) (hx : Loc X.env.scope x := by first | exact Or.inl rfl | exact Or.inr rfl) (hy : Loc X.env.scope y := by first | exact Or.inl rfl | exact Or.inr rfl)
    (hfx : X.fn x = true ∨ X.env.scope.names.lookup x = some .local := by first | exact .inl rfl | exact .inr rfl) (hfy : X.fn y = true ∨ X.env.scope.names.lookup y = some .local := by first | exact .inl rfl | exact .inr rfl)
    (hs1 : (assignEach [.Name x px, .Name y py] X.env).map (·.2) = assign (.Name x px) X.env :: (assignEach [.Name y py] X.env).map (·.2) := by rfl) (hs2 : (assignEach [.Name y py] X.env).map (·.2) = assign (.Name y py) X.env :: (assignEach [] X.env).map (·.2) := by rfl)
    (hn : (assignEach [.Name x px, .Name y py] X.env).length = 2 := by rfl) (hst : (assignEach [.Name x px, .Name y py] X.env).findIdx? (·.1) = none := by rfl) (hfs : ∀ v, foldedSetIterable iter X.env v = pure v := by intro _; rfl) : BK tb X H0 G D (.For (.Tuple [.Name x px, .Name y py] kt pt) iter body [] pos :: rest) E :=
  bk_of fun σ H g => toS (ps_for hp hc pi_RI (pg_tup hc (pgs_cons (pg_name nd hxi hx hfx) (pgs_cons (pg_name nd hyi hy hfy) pgs_nil hs2) hs1) hn hst) pss_RB hfs) (hi σ H g.tab g.fit _ fun J H1 gv Gd Y e1 wlk fd off hG hY =>
    for_it wlk (fun i σ H => ∃ z, ok i z ∧ En tb H0 (Gi i z) (gv ++ D) σ H) ⟨z0, ok0, g.ex.trans e1, e1.tab g.tab, (g.fit.ex e1).wk w0, (g.more.ex e1).app fd⟩
      (fun i σ H _ ⟨z, _, gi⟩ => hG H gi.more.left)
      (fun i v σ H H' hlt ⟨z, okz, gi⟩ y => by
        obtain ⟨T, hT⟩ : ∃ T, Ks[i]? = some T := ⟨Ks[i], List.getElem?_eq_getElem hlt⟩
        have m : FitD H gv := gi.more.left
        obtain ⟨e2, hv⟩ := hY i T H v H' hT m y
        rw [hK i T hT] at hv
        obtain ⟨q, xs, ev, hq, hA⟩ := hv
        match xs, hA with
        | [u, w'], ⟨h1, h2, _⟩ => exact ⟨q, [u, w'], ev, SqT.of hq, rfl, u, [w'], rfl, w', [], rfl, rfl, hs gv off i z hlt okz _ _ (((gi.step e2).set (T := (K1 i).ty) h1).set (T := (K2 i).ty) h2)⟩)
      (fun σ H ⟨z, okz, gi⟩ => hd z okz σ H ⟨gi.ex, gi.tab, gi.fit, gi.more.right⟩))
end
end Tw
end STwE
section STwF
set_option Elab.async false
set_option linter.all false
set_option maxRecDepth 100000
set_option maxHeartbeats 4000000
/-! List comprehensions. -/
namespace Tw
open PySem PySem.Spec PyProof.Rows L2

def RTs (X : Cx) (ifs : List Expr) : TT := fun σ H Q => ∀ (pins : List (Addr × Obj)) (s : Shared), Inv X pins σ H s →
  wpAny (model X.prog X.w) X.A (forIn ifs true fun c r => if r = true then do let ok ← isTrue c X.env (eval c X.env); pure (ForInStep.yield ok) else pure (ForInStep.yield r)) (TP X pins σ Q) X.xe s
def EVTs (tb : Tb) (X : Cx) (G : List (Option Ty)) (ifs : List Expr) (d : Bool) : Prop :=
  ∀ (σ : L2.St) (H : Hp), Tbl tb H → Fit H G σ → ∀ Q : Bool → Hp → Prop, (∀ H', Ex tb H H' → Q d H') → RTs X ifs σ H Q
section
variable {tb : Tb} {X : Cx} {G : List (Option Ty)} {c : Expr}
theorem ts_nil : EVTs tb X G [] true := fun σ H t f Q k pins s I => pts_nil.run pins s σ H Q I (k H Ex.refl)
theorem ts_one {d : Bool} (h : EVT tb X G c d) : EVTs tb X G [c] d := fun σ H t f Q k pins s I => (pts_one pt_RT).run pins s σ H Q I (h σ H t f Q k)
end
/-- those that are taken -/
def pick (n : Nat) (d : Nat → Bool) (el : Nat → Im) : List Im := ((List.range n).filter d).map el
theorem pick_yes {n : Nat} {d : Nat → Bool} {el : Nat → Im} (h : d n = true) : pick (n + 1) d el = pick n d el ++ [el n] := by
  unfold pick
  rw [List.range_succ, List.filter_append, List.map_append, List.filter_cons, if_pos h] <;> rfl
theorem pick_no {n : Nat} {d : Nat → Bool} {el : Nat → Im} (h : d n = false) : pick (n + 1) d el = pick n d el := by
  unfold pick
  rw [List.range_succ, List.filter_append, List.map_append, List.filter_cons, if_neg (by rw [h]; decide)]
  show _ ++ [] = _
  rw [List.append_nil]
theorem pick_len {n : Nat} {d : Nat → Bool} {el : Nat → Im} : (pick n d el).length ≤ n := by
  unfold pick
  rw [List.length_map]
  have h := List.length_filter_le d (List.range n)
  rw [List.length_range] at h
  exact h
theorem range_map_get {α β : Type} (l : List α) (f : α → β) (g : Nat → β) (h : ∀ i d, l[i]? = some d → g i = f d) : (List.range l.length).map g = l.map f := by
  apply List.ext_getElem?
  intro i
  rw [List.getElem?_map, List.getElem?_map]
  by_cases hi : i < l.length
  · rw [List.getElem?_range hi, List.getElem?_eq_getElem hi]
    exact congrArg some (h i _ (List.getElem?_eq_getElem hi))
  · rw [List.getElem?_eq_none (by simpa using hi), List.getElem?_eq_none (by omega)]
    rfl
/-- every one is taken -/
theorem pick_all {α : Type} (l : List α) (f : α → Im) (d : Nat → Bool) (el : Nat → Im) (hd : ∀ i, i < l.length → d i = true) (h : ∀ i b, l[i]? = some b → el i = f b) : pick l.length d el = l.map f := by
  unfold pick
  rw [List.filter_eq_self.mpr fun i hi => hd i (List.mem_range.mp hi)]
  exact range_map_get l f el h
/-- those with a property -/
theorem pick_flt {α : Type} (p : α → Bool) (f : α → Im) (l : List α) (d : Nat → Bool) (el : Nat → Im) (hd : ∀ i b, l[i]? = some b → d i = p b) (he : ∀ i b, l[i]? = some b → el i = f b) : pick l.length d el = (l.filter p).map f := by
  have key : ∀ n, n ≤ l.length → pick n d el = ((l.take n).filter p).map f := by
    intro n
    induction n with
    | zero => intro _; rfl
    | succ n ih =>
      intro hn
      have hb : l[n]? = some l[n] := List.getElem?_eq_getElem (by omega)
      have e0 : l.take (n + 1) = l.take n ++ [l[n]] := by rw [List.take_succ, hb]; rfl
      have e1 := hd _ _ hb
      rw [e0, List.filter_append, List.map_append]
      cases q : p l[n] with
      | true =>
        rw [pick_yes (e1.trans q), ih (by omega), List.filter_cons, if_pos q, he _ _ hb]
        rfl
      | false =>
        rw [pick_no (e1.trans q), ih (by omega), List.filter_cons, if_neg (by rw [q]; decide)]
        show _ = _ ++ []
        rw [List.append_nil]
  rw [key _ (Nat.le_refl _), List.take_length]

section
variable {tb : Tb} {X : Cx} {H0 : Hp} {G : List (Option Ty)} {D : List (V × Ty)} {elt iter : Expr} {ifs : List Expr} {scope : Scope} {pos p tp : Pos} {x y : Str} {Ks : List Im} {zs : List Addr} {rest : List Stmt} {E : Ends} {tg : Expr}
abbrev teC (X : Cx) (scope : Scope) (elt : Expr) : TE := fun σ H Q => ∀ (s : Shared) (H' : Hp) (C : Addr) (cl : List (Str × Addr)) (fp : List Addr), RE (X.blk s H' scope (compEnvC scope cl C X.env) fp) elt σ H Q
abbrev ttC (X : Cx) (scope : Scope) (ifs : List Expr) : TT := fun σ H Q => ∀ (s : Shared) (H' : Hp) (C : Addr) (cl : List (Str × Addr)) (fp : List Addr), RTs (X.blk s H' scope (compEnvC scope cl C X.env) fp) ifs σ H Q
theorem pe_teC (s : Shared) (H : Hp) (C : Addr) (cl : List (Str × Addr)) (fp : List Addr) : PE (X.blk s H scope (compEnvC scope cl C X.env) fp) elt (teC X scope elt) := ⟨fun pins s0 σ H0 Q I h => h s H C cl fp pins s0 I⟩
theorem pt_ttC (s : Shared) (H : Hp) (C : Addr) (cl : List (Str × Addr)) (fp : List Addr) : PTs (X.blk s H scope (compEnvC scope cl C X.env) fp) ifs (ttC X scope ifs) := ⟨fun pins s0 σ H0 Q I h => h s H C cl fp pins s0 I⟩
/-- the reading of a comprehension; Gs: the slots in a turn -/
theorem lc_read {g : TG} {vs : List Nat} {Gs : Nat → List (Option Ty)} (hi : EI tb X G tg iter Ks zs) (d : Nat → Bool) (el : Nat → Im)
    (hg : ∀ (i : Nat) (T : Im) (v : V) (σ : L2.St) (H : Hp) (Q : L2.St → Hp → Prop), Ks[i]? = some T → Fit H G σ → T.is v H → (∀ σ2, wipe σ2 vs = wipe σ vs → Fit H (Gs i) σ2 → Q σ2 H) → g v (wipe σ vs) H Q)
    (ht : ∀ s H' C cl fp i T, i < Ks.length → Ks[i]? = some T → EVTs tb (X.blk s H' scope (compEnvC scope cl C X.env) fp) (Gs i) ifs (d i))
    (he : ∀ s H' C cl fp i T, i < Ks.length → Ks[i]? = some T → d i = true → EV tb (X.blk s H' scope (compEnvC scope cl C X.env) fp) (Gs i) elt (val (el i).ty)) (hn : Ks.length ≤ 16000000) :
    ∀ (σ : L2.St) (H : Hp), Tbl tb H → Fit H G σ → ∀ Q : VK, (∀ v H', Ex tb H H' → (newL (pick Ks.length d el)).is H v H' → Q v H') → tLc (RI X tg iter) g (ttC X scope ifs) (teC X scope elt) vs σ H Q := fun σ H t f Q k =>
  hi σ H t f _ fun J H1 gv Gd Y e1 wlk fd off hG hY Dl hD =>
    lc_it wlk (fun i H' => Ex tb H1 H' ∧ FitD H' gv ∧ ∃ acc, H' Dl = some (.lst acc) ∧ All (pick i d el) acc H') ⟨Ex.new hD, fd.ex (Ex.new hD : Ex tb H1 _), [], upd_same, trivial⟩ (fun i H' _ h => hG H' h.2.1)
      (fun i v H2 H3 hlt ⟨e2, fd2, acc, hacc, hA⟩ hy => by
        obtain ⟨T, hT⟩ : ∃ T, Ks[i]? = some T := ⟨Ks[i], List.getElem?_eq_getElem hlt⟩
        obtain ⟨e3, hv⟩ := hY i T H2 v H3 hT fd2 hy
        have E3 : Ex tb H1 H3 := e2.trans e3
        have t3 : Tbl tb H3 := (e1.trans E3).tab t
        have f3 := f.ex (e1.trans E3)
        have offD : OffD Dl gv := offD_new (fun o q => by rw [hD] at q; cases q) fd
        refine hg i T v σ H3 _ hT f3 hv fun σ2 hw f2 => ⟨hw, ?_⟩
        intro s H' C cl fp
        refine ht s H' C cl fp i T hlt hT σ2 H3 t3 f2 _ fun H4 e4 => ?_
        cases hd : d i with
        | true =>
          refine iteT fun s H' C cl fp => ?_
          refine he s H' C cl fp i T hlt hT hd σ2 H4 (e4.tab t3) (f2.ex e4) _ fun u H5 e5 hu => ?_
          have E5 : Ex tb H1 H5 := (E3.trans e4).trans e5
          have a5 : H5 Dl = some (.lst acc) := ((e3.trans e4).trans e5).keep _ _ hacc (fun _ z => nomatch z)
          have hl := hA.length
          have hl2 := pick_len (n := i) (d := d) (el := el)
          refine ⟨acc, a5, by rw [sizeLine_eq]; omega, E5.mut hD (fun w q => by rw [a5] at q; cases q; exact notC_lst), (fd2.ex ((e3.trans e4).trans e5)).upd a5 rfl offD, acc ++ [u], upd_same, ?_⟩
          rw [pick_yes hd]
          exact ((hA.ex ((e3.trans e4).trans e5)).app (Us := [el i]) (ys := [u]) ⟨hu, trivial⟩).mono fun b o q ii => by
            rw [upd_ne (fun w => by rw [w, a5] at q; cases q; cases ii)]; exact q
        | false =>
          refine iteF ⟨E3.trans e4, fd2.ex (e3.trans e4), acc, (e3.trans e4).keep _ _ hacc (fun _ z => nomatch z), ?_⟩
          rw [pick_no hd]
          exact hA.ex (e3.trans e4))
      (fun H2 ⟨e2, _, acc, hacc, hA⟩ => k _ H2 (e1.trans e2) ⟨Dl, e1.dom _ hD, rfl, acc, hacc, hA⟩)
def atK (Ks : List Im) (i : Nat) : Im := (Ks[i]?).getD (kN 0)
theorem atK_eq {i : Nat} {T : Im} (h : Ks[i]? = some T) : atK Ks i = T := by unfold atK; rw [h]; rfl
theorem lc_g1 {j : Nat} : ∀ (i : Nat) (T : Im) (v : V) (σ : L2.St) (H : Hp) (Q : L2.St → Hp → Prop), Ks[i]? = some T → Fit H G σ → T.is v H → (∀ σ2, wipe σ2 [j] = wipe σ [j] → Fit H (G.set j (some (atK Ks i).ty)) σ2 → Q σ2 H) → gName j v (wipe σ [j]) H Q := fun i T v σ H Q hT f hv k => by
  rw [atK_eq hT] at k
  have e : (wipe σ [j]).set j (some v) = σ.set j (some v) := by
    show (σ.set j none).set j (some v) = _
    rw [List.set_set]
  show Q ((wipe σ [j]).set j (some v)) H
  rw [e]
  refine k _ ?_ (f.set (T := T.ty) hv j)
  show (σ.set j (some v)).set j none = σ.set j none
  rw [List.set_set]
theorem lc_g2 {j1 j2 : Nat} (hj : j1 ≠ j2) (K1 K2 : Nat → Im) (hK : ∀ (i : Nat) T, Ks[i]? = some T → T = kT [K1 i, K2 i]) : ∀ (i : Nat) (T : Im) (v : V) (σ : L2.St) (H : Hp) (Q : L2.St → Hp → Prop), Ks[i]? = some T → Fit H G σ → T.is v H →
    (∀ σ2, wipe σ2 [j1, j2] = wipe σ [j1, j2] → Fit H ((G.set j1 (some (K1 i).ty)).set j2 (some (K2 i).ty)) σ2 → Q σ2 H) → gTup X.K 2 (gCons (gName j1) (gCons (gName j2) gNil)) v (wipe σ [j1, j2]) H Q := fun i T v σ H Q hT f hv k => by
  rw [hK i T hT] at hv
  obtain ⟨q, xs, ev, hq, hA⟩ := hv
  match xs, hA with
  | [u, w'], ⟨h1, h2, _⟩ =>
    refine ⟨q, [u, w'], ev, SqT.of hq, rfl, u, [w'], rfl, w', [], rfl, rfl, ?_⟩
    have e : ((wipe σ [j1, j2]).set j1 (some u)).set j2 (some w') = (σ.set j1 (some u)).set j2 (some w') := by
      show ((((σ.set j2 none).set j1 none).set j1 (some u)).set j2 (some w')) = _
      rw [List.set_set, List.set_comm _ _ hj.symm, List.set_set]
    rw [e]
    refine k _ ?_ ((f.set (T := (K1 i).ty) h1 j1).set (T := (K2 i).ty) h2 j2)
    show ((((σ.set j1 (some u)).set j2 (some w')).set j2 none).set j1 none) = (σ.set j2 none).set j1 none
    rw [List.set_set, List.set_comm _ _ hj.symm, List.set_set, List.set_comm _ _ hj]
/-- [elt for x in iter if ..] -/
theorem e_lc (nd : X.N.Nodup) (j : Nat) (hi : EI tb X G (.Name x tp) iter Ks zs) (ok : BlkOk X.N X.env.scope scope [(x, j)]) (d : Nat → Bool) (el : Nat → Im)
    (ht : ∀ s H' C cl fp i T, i < Ks.length → Ks[i]? = some T → EVTs tb (X.blk s H' scope (compEnvC scope cl C X.env) fp) (G.set j (some T.ty)) ifs (d i))
    (he : ∀ s H' C cl fp i T, i < Ks.length → Ks[i]? = some T → d i = true → EV tb (X.blk s H' scope (compEnvC scope cl C X.env) fp) (G.set j (some T.ty)) elt (val (el i).ty)) (hn : Ks.length ≤ 16000000)
    (hc : X.calm = true := by rfl) (hj : X.N[j]? = some x := by rfl) (hlo : ∀ (C : Addr) (cl : List (Str × Addr)), (compEnvC scope cl C X.env).scope.names.lookup x = some .local := by intro _ _; rfl) (hs : ∀ v, foldedSetIterable iter X.env v = pure v := by intro _; rfl) :
    EV tb X G (.ListComp elt [⟨.Name x tp, iter, ifs, 0⟩] scope pos) (newL (pick Ks.length d el)) := fun σ H t f Q k =>
  toE (pe_lc (own := [(x, j)]) (g := gName j) hc nd pi_RI ok (fun s H C cl fp => pg_name (X := X.blk s H scope (compEnvC scope cl C X.env) fp) nd hj (.inl (hlo C cl)) (.inr (hlo C cl))) pt_ttC pe_teC hs) (lc_read (Gs := fun i => G.set j (some (atK Ks i).ty)) hi d el lc_g1 (fun s H' C cl fp i T h1 h2 => by rw [atK_eq h2]; exact ht s H' C cl fp i T h1 h2) (fun s H' C cl fp i T h1 h2 h3 => by rw [atK_eq h2]; exact he s H' C cl fp i T h1 h2 h3) hn σ H t f Q k)
theorem e_lc2 (nd : X.N.Nodup) (j1 j2 : Nat) {px py pt : Pos} {kt : Nat} (hi : EI tb X G (.Tuple [.Name x px, .Name y py] kt pt) iter Ks zs) (K1 K2 : Nat → Im) (hK : ∀ (i : Nat) T, Ks[i]? = some T → T = kT [K1 i, K2 i]) (ok : BlkOk X.N X.env.scope scope [(x, j1), (y, j2)]) (d : Nat → Bool) (el : Nat → Im)
    (ht : ∀ s H' C cl fp i T, i < Ks.length → Ks[i]? = some T → EVTs tb (X.blk s H' scope (compEnvC scope cl C X.env) fp) ((G.set j1 (some (K1 i).ty)).set j2 (some (K2 i).ty)) ifs (d i))
    (he : ∀ s H' C cl fp i T, i < Ks.length → Ks[i]? = some T → d i = true → EV tb (X.blk s H' scope (compEnvC scope cl C X.env) fp) ((G.set j1 (some (K1 i).ty)).set j2 (some (K2 i).ty)) elt (val (el i).ty)) (hn : Ks.length ≤ 16000000)
    (hjj : j1 ≠ j2 := by decide) (hc : X.calm = true := by rfl) (hj1 : X.N[j1]? = some x := by rfl) (hj2 : X.N[j2]? = some y := by rfl) (hlo1 : ∀ (C : Addr) (cl : List (Str × Addr)), (compEnvC scope cl C X.env).scope.names.lookup x = some .local := by intro _ _; rfl) (hlo2 : ∀ (C : Addr) (cl : List (Str × Addr)), (compEnvC scope cl C X.env).scope.names.lookup y = some .local := by intro _ _; rfl)
    (hs1 : ∀ (C : Addr) (cl : List (Str × Addr)), (assignEach [.Name x px, .Name y py] (compEnvC scope cl C X.env)).map (·.2) = assign (.Name x px) (compEnvC scope cl C X.env) :: (assignEach [.Name y py] (compEnvC scope cl C X.env)).map (·.2) := by intro _ _; rfl)
    (hs2 : ∀ (C : Addr) (cl : List (Str × Addr)), (assignEach [.Name y py] (compEnvC scope cl C X.env)).map (·.2) = assign (.Name y py) (compEnvC scope cl C X.env) :: (assignEach [] (compEnvC scope cl C X.env)).map (·.2) := by intro _ _; rfl)
    (hnl : ∀ (C : Addr) (cl : List (Str × Addr)), (assignEach [.Name x px, .Name y py] (compEnvC scope cl C X.env)).length = 2 := by intro _ _; rfl) (hst : ∀ (C : Addr) (cl : List (Str × Addr)), (assignEach [.Name x px, .Name y py] (compEnvC scope cl C X.env)).findIdx? (·.1) = none := by intro _ _; rfl)
    (hs : ∀ v, foldedSetIterable iter X.env v = pure v := by intro _; rfl) :
    EV tb X G (.ListComp elt [⟨.Tuple [.Name x px, .Name y py] kt pt, iter, ifs, 0⟩] scope pos) (newL (pick Ks.length d el)) := fun σ H t f Q k =>
  toE (pe_lc (own := [(x, j1), (y, j2)]) (g := gTup X.K 2 (gCons (gName j1) (gCons (gName j2) gNil))) hc nd pi_RI ok (fun s H C cl fp => pg_tup (X := X.blk s H scope (compEnvC scope cl C X.env) fp) hc
      (pgs_cons (pg_name nd hj1 (.inl (hlo1 C cl)) (.inr (hlo1 C cl))) (pgs_cons (pg_name nd hj2 (.inl (hlo2 C cl)) (.inr (hlo2 C cl))) pgs_nil (hs2 C cl)) (hs1 C cl)) (hnl C cl) (hst C cl)) pt_ttC pe_teC hs) (lc_read hi d el (lc_g2 hjj K1 K2 hK) ht he hn σ H t f Q k)
/-- name = [elt for x in iter if ..] on one line -/
theorem b_newLc (nd : X.N.Nodup) (i j : Nat) {py : Pos} (hi : EI tb X G (.Name x tp) iter Ks zs) (ok : BlkOk X.N X.env.scope scope [(x, j)]) (d : Nat → Bool) (el : Nat → Im)
    (ht : ∀ s H' C cl fp i T, i < Ks.length → Ks[i]? = some T → EVTs tb (X.blk s H' scope (compEnvC scope cl C X.env) fp) (G.set j (some T.ty)) ifs (d i))
    (he : ∀ s H' C cl fp i T, i < Ks.length → Ks[i]? = some T → d i = true → EV tb (X.blk s H' scope (compEnvC scope cl C X.env) fp) (G.set j (some T.ty)) elt (val (el i).ty)) (hn : Ks.length ≤ 16000000) (Ts : List Im) (hTs : pick Ks.length d el = Ts)
    (k : ∀ z, H0 z = none → Off z G → OffD z D → BK tb X H0 (G.set i (some (tL z Ts))) D rest E)
    (hsw : swapsWith (.ListComp elt [⟨.Name x tp, iter, ifs, 0⟩] scope p) (some (.Name y py)) pos.line X.env = pure true := by exact sw_true rfl rfl rfl (by decide +kernel))
    (hc : X.calm = true := by rfl) (hj : X.N[j]? = some x := by rfl) (hlo : ∀ (C : Addr) (cl : List (Str × Addr)), (compEnvC scope cl C X.env).scope.names.lookup x = some .local := by intro _ _; rfl) (hs : ∀ v, foldedSetIterable iter X.env v = pure v := by intro _; rfl)
    (hy : X.N[i]? = some y := by rfl) (hyl : X.env.scope.names.lookup y = some .local := by rfl) : BK tb X H0 G D (.Assign [.Name y py] (.ListComp elt [⟨.Name x tp, iter, ifs, 0⟩] scope p) pos :: rest) E :=
  bk_of fun σ H g => toS (ps_setLc (own := [(x, j)]) (g := gName j) hc nd hy hyl hsw pi_RI ok (fun s H C cl fp => pg_name (X := X.blk s H scope (compEnvC scope cl C X.env) fp) nd hj (.inl (hlo C cl)) (.inr (hlo C cl))) pt_ttC pe_teC hs) (by
    refine lc_read (Gs := fun i => G.set j (some (atK Ks i).ty)) hi d el lc_g1 (fun s H' C cl fp i T h1 h2 => by rw [atK_eq h2]; exact ht s H' C cl fp i T h1 h2) (fun s H' C cl fp i T h1 h2 h3 => by rw [atK_eq h2]; exact he s H' C cl fp i T h1 h2 h3) hn σ H g.tab g.fit _ fun v H' e' ⟨z, hz, hT⟩ => ?_
    rw [hTs] at hT
    exact k z (g.ex.dom z hz) (off_new (fun o q => by rw [hz] at q; cases q) g.fit) (offD_new (fun o q => by rw [hz] at q; cases q) g.more) _ _ ((g.step e').set hT))
theorem b_newLc2 (nd : X.N.Nodup) (i j1 j2 : Nat) {py px' py' pt : Pos} {kt : Nat} {x2 : Str} (hi : EI tb X G (.Tuple [.Name x px', .Name x2 py'] kt pt) iter Ks zs) (K1 K2 : Nat → Im) (hK : ∀ (i : Nat) T, Ks[i]? = some T → T = kT [K1 i, K2 i]) (ok : BlkOk X.N X.env.scope scope [(x, j1), (x2, j2)]) (d : Nat → Bool) (el : Nat → Im)
    (ht : ∀ s H' C cl fp i T, i < Ks.length → Ks[i]? = some T → EVTs tb (X.blk s H' scope (compEnvC scope cl C X.env) fp) ((G.set j1 (some (K1 i).ty)).set j2 (some (K2 i).ty)) ifs (d i))
    (he : ∀ s H' C cl fp i T, i < Ks.length → Ks[i]? = some T → d i = true → EV tb (X.blk s H' scope (compEnvC scope cl C X.env) fp) ((G.set j1 (some (K1 i).ty)).set j2 (some (K2 i).ty)) elt (val (el i).ty)) (hn : Ks.length ≤ 16000000) (Ts : List Im) (hTs : pick Ks.length d el = Ts)
    (k : ∀ z, H0 z = none → Off z G → OffD z D → BK tb X H0 (G.set i (some (tL z Ts))) D rest E)
    (hsw : swapsWith (.ListComp elt [⟨.Tuple [.Name x px', .Name x2 py'] kt pt, iter, ifs, 0⟩] scope p) (some (.Name y py)) pos.line X.env = pure true := by exact sw_true rfl rfl rfl (by decide +kernel))
    (hjj : j1 ≠ j2 := by decide) (hc : X.calm = true := by rfl) (hj1 : X.N[j1]? = some x := by rfl) (hj2 : X.N[j2]? = some x2 := by rfl) (hlo1 : ∀ (C : Addr) (cl : List (Str × Addr)), (compEnvC scope cl C X.env).scope.names.lookup x = some .local := by intro _ _; rfl) (hlo2 : ∀ (C : Addr) (cl : List (Str × Addr)), (compEnvC scope cl C X.env).scope.names.lookup x2 = some .local := by intro _ _; rfl)
    (hs1 : ∀ (C : Addr) (cl : List (Str × Addr)), (assignEach [.Name x px', .Name x2 py'] (compEnvC scope cl C X.env)).map (·.2) = assign (.Name x px') (compEnvC scope cl C X.env) :: (assignEach [.Name x2 py'] (compEnvC scope cl C X.env)).map (·.2) := by intro _ _; rfl)
    (hs2 : ∀ (C : Addr) (cl : List (Str × Addr)), (assignEach [.Name x2 py'] (compEnvC scope cl C X.env)).map (·.2) = assign (.Name x2 py') (compEnvC scope cl C X.env) :: (assignEach [] (compEnvC scope cl C X.env)).map (·.2) := by intro _ _; rfl)
    (hnl : ∀ (C : Addr) (cl : List (Str × Addr)), (assignEach [.Name x px', .Name x2 py'] (compEnvC scope cl C X.env)).length = 2 := by intro _ _; rfl) (hst : ∀ (C : Addr) (cl : List (Str × Addr)), (assignEach [.Name x px', .Name x2 py'] (compEnvC scope cl C X.env)).findIdx? (·.1) = none := by intro _ _; rfl)
    (hs : ∀ v, foldedSetIterable iter X.env v = pure v := by intro _; rfl) (hy : X.N[i]? = some y := by rfl) (hyl : X.env.scope.names.lookup y = some .local := by rfl) : BK tb X H0 G D (.Assign [.Name y py] (.ListComp elt [⟨.Tuple [.Name x px', .Name x2 py'] kt pt, iter, ifs, 0⟩] scope p) pos :: rest) E :=
  bk_of fun σ H g => toS (ps_setLc (own := [(x, j1), (x2, j2)]) (g := gTup X.K 2 (gCons (gName j1) (gCons (gName j2) gNil))) hc nd hy hyl hsw pi_RI ok (fun s H C cl fp => pg_tup (X := X.blk s H scope (compEnvC scope cl C X.env) fp) hc
      (pgs_cons (pg_name nd hj1 (.inl (hlo1 C cl)) (.inr (hlo1 C cl))) (pgs_cons (pg_name nd hj2 (.inl (hlo2 C cl)) (.inr (hlo2 C cl))) pgs_nil (hs2 C cl)) (hs1 C cl)) (hnl C cl) (hst C cl)) pt_ttC pe_teC hs) (by
    refine lc_read hi d el (lc_g2 hjj K1 K2 hK) ht he hn σ H g.tab g.fit _ fun v H' e' ⟨z, hz, hT⟩ => ?_
    rw [hTs] at hT
    exact k z (g.ex.dom z hz) (off_new (fun o q => by rw [hz] at q; cases q) g.fit) (offD_new (fun o q => by rw [hz] at q; cases q) g.more) _ _ ((g.step e').set hT))
end
end Tw
end STwF
section STwG
set_option Elab.async false
set_option linter.all false
set_option maxRecDepth 100000
set_option maxHeartbeats 4000000
/-! More rules. -/
namespace Tw
open PySem PySem.Spec PyProof.Rows L2
section
variable {tb : Tb} {X : Cx} {H0 : Hp} {G : List (Option Ty)} {D : List (V × Ty)} {a b c e : Expr} {es : List Expr} {R R1 R2' : Rs} {T U : Ty} {pos p p' : Pos} {n m : Nat} {i j : Int} {x : Str} {Ts Us : List Im} {r s : List Nat} {z : Addr} {K : Im} {rest : List Stmt} {E : Ends}
/-- a built-in class as a value -/
theorem e_ty {N : String} (hm : X.mg x = none) (hv : bootBuiltins x = some (.type N)) (hg : Gl X x := by rfl) (hn : x ≠ "__name__" := by decide) (hd : (x == ("__debug__" : Str)) = false := by decide) : EV tb X G (.Name x pos) (val (tC (.ty N))) := e_k (v := .ty N) (pe_bltn (v := .ty N) hg hm hv rfl hn hd) fun _ _ _ q => q
theorem ea_2 {A B : Im} (ha : EV tb X G a (val A.ty)) (hb : EV tb X G b (val B.ty)) (hs : starEach [a, b] X.env = (false, eval a X.env) :: starEach [b] X.env := by rfl) (hs2 : starEach [b] X.env = (false, eval b X.env) :: starEach [] X.env := by rfl) : EA tb X G [a, b] [ag A.ty, ag B.ty] := ea_v ha (ea_v hb ea_nil hs2) hs
/-- isinstance(n, T), T a built-in class -/
theorem rc_isi {N : String} {d : Bool} (h : kitB "int" N = some d) : RC tb (rIsi X.K) [ag (tI i), ag (tC (.ty N))] (val (tB d)) := fun H vs H1 e1 hf Q k => by
  match vs, hf with
  | [u, v], ⟨⟨_, h1⟩, ⟨_, h2⟩, _⟩ =>
    cases h1; cases h2
    exact ⟨.int i, .ty N, .type "int", .type N, d, rfl, .ty N, .base (.int i), kit_ty h, k _ _ Ex.refl rfl⟩
theorem e_isi (N : String) (d : Bool) (hm : X.mg "isinstance" = none) (h : kitB "int" N = some d) (ha : EV tb X G a (val (tI i))) (hb : EV tb X G b (val (tC (.ty N)))) (hg : Gl X "isinstance" := by rfl) (hs : starEach [a, b] X.env = (false, eval a X.env) :: starEach [b] X.env := by rfl) (hs2 : starEach [b] X.env = (false, eval b X.env) :: starEach [] X.env := by rfl)
    (hpl : (backTo pos (starEach [b] X.env)).any (·.1) = false := by rfl) : EV tb X G (.Call (.Name "isinstance" p) [a, b] [] pos) (val (tB d)) := e_callB call_isi hm (by decide +kernel) (rc_isi h) (ea_2 ha hb hs hs2) hg (by decide) (by decide) hs hpl
/-- a op b op c -/
theorem e_chain {op op' : CmpOp} {r r' : R2} {R3 : Rs} {d d' : Bool} (ho : OpR X (compareOp op) r) (ho' : OpR X (compareOp op') r') (hr : RR tb r R1 (val U) (val (tB d))) (hr' : d = true → RR tb r' (val U) R3 (val (tB d'))) (ha : EV tb X G a R1) (hb : EV tb X G b (val U)) (hc : d = true → EV tb X G c R3) (hm : lastMarks [op, op'] [b, c] = false := by with_unfolding_all rfl) :
    EV tb X G (.Compare a [op, op'] [b, c] pos) (val (tB (d && d'))) := fun σ H t f Q k =>
  toE (pe_chain ho ho' pe_RE pe_RE pe_RE hm) (ha σ H t f _ fun v H1 e1 h1 => hb σ H1 (e1.tab t) (f.ex e1) _ fun u H2 e2 h2 => hr H v H1 u H2 e1 h1 e2 h2 _ fun w H3 e3 h3 => ⟨d, h3, by
    have E3 := (e1.trans e2).trans e3
    cases d with
    | true => exact iteT (hc rfl σ H3 (E3.tab t) (f.ex E3) _ fun y H4 e4 h4 => hr' rfl H3 u H3 y H4 Ex.refl (U.ex e3 h2) e4 h4 Q fun w2 H5 e5 h5 => k w2 H5 ((E3.trans e4).trans e5) h5)
    | false => exact iteF (k _ H3 E3 rfl)⟩)
theorem t_chain {op op' : CmpOp} {r r' : R2} {R3 : Rs} {d d' : Bool} (ho : OpR X (compareOp op) r) (ho' : OpR X (compareOp op') r') (hr : RR tb r R1 (val U) (val (tB d))) (hr' : d = true → RR tb r' (val U) R3 (val (tB d'))) (ha : EV tb X G a R1) (hb : EV tb X G b (val U)) (hc : d = true → EV tb X G c R3) (hm : lastMarks [op, op'] [b, c] = false := by with_unfolding_all rfl) :
    EVT tb X G (.Compare a [op, op'] [b, c] pos) (d && d') := fun σ H t f Q k =>
  toT (pt_chain ho ho' pe_RE pe_RE pe_RE hm) (ha σ H t f _ fun v H1 e1 h1 => hb σ H1 (e1.tab t) (f.ex e1) _ fun u H2 e2 h2 => hr H v H1 u H2 e1 h1 e2 h2 _ fun w H3 e3 h3 => ⟨d, h3, by
    have E3 := (e1.trans e2).trans e3
    cases d with
    | true => exact iteT (hc rfl σ H3 (E3.tab t) (f.ex E3) _ fun y H4 e4 h4 => hr' rfl H3 u H3 y H4 Ex.refl (U.ex e3 h2) e4 h4 _ fun w2 H5 e5 h5 => ⟨d', h5, k H5 ((E3.trans e4).trans e5)⟩)
    | false => exact iteF ⟨false, rfl, k H3 E3⟩⟩)
/-- n in a tuple of the top's -/
theorem rr_inK {q : Addr} {xs : List V} {d : Bool} (hq : ∀ H, SqT X.K H q xs) (hf : xs.all flatV = true) (hd : inV (.int i) xs = d) : RR tb (rIn X.K false) (val (tI i)) (val (tC (.ref q))) (val (tB d)) := fun H v H1 u H2 e1 h1 e2 h2 Q k => by
  cases h1; cases h2
  exact ⟨q, xs, rfl, .inr (hq _), rfl, hf, k _ _ Ex.refl (by rw [hd]; rfl)⟩
theorem rr_mulN (h : n < 2 ^ 64 ∨ m < 2 ^ 64) : RR tb (rI CMul fun i j => .int (i * j)) (val (tN n)) (val (tN m)) (val (tN (n * m))) := fun H v H1 u H2 e1 h1 e2 h2 Q k =>
  rr_I (i := n) (j := m) (by rcases h with h | h; exact .inl ⟨by omega, by omega⟩; exact .inr ⟨by omega, by omega⟩) H v H1 u H2 e1 h1 e2 h2 Q fun w H' e' hw => k w H' e' (by
    have hw : w = .int ((n : Int) * m) := hw
    rw [hw]; show V.int _ = V.int _; rw [Int.natCast_mul])
theorem rr_subN (h : m ≤ n) : RR tb (rI0 fun i j => .int (i - j)) (val (tN n)) (val (tN m)) (val (tN (n - m))) := fun H v H1 u H2 e1 h1 e2 h2 Q k =>
  rr_I0 (i := n) (j := m) H v H1 u H2 e1 h1 e2 h2 Q fun w H' e' hw => k w H' e' (by
    have hw : w = .int ((n : Int) - m) := hw
    rw [hw]; show V.int _ = V.int _; rw [Int.ofNat_sub h])
theorem rr_divN (h : 0 < m) (h2 : m < 1073741824) : RR tb (rI CDiv fun i j => .int (i / j)) (val (tN n)) (val (tN m)) (val (tN (n / m))) := fun H v H1 u H2 e1 h1 e2 h2' Q k =>
  rr_I (i := n) (j := m) ⟨by omega, by omega⟩ H v H1 u H2 e1 h1 e2 h2' Q fun w H' e' hw => k w H' e' (by
    have hw : w = .int ((n : Int) / m) := hw
    rw [hw]; show V.int _ = V.int _; rw [Int.natCast_ediv])
-- comparisons of natural numbers in short
theorem e_lt (ha : EV tb X G a (val (tN n))) (hb : EV tb X G b (val (tN m))) : EV tb X G (.Compare a [.Lt] [b] pos) (val (tB (decide (n < m)))) := e_cmp op_lt rr_lt ha hb
theorem e_gt (ha : EV tb X G a (val (tN n))) (hb : EV tb X G b (val (tN m))) : EV tb X G (.Compare a [.Gt] [b] pos) (val (tB (decide (m < n)))) := e_cmp op_gt rr_gt ha hb
theorem e_eq (ha : EV tb X G a (val (tN n))) (hb : EV tb X G b (val (tN m))) : EV tb X G (.Compare a [.Eq] [b] pos) (val (tB (decide (n = m)))) := e_cmp op_eqI rr_eq ha hb
theorem e_ne (ha : EV tb X G a (val (tN n))) (hb : EV tb X G b (val (tN m))) : EV tb X G (.Compare a [.NotEq] [b] pos) (val (tB (!decide (n = m)))) := e_cmp op_neI rr_ne ha hb
theorem t_lt (ha : EV tb X G a (val (tN n))) (hb : EV tb X G b (val (tN m))) : EVT tb X G (.Compare a [.Lt] [b] pos) (decide (n < m)) := t_cmp op_lt rr_lt ha hb
theorem t_le (ha : EV tb X G a (val (tN n))) (hb : EV tb X G b (val (tN m))) : EVT tb X G (.Compare a [.LtE] [b] pos) (decide (n ≤ m)) := t_cmp op_le rr_le ha hb
theorem t_gt (ha : EV tb X G a (val (tN n))) (hb : EV tb X G b (val (tN m))) : EVT tb X G (.Compare a [.Gt] [b] pos) (decide (m < n)) := t_cmp op_gt rr_gt ha hb
theorem t_ge (ha : EV tb X G a (val (tN n))) (hb : EV tb X G b (val (tN m))) : EVT tb X G (.Compare a [.GtE] [b] pos) (decide (m ≤ n)) := t_cmp op_ge rr_ge ha hb
theorem t_eq (ha : EV tb X G a (val (tN n))) (hb : EV tb X G b (val (tN m))) : EVT tb X G (.Compare a [.Eq] [b] pos) (decide (n = m)) := t_cmp op_eqI rr_eq ha hb
theorem t_ne (ha : EV tb X G a (val (tN n))) (hb : EV tb X G b (val (tN m))) : EVT tb X G (.Compare a [.NotEq] [b] pos) (!decide (n = m)) := t_cmp op_neI rr_ne ha hb
end
end Tw
end STwG
section STwP0
set_option Elab.async false
set_option linter.all false
set_option maxRecDepth 100000
set_option maxHeartbeats 4000000
/-! The program's text by places. -/
namespace Tw
open PySem PySem.Spec PyProof.Rows L2
/-- the built-ins are still the built-ins -/
structure Bi (mg : Str → Option Value) : Prop where
  abs : mg "abs" = none
  enumerate : mg "enumerate" = none
  int : mg "int" = none
  isinstance : mg "isinstance" = none
  len : mg "len" = none
  list : mg "list" = none
  max : mg "max" = none
  min : mg "min" = none
  next : mg "next" = none
  range : mg "range" = none
  sorted : mg "sorted" = none
  str : mg "str" = none
  sum : mg "sum" = none
  tuple : mg "tuple" = none
  zip : mg "zip" = none
  bool : mg "bool" = none
/-- a prime that the law meets -/
def PrOk (p : Nat) : Prop := p = 3 ∨ p = 5 ∨ p = 7 ∨ p = 31
theorem PrOk.le {p : Nat} (h : PrOk p) : 3 ≤ p ∧ p ≤ 31 := by unfold PrOk at h; omega
def primesV : List V := [.int 3, .int 5, .int 7, .int 11, .int 13, .int 17, .int 19, .int 23, .int 29, .int 31]
/-- what stands at the module's names -/
structure Tx (K : PySem.W.Frag) (mg : Str → Option Value) extends Bi mg : Prop where
  primes : ∃ q, mg "PRIMES" = some (.ref q) ∧ ∀ H, SqT K H q primesV
  great : ∃ t, mg "GREAT" = some (.int (10 ^ 60) t)
  maxFamily : ∃ t, mg "MAX_FAMILY" = some (.int 100000 t)
  maxGenus : ∃ t, mg "MAX_GENUS" = some (.int 99 t)
  maxListed : ∃ t, mg "MAX_LISTED_GENUS" = some (.int 3 t)
  maxDegree : ∃ t, mg "MAX_DEGREE" = some (.int 8 t)
  rim : ∃ t, mg "RIM" = some (.str "rim" t)
  one : ∃ t, mg "ONE" = some (.str "one" t)
  two : ∃ t, mg "TWO" = some (.str "two" t)
  none : ∃ t, mg "NONE" = some (.str "none" t)
  letter : ∃ t, mg "LETTER" = some (.str "x" t)
end Tw
end STwP0
section STwP1
set_option Elab.async false
set_option linter.all false
set_option maxRecDepth 100000
set_option maxHeartbeats 4000000
/-! The module of numbers; powers. -/
namespace Tw
open PySem PySem.Spec PyProof.Rows L2
section
variable {P : Program} {w : World} {K : PySem.W.Frag} {mg : Str → Option Value} {base : Heap} {tb : Tb}
abbrev FN (P : Program) (w : World) (K : PySem.W.Frag) (mg : Str → Option Value) (base : Heap) (tb : Tb) {α : Type} (k : Nat) (f : Addr) (fd : FuncData) (ps : List Str) (Pm : Prm α) : Prop := FnOk P w K mg base CX0 k f fd ps (spF tb Pm)
abbrev DF (P : Program) (w : World) (K : PySem.W.Frag) (mg : Str → Option Value) (base : Heap) (tb : Tb) {α : Type} (x : Str) (k : Nat) (Pm : Prm α) : Prop := Def tb P w K mg base x k Pm
/-! ### raised(number, exponent) -/
theorem sc_raised : FnScope ["number", "exponent", "found", "turn"] ["number", "exponent"] (defScope sRaised) := ⟨rfl, rfl, rfl, by decide +kernel, rfl, by decide +kernel, by decide +kernel⟩
def pmRaised : Prm (Nat × Nat) := ⟨fun a => [ag (tN a.1), ag (tN a.2)], fun a => a.1 < 2 ^ 64 ∧ a.2 < 2 ^ 62, fun a => val (tN (a.1 ^ a.2))⟩
theorem ok_raised {f : Addr} {fd : FuncData} (B : Tx K mg) (F : Fun K "raised" "raised" sRaised f fd) : FnOk P w K mg base CX0 1 f fd ["number", "exponent"] (spF tb pmRaised) := by
  refine fun_tw F sc_raised (fun _ => rfl) ?_
  rintro ⟨n, e⟩ cdv A outer s H0 E as D ⟨h1, h2⟩ hr ht hD hX
  have nd := sc_raised.nd
  show BK tb _ H0 [some (tN n), some (tN e), none, none] [] _ _
  refine b_set nd 2 (e_n 1) ?_
  refine b_for nd 3 (i_range1 B.range (e_v 1 rfl) h2) (fun i (_ : Unit) => [some (tN n), some (tN e), some (tN (n ^ i)), none]) (fun _ _ => True) () trivial ⟨rfl, rfl, rfl, trivial⟩ ?_ ?_
  · intro gv off i T z hi hT _
    obtain ⟨rfl, hi⟩ := rangeK_at hT
    refine b_aug nd 2 (U := tN (n ^ i * n)) rfl iop_mul ?_ (e_v 0 rfl) ?_
    · exact rr_mulN (.inr h1)
    · exact b_fall fun _ _ g => ⟨(), trivial, g.wk ⟨rfl, rfl, by rw [Nat.pow_succ], trivial⟩⟩
  · intro z _
    rw [rangeK_len]
    exact b_ret (e_v 2 rfl) hD

/-! ### is_whole, is_integer, is_prime, require_prime, require_count -/
theorem sc_whole : FnScope ["value"] ["value"] (defScope sWhole) := ⟨rfl, rfl, rfl, by decide +kernel, rfl, by decide +kernel, by decide +kernel⟩
def pmWhole : Prm Int := ⟨fun i => [ag (tI i)], fun _ => True, fun _ => val (tB true)⟩
theorem ok_whole {f : Addr} {fd : FuncData} (B : Tx K mg) (F : Fun K "is_whole" "is_whole" sWhole f fd) : FN P w K mg base tb 1 f fd ["value"] pmWhole := by
  refine fun_tw F sc_whole (fun _ => rfl) ?_
  intro i cdv A outer s H0 E as D _ hr ht hD hX
  show BK tb _ H0 [some (tI i)] [] _ _
  exact b_ret (e_and (d := true) (d' := true) (e_isi "int" true B.isinstance (by decide +kernel) (e_v 0 rfl) (e_ty B.int (by decide +kernel))) fun _ => e_one (e_not (d := false) (e_isi "bool" false B.isinstance (by decide +kernel) (e_v 0 rfl) (e_ty B.bool (by decide +kernel))))) hD
theorem sc_integer : FnScope ["value"] ["value"] (defScope sInteger) := ⟨rfl, rfl, rfl, by decide +kernel, rfl, by decide +kernel, by decide +kernel⟩
def pmInteger : Prm Int := ⟨fun i => [ag (tI i)], fun i => -(10 ^ 60) < i ∧ i < 10 ^ 60, fun _ => val (tB true)⟩
theorem ok_integer {f : Addr} {fd : FuncData} (B : Tx K mg) (Fw : DF P w K mg base tb "is_whole" 1 pmWhole) (F : Fun K "is_integer" "is_integer" sInteger f fd) : FN P w K mg base tb 2 f fd ["value"] pmInteger := by
  refine fun_tw F sc_integer (fun _ => rfl) ?_
  intro i cdv A outer s H0 E as D hok hr ht hD hX
  obtain ⟨t, hg⟩ := B.great
  show BK tb _ H0 [some (tI i)] [] _ _
  refine b_ret (e_and (d := true) (e_call Fw hr i trivial (ea_v (e_v 0 rfl) ea_nil)) fun _ => e_one (e_chain op_lt op_lt (U := tI i) rr_I0 (fun _ => rr_I0) (e_neg (e_g (v := .int (10 ^ 60)) hg ⟨_, rfl⟩)) (e_v 0 rfl) fun _ => e_g (v := .int (10 ^ 60)) hg ⟨_, rfl⟩)) ?_
  intro v H' e h
  refine hD v H' e ?_
  have h : v = _ := h
  rw [h]
  show V.bl _ = V.bl _
  rw [decide_eq_true (show -(10 ^ 60 : Int) < i from hok.1), decide_eq_true (show i < (10 ^ 60 : Int) from hok.2)]
  rfl
theorem sc_prime : FnScope ["value"] ["value"] (defScope sPrime) := ⟨rfl, rfl, rfl, by decide +kernel, rfl, by decide +kernel, by decide +kernel⟩
def pmPrime : Prm Nat := ⟨fun p => [ag (tN p)], PrOk, fun _ => val (tB true)⟩
theorem inV_prime {p : Nat} (h : PrOk p) : inV (.int (p : Int)) primesV = true := by
  rcases h with rfl | rfl | rfl | rfl <;> decide +kernel
theorem ok_prime {f : Addr} {fd : FuncData} (B : Tx K mg) (Fw : DF P w K mg base tb "is_whole" 1 pmWhole) (F : Fun K "is_prime" "is_prime" sPrime f fd) : FN P w K mg base tb 2 f fd ["value"] pmPrime := by
  refine fun_tw F sc_prime (fun _ => rfl) ?_
  intro p cdv A outer s H0 E as D hok hr ht hD hX
  obtain ⟨q, hg, hq⟩ := B.primes
  show BK tb _ H0 [some (tN p)] [] _ _
  exact b_ret (e_and (d := true) (d' := true) (e_call Fw hr (p : Int) trivial (ea_v (e_v 0 rfl) ea_nil)) fun _ => e_one (e_cmp op_in_seq (rr_inK hq (by decide +kernel) (inV_prime hok)) (e_v 0 rfl) (e_g (v := .ref q) hg rfl))) hD
theorem sc_reqPrime : FnScope ["value"] ["value"] (defScope sReqPrime) := ⟨rfl, rfl, rfl, by decide +kernel, rfl, by decide +kernel, by decide +kernel⟩
def pmReqPrime : Prm Nat := ⟨fun p => [ag (tN p)], PrOk, fun _ => val t0⟩
theorem ok_reqPrime {f : Addr} {fd : FuncData} (B : Tx K mg) (Fp : DF P w K mg base tb "is_prime" 2 pmPrime) (F : Fun K "require_prime" "require_prime" sReqPrime f fd) : FN P w K mg base tb 3 f fd ["value"] pmReqPrime := by
  refine fun_tw F sc_reqPrime (fun _ => rfl) ?_
  intro p cdv A outer s H0 E as D hok hr ht hD hX
  show BK tb _ H0 [some (tN p)] [] _ _
  exact b_skip (t_not (d := true) (t_val (e_call Fp hr p hok (ea_v (e_v 0 rfl) ea_nil)))) (b_fall fun σ H g => hX σ H g.ex rfl)
theorem sc_reqCount : FnScope ["value", "least", "most"] ["value", "least", "most"] (defScope sReqCount) := ⟨rfl, rfl, rfl, by decide +kernel, rfl, by decide +kernel, by decide +kernel⟩
def pmReqCount : Prm (Nat × Nat × Nat) := ⟨fun a => [ag (tN a.1), ag (tN a.2.1), ag (tN a.2.2)], fun a => a.2.1 ≤ a.1 ∧ a.1 ≤ a.2.2 ∧ a.1 < 10 ^ 59, fun _ => val t0⟩
theorem ok_reqCount {f : Addr} {fd : FuncData} (B : Tx K mg) (Fi : DF P w K mg base tb "is_integer" 2 pmInteger) (F : Fun K "require_count" "require_count" sReqCount f fd) : FN P w K mg base tb 3 f fd ["value", "least", "most"] pmReqCount := by
  refine fun_tw F sc_reqCount (fun _ => rfl) ?_
  rintro ⟨n, l, m⟩ cdv A outer s H0 E as D ⟨h1, h2, h3⟩ hr ht hD hX
  show BK tb _ H0 [some (tN n), some (tN l), some (tN m)] [] _ _
  have h1 : l ≤ n := h1
  have h2 : n ≤ m := h2
  have h3 : n < 10 ^ 59 := h3
  refine b_skip (t_or (d := false) (d' := false) (t_not (d := true) (t_val (e_call Fi hr (n : Int) ⟨by omega, by omega⟩ (ea_v (e_v 0 rfl) ea_nil)))) fun _ => t_not (d := true) (EVT.cast (t_chain op_le op_le rr_le (fun _ => rr_le) (e_v 1 rfl) (e_v 0 rfl) fun _ => e_v 2 rfl) (by rw [decide_eq_true h1, decide_eq_true h2]; rfl))) (b_fall fun σ H g => hX σ H g.ex rfl)
end
end Tw
end STwP1
section STwH
set_option Elab.async false
set_option linter.all false
set_option maxRecDepth 100000
set_option maxHeartbeats 4000000
/-! Instances with slots. -/
namespace Tw
open PySem PySem.Spec PyProof.Rows L2

/-! ### two slotted objects that say the same are of one class -/
def someVal : V → Value
  | .non => .none
  | .bl b => .bool b
  | .int i => .int i 0
  | .str x => .str x 0
  | .byt b => .bytes b 0
  | .flt b => .float b 0
  | .ref a => .ref a
  | .ty n => .type n
theorem someVal_rel (v : V) : RelV v (someVal v) := by
  cases v <;> first | rfl | exact ⟨_, rfl⟩
theorem slO_cls {a C dx a' C' dx' : Addr} {vs vs' : List (Option V)} (h : SlX.SlO a C dx vs = SlX.SlO a' C' dx' vs') (e : a = a') : C = C' := by
  subst e
  unfold SlX.SlO at h
  injection h with h
  let sl : Array (Option Value) := (vs.map (Option.map someVal)).toArray
  let g0 : Heap := ⟨((List.replicate (a + 1) ({ cls := .none, data := .plain } : Obj)).toArray).setIfInBounds a { PySem.W.instObj C dx with slots := sl }, {}⟩
  have hg : g0.get? a = some { PySem.W.instObj C dx with slots := sl } := by
    have e : g0.objs[a]? = some { PySem.W.instObj C dx with slots := sl } := by
      simp only [g0]
      rw [Array.getElem?_setIfInBounds_self]
      rw [if_pos (by simp)]
    unfold Heap.get?
    rw [e]
  have hr : SlX.SlR vs sl := fun i v hv => by
    refine ⟨someVal v, ?_, someVal_rel v⟩
    simp only [sl, List.getElem?_toArray, List.getElem?_map, hv]
    rfl
  have h1 : (fun h : Heap => ∃ sl : Array (Option Value), h.get? a = some { PySem.W.instObj C dx with slots := sl } ∧ SlX.SlR vs sl) g0 := ⟨sl, hg, hr⟩
  rw [h] at h1
  obtain ⟨sl', e', _⟩ := h1
  rw [hg] at e'
  have e2 := congrArg Obj.cls (Option.some.inj e')
  exact Value.ref.inj e2
/-- what stands in the slots, by place -/
def IsO (Ts : List (Option Im)) (vs : List (Option V)) (H : Hp) : Prop := ∀ (i : Nat) (T : Im), Ts[i]? = some (some T) → ∃ v, vs[i]? = some (some v) ∧ T.is v H
def putT (i : Nat) (T : Im) (Ts : List (Option Im)) : List (Option Im) := (Ts ++ List.replicate (i + 1 - Ts.length) none).set i (some T)
theorem putT_ne {i j : Nat} {T U : Im} {Ts : List (Option Im)} (h : j ≠ i) (e : (putT i T Ts)[j]? = some (some U)) : Ts[j]? = some (some U) := by
  unfold putT at e
  rw [List.getElem?_set_ne (Ne.symm h)] at e
  by_cases hj : j < Ts.length
  · rw [List.getElem?_append_left hj] at e; exact e
  · rw [List.getElem?_append_right (by omega), List.getElem?_replicate] at e
    split at e
    · cases e
    · cases e
theorem putT_get {i : Nat} {T U : Im} {Ts : List (Option Im)} (e : (putT i T Ts)[i]? = some (some U)) : T = U := by
  unfold putT at e
  rw [List.getElem?_set_self (by simp only [List.length_append, List.length_replicate]; omega)] at e
  exact Option.some.inj (Option.some.inj e)
theorem IsO.put {H : Hp} {Ts : List (Option Im)} {vs : List (Option V)} (h : IsO Ts vs H) (i : Nat) {T : Im} {v : V} (hv : T.is v H) : IsO (putT i T Ts) (SlX.putS i v vs) H := fun j U e => by
  by_cases hj : j = i
  · subst hj
    rw [← putT_get e]
    exact ⟨v, SlX.putS_get _ _ _, hv⟩
  · obtain ⟨u, h1, h2⟩ := h j U (putT_ne hj e)
    exact ⟨u, (SlX.putS_ne hj).mpr h1, h2⟩
theorem IsO.mono {H H' : Hp} {Ts : List (Option Im)} {vs : List (Option V)} (k : ∀ b o, H b = some o → imm o = true → H' b = some o) (h : IsO Ts vs H) : IsO Ts vs H' := fun i T e => let ⟨v, h1, h2⟩ := h i T e; ⟨v, h1, T.mono k h2⟩
theorem IsO.slot {H : Hp} {a C dx : Addr} {ws ws' : List (Option V)} {Ts : List (Option Im)} {vs : List (Option V)} (s : SltD H a C dx ws) (hs : ∀ (i : Nat) (T : Im), Ts[i]? = some (some T) → T.sl C) (h : IsO Ts vs H) : IsO Ts vs (SlX.slH H a C dx ws') := fun i T e => let ⟨v, h1, h2⟩ := h i T e; ⟨v, h1, T.slot (hs i T e) s h2⟩
theorem IsO.nil {H : Hp} : IsO [] [] H := fun i T e => by simp at e
/-- a finished instance of C -/
def kIns (C : Addr) (Ts : List (Option Im)) : Im where
  is := fun v H => ∃ x dx vs, v = .ref x ∧ H x = some (SlX.SlO x C dx vs) ∧ H dx = some (.xd []) ∧ IsO Ts vs H
  mono := fun k ⟨x, dx, vs, h1, h2, h3, h4⟩ => ⟨x, dx, vs, h1, k _ _ h2 rfl, k _ _ h3 rfl, h4.mono k⟩
  sl := fun C' => C' ≠ C ∧ ∀ (i : Nat) (T : Im), Ts[i]? = some (some T) → T.sl C'
  slot := by
    rintro H a C' dx' ws ws' v ⟨hc, hs⟩ s ⟨x, dx, vs, h1, h2, h3, h4⟩
    have na : x ≠ a := fun z => by
      subst z
      rcases s.1 with ⟨s1, _⟩ | ⟨s1, _⟩
      · rw [h2] at s1
        have s2 := Option.some.inj s1
        unfold SlX.SlO at s2
        cases s2
      · rw [h2] at s1
        exact hc (slO_cls (Option.some.inj s1) rfl).symm
    have nd : x ≠ dx' := fun z => by
      subst z
      obtain ⟨y, q | q⟩ := s.2
      · rw [h2] at q
        have s2 := Option.some.inj q
        unfold SlX.SlO at s2
        cases s2
      · rw [h2] at q
        exact SlX.slO_not (Option.some.inj q)
    have da : dx ≠ a := fun z => by
      subst z
      rcases s.1 with ⟨s1, _⟩ | ⟨s1, _⟩
      · rw [h3] at s1; cases s1
      · rw [h3] at s1
        exact SlX.slO_not (Option.some.inj s1).symm
    refine ⟨x, dx, vs, h1, by rw [SlX.slH_ne na nd]; exact h2, ?_, IsO.slot s hs h4⟩
    by_cases dd : dx = dx'
    · subst dd
      unfold SlX.slH
      rw [upd_ne da, upd_same]
    · rw [SlX.slH_ne da dd]; exact h3
/-- an instance that is being made -/
def tSelf (C x dx : Addr) (Ts : List (Option Im)) : Ty where
  is := fun v H => v = .ref x ∧ dx ≠ x ∧ ∃ vs, SltD H x C dx vs ∧ IsO Ts vs H
  fp := []
  mono := fun {H H' v} k ⟨h1, hn, vs, h2, h3⟩ => ⟨h1, hn, vs, ⟨h2.1.elim (fun q => .inl ⟨k _ _ q.1 (.inl rfl) (fun _ z => nomatch z), q.2⟩) (fun q => .inr ⟨k _ _ q.1 (.inl rfl) (fun _ z => by unfold SlX.SlO at z; cases z), k _ _ q.2 (.inl rfl) (fun _ z => nomatch z)⟩),
    let ⟨y, q⟩ := h2.2; ⟨y, q.elim (fun q => .inl (k _ _ q (.inl rfl) (fun _ z => nomatch z))) (fun q => .inr (k _ _ q (.inl rfl) (fun _ z => nomatch z)))⟩⟩, h3.mono fun b o e i => k b o e (.inl i) (imm_ntbl i)⟩
  dom := fun _ hb => nomatch hb
  sl := fun _ => False
  slot := fun hs => hs.elim
theorem tSelf_done {C x dx : Addr} {Ts : List (Option Im)} {v : V} {H : Hp} (h : (tSelf C x dx Ts).is v H) (hT : ∃ (i : Nat) (T : Im), Ts[i]? = some (some T)) : (kIns C Ts).is v H := by
  obtain ⟨h1, hn, vs, ⟨h2, _⟩, h3⟩ := h
  obtain ⟨i, T, e⟩ := hT
  obtain ⟨u, e1, _⟩ := h3 i T e
  rcases h2 with ⟨_, q⟩ | ⟨q1, q2⟩
  · rw [q] at e1; simp at e1
  · exact ⟨x, dx, vs, h1, q1, q2, h3⟩
theorem kIns_slt {C : Addr} {Ts : List (Option Im)} {v : V} {H : Hp} (h : (kIns C Ts).is v H) : ∃ x dx vs, v = .ref x ∧ SlX.Slt H x C dx vs ∧ IsO Ts vs H := by
  obtain ⟨x, dx, vs, h1, h2, h3, h4⟩ := h
  exact ⟨x, dx, vs, h1, .inr ⟨h2, h3⟩, h4⟩

/-! ### fields -/
section
variable {tb : Tb} {X : Cx} {H0 : Hp} {G : List (Option Ty)} {D : List (V × Ty)} {a b c e o : Expr} {es : List Expr} {R R1 R2' : Rs} {T U : Ty} {pos p p' apos : Pos} {n m : Nat} {x f : Str} {Ts : List (Option Im)} {C q : Addr} {K : Im} {rest : List Stmt} {E : Ends} {i k : Nat}
theorem e_attr (he : EV tb X G e (val (kIns C Ts).ty)) (c : SlX.SCls X.K C) (t : SlX.Slot1 X.K C f q i) (h : Ts[i]? = some (some K)) (hb : attributeBase e f X.env (eval e X.env) = eval e X.env := by rfl) : EV tb X G (.Attribute e f pos) (val K.ty) := fun σ H tt ff Q k =>
  toE (SlX.pe_sl pe_RE hb) (he σ H tt ff _ fun v H1 e1 h1 => by
    obtain ⟨x, dx, vs, ev, hs, ho⟩ := kIns_slt h1
    obtain ⟨u, hu, ku⟩ := ho i K h
    exact ⟨x, C, dx, q, vs, i, u, ev, hs, c, t, hu, k u H1 e1 ku⟩)
theorem e_attrS {x0 dx : Addr} (he : EV tb X G e (val (tSelf C x0 dx Ts))) (c : SlX.SCls X.K C) (t : SlX.Slot1 X.K C f q i) (h : Ts[i]? = some (some K)) (hb : attributeBase e f X.env (eval e X.env) = eval e X.env := by rfl) : EV tb X G (.Attribute e f pos) (val K.ty) := fun σ H tt ff Q k =>
  toE (SlX.pe_sl pe_RE hb) (he σ H tt ff _ fun v H1 e1 h1 => by
    obtain ⟨ev, _, vs, hs, ho⟩ := h1
    obtain ⟨u, hu, ku⟩ := ho i K h
    exact ⟨x0, C, dx, q, vs, i, u, ev, hs.1, c, t, hu, k u H1 e1 ku⟩)
/-- all entries stand a store to a slot of C -/
def SlG (C : Addr) : List (Option Ty) → Prop
  | [] => True
  | none :: G => SlG C G
  | some T :: G => T.sl C ∧ SlG C G
def SlDs (C : Addr) : List (V × Ty) → Prop
  | [] => True
  | p :: D => p.2.sl C ∧ SlDs C D
theorem Fit.slot {H : Hp} {x0 dx : Addr} {ws ws' : List (Option V)} (s : SltD H x0 C dx ws) : ∀ {G : List (Option Ty)} {σ : L2.St}, SlG C G → Fit H G σ → Fit (SlX.slH H x0 C dx ws') G σ
  | [], [], _, _ => trivial
  | none :: G, _ :: σ, hs, h => Fit.slot s (G := G) (σ := σ) hs h
  | some T :: G, o :: σ, hs, h => ⟨let ⟨v, h1, h2⟩ := h.1; ⟨v, h1, T.slot hs.1 s h2⟩, Fit.slot s (G := G) hs.2 h.2⟩
  | [], _ :: _, _, h => h.elim
  | none :: _, [], _, h => h.elim
  | some _ :: _, [], _, h => h.elim
theorem FitD.slot {H : Hp} {x0 dx : Addr} {ws ws' : List (Option V)} (s : SltD H x0 C dx ws) : ∀ {D : List (V × Ty)}, SlDs C D → FitD H D → FitD (SlX.slH H x0 C dx ws') D
  | [], _, _ => trivial
  | p :: D, hs, h => ⟨p.2.slot hs.1 s h.1, FitD.slot s (D := D) hs.2 h.2⟩
theorem Ex.slot {H H' : Hp} {x0 dx : Addr} {ws ws' : List (Option V)} (e : Ex tb H H') (h1 : H x0 = none) (h2 : H dx = none) (s : SltD H' x0 C dx ws) : Ex tb H (SlX.slH H' x0 C dx ws') := by
  have a1 : Ex tb H (upd H' dx (.xd [])) := e.mut h2 fun u q => by
    obtain ⟨y, z | z⟩ := s.2
    · rw [q] at z; cases z; exact notC_own
    · rw [q] at z; cases z; exact notC_xd
  refine a1.mut h1 fun u q => ?_
  by_cases hd : x0 = dx
  · subst hd
    rw [upd_same] at q; cases q; exact notC_xd
  · rw [upd_ne hd] at q
    rcases s.1 with ⟨z, _⟩ | ⟨z, _⟩
    · rw [q] at z; cases z; exact notC_ins
    · rw [q] at z; cases z; exact notC_slo
theorem Tbl.slot {H : Hp} {x0 dx : Addr} {ws ws' : List (Option V)} (t : Tbl tb H) (s : SltD H x0 C dx ws) : Tbl tb (SlX.slH H x0 C dx ws') := by
  refine Tbl.upd (Tbl.upd t fun u q => ?_) fun u q => ?_
  · obtain ⟨y, z | z⟩ := s.2
    · rw [q] at z; cases z; exact notC_own
    · rw [q] at z; cases z; exact notC_xd
  by_cases hd : x0 = dx
  · subst hd
    rw [upd_same] at q; cases q; exact notC_xd
  · rw [upd_ne hd] at q
    rcases s.1 with ⟨z, _⟩ | ⟨z, _⟩
    · rw [q] at z; cases z; exact notC_ins
    · rw [q] at z; cases z; exact notC_slo
/-- self.f = e -/
theorem b_slot {x0 dx : Addr} (j : Nat) {p1 p2 : Pos} (hj : G[j]? = some (some (tSelf C x0 dx Ts))) (h0 : H0 x0 = none) (h0d : H0 dx = none) (c : SlX.SCls X.K C) (t : SlX.Slot1 X.K C f q i) (he : EV tb X G e (val K.ty)) (hK : K.sl C) (hG : SlG C (G.set j none)) (hD : SlDs C D) (hTs : ∀ (n : Nat) (T : Im), Ts[n]? = some (some T) → T.sl C)
    (k : BK tb X H0 (G.set j (some (tSelf C x0 dx (putT i K Ts)))) D rest E)
    (ho : EV tb X G (.Name x p1) (val (tSelf C x0 dx Ts)))
    (hs : swapsWith e (some (.Attribute (.Name x p1) f p2)) pos.line X.env = pure false := by rfl) : BK tb X H0 G D (.Assign [.Attribute (.Name x p1) f p2] e pos :: rest) E :=
  bk_of fun σ H g => toS (SlX.ps_sl pe_RE pe_RE hs) (he σ H g.tab g.fit _ fun v H1 e1 hv => ho σ H1 (e1.tab g.tab) (g.fit.ex e1) _ fun u H2 e2 hu => by
    have g2 := g.step (e1.trans e2)
    have hv2 : K.is v H2 := K.ex e2 hv
    obtain ⟨u0, q1, q2⟩ := g2.fit.get hj
    obtain ⟨eu, hn, vs, hs, hO⟩ := hu
    obtain ⟨eu0, _⟩ := q2
    refine ⟨x0, C, dx, q, vs, i, eu, hs.1, c, t, k _ _ ?_⟩
    have hs' : SlX.Slt (SlX.slH H2 x0 C dx (SlX.putS i v vs)) x0 C dx (SlX.putS i v vs) := SlX.slH_slt hn
    have hself : (tSelf C x0 dx (putT i K Ts)).is (.ref x0) (SlX.slH H2 x0 C dx (SlX.putS i v vs)) := ⟨rfl, hn, SlX.putS i v vs, ⟨hs', 0, by
      rcases hs' with ⟨_, z⟩ | ⟨_, z⟩
      · have z2 := SlX.putS_get i v vs
        rw [z] at z2
        simp at z2
      · exact .inr z⟩, (IsO.slot hs hTs hO).put i (K.slot hK hs hv2)⟩
    have g4 : En tb H0 (G.set j none) D (σ.set j (some u0)) H2 := ⟨g2.ex, g2.tab, g2.fit.clear j, g2.more⟩
    have g5 : En tb H0 (G.set j none) D (σ.set j (some u0)) (SlX.slH H2 x0 C dx (SlX.putS i v vs)) := ⟨g4.ex.slot h0 h0d hs, g4.tab.slot hs, g4.fit.slot hs hG, g4.more.slot hs hD⟩
    have g6 := g5.set (T := tSelf C x0 dx (putT i K Ts)) (v := .ref x0) (i := j) hself
    rw [List.set_set, List.set_set, ← eu0, set_same q1] at g6
    exact g6)
end
end Tw
end STwH
section STwI
set_option Elab.async false
set_option linter.all false
set_option maxRecDepth 100000
set_option maxHeartbeats 4000000
/-! Instances made; methods, properties, own operators. -/
namespace Tw
open PySem PySem.Spec PyProof.Rows L2

/-- a promise of an __init__: the instance at x, its dict at dx are new; H1: the heap before -/
def spI {α : Type} (tb : Tb) (P : Prm α) (C : Addr) : Sp := fun vs H Q _ => ∃ (a : α) (x dx : Addr) (ws : List V) (H1 : Hp), vs = .ref x :: ws ∧ H1 x = none ∧ H1 dx = none ∧ dx ≠ x ∧ H = upd (upd H1 dx (.own x)) x (.ins C dx []) ∧ P.ok a ∧ Tbl tb H1 ∧ Fits (P.args a) ws H1 ∧
  ∀ H', Ex tb H1 H' → (P.res a).is H1 (.ref x) H' → Q .non H'
/-- a class of the module's, as makers see it -/
structure DefI {α : Type} (tb : Tb) (P : Program) (w : World) (K : PySem.W.Frag) (mg : Str → Option Value) (base : Heap) (x : Str) (C : Addr) (k : Nat) (Pm : Prm α) : Prop where
  ex : ∃ (f : Addr) (fd : FuncData) (ps : List Str), mg x = some (.ref C) ∧ Mk K C f ∧ FnOk P w K mg base CX0 k f fd ps (spI tb Pm C) ∧ Binds K fd ps []
/-- a method -/
structure Mth {α : Type} (tb : Tb) (P : Program) (w : World) (K : PySem.W.Frag) (mg : Str → Option Value) (base : Heap) (C : Addr) (m : Str) (k : Nat) (Pm : Prm α) : Prop where
  ex : ∃ g, Meth K C m g ∧ PySem.W.fnIn K g = true ∧ FnR P w K mg base CX0 k g (spF tb Pm)
/-- a property -/
structure Prp {α : Type} (tb : Tb) (P : Program) (w : World) (K : PySem.W.Frag) (mg : Str → Option Value) (base : Heap) (C : Addr) (f : Str) (k : Nat) (Pm : Prm α) : Prop where
  ex : ∃ p g, PySem.W.findIn K (.ref C) f = some (some (.ref p)) ∧ PySem.W.specialIn K (.ref p) "__get__" = some (some (.builtin "property.__get__")) ∧ PySem.W.takesIn K (.ref p) = some true ∧ (∃ rest, PySem.W.recIn K p "property" = some (.ref g :: rest)) ∧ FnR P w K mg base CX0 k g (spF tb Pm)
theorem fnR_of {α : Type} {tb : Tb} {P : Program} {w : World} {K : PySem.W.Frag} {mg : Str → Option Value} {base : Heap} {Pm : Prm α} {k : Nat} {f : Addr} {fd : FuncData} {ps : List Str} (F : FnOk P w K mg base CX0 k f fd ps (spF tb Pm)) (hb : Binds K fd ps []) : FnR P w K mg base CX0 k f (spF tb Pm) :=
  (F.raw hb .nil).imp fun vs H Q E h => by rw [List.append_nil]; exact h
section
variable {α : Type} {tb : Tb} {X : Cx} {G : List (Option Ty)} {a b e o : Expr} {es : List Expr} {R R1 R2' : Rs} {pos p apos : Pos} {x f m : Str} {k : Nat} {Pm : Prm α} {C C' : Addr} {Ts Us : List (Option Im)}
/-- C(e, ..) -/
theorem e_make (F : DefI tb X.prog X.w X.K X.mg X.base x C k Pm) (hr : Room (k + 1) X.A) (i : α) (hok : Pm.ok i) (ha : EA tb X G (e :: es) (Pm.args i)) (hR : Pm.res i = R := by rfl) (hg : Gl X x := by rfl) (hdb : (x == ("__debug__" : Str)) = false := by decide)
    (hs : starEach (e :: es) X.env = (false, eval e X.env) :: starEach es X.env := by rfl) (hpl : (backTo pos (starEach es X.env)).any (·.1) = false := by rfl) : EV tb X G (.Call (.Name x p) (e :: es) [] pos) R := by
  obtain ⟨f, fd, ps, hm, M, F, hb⟩ := F.ex
  rw [← hR]
  exact fun σ H t ff Q q => toE (pe_make M F hr hg hm hb .nil pass0 pa_RA hdb hs hpl) (ha σ H t ff _ fun vs H1 e1 h1 => fun y dx hy hdx hn => ⟨i, y, dx, vs, H1, by rw [List.append_nil], hy, hdx, hn, rfl, hok, e1.tab t, h1, fun H' e2 h2 => ⟨rfl, q _ H' (e1.trans e2) ((Pm.res i).mono e1 h2 Ex.refl)⟩⟩)
/-- o.m(e, ..) -/
theorem e_meth (F : Mth tb X.prog X.w X.K X.mg X.base C m k Pm) (c : SlX.SCls X.K C) (hr : Room k X.A) (i : α) (hok : Pm.ok i) {As : List Ag} (ho : EV tb X G o (val (kIns C Ts).ty)) (ha : EA tb X G (e :: es) As) (hA : Pm.args i = ag (kIns C Ts).ty :: As := by rfl) (hR : Pm.res i = R := by rfl)
    {pl : Sem Bool} (hst : starEach (e :: es) X.env = (false, eval e X.env) :: starEach es X.env := by rfl) (hpl : (backTo pos (starEach es X.env)).any (·.1) = false := by rfl)
    (ht : eval (.Call (.Attribute o m apos) (e :: es) [] pos) X.env = (do
      let ov ← eval o X.env
      standAt apos.atName
      let (f, first) ← holding [ov] (getMethod ov m pl)
      callWith pos f first (backTo pos (starEach (e :: es) X.env)) (backToKw pos (keywordEach [] X.env))) := by rfl) : EV tb X G (.Call (.Attribute o m apos) (e :: es) [] pos) R := by
  obtain ⟨g, hm, _, F⟩ := F.ex
  rw [← hR]
  exact fun σ H t ff Q q => toE (SlX.pe_methSl pe_RE c hm F hr pass0 pa_RA hst hpl ht) (ho σ H t ff _ fun v H1 e1 h1 => by
    obtain ⟨y, dx, vs, ev, hs, _⟩ := kIns_slt h1
    exact ⟨y, dx, vs, ev, hs, ha σ H1 (e1.tab t) (ff.ex e1) _ fun ws H2 e2 h2 => ⟨i, hok, (e1.trans e2).tab t, by rw [hA]; exact ⟨⟨0, (kIns C Ts).ex e2 h1⟩, h2⟩, fun v H' e3 h3 => q v H' ((e1.trans e2).trans e3) ((Pm.res i).mono (e1.trans e2) h3 Ex.refl)⟩⟩)
/-- o.m() -/
theorem e_meth0 (F : Mth tb X.prog X.w X.K X.mg X.base C m k Pm) (c : SlX.SCls X.K C) (hr : Room k X.A) (i : α) (hok : Pm.ok i) (ho : EV tb X G o (val (kIns C Ts).ty)) (hA : Pm.args i = [ag (kIns C Ts).ty] := by rfl) (hR : Pm.res i = R := by rfl)
    {pl : Sem Bool} (ht : eval (.Call (.Attribute o m apos) [] [] pos) X.env = (do
      let ov ← eval o X.env
      standAt apos.atName
      let (f, first) ← holding [ov] (getMethod ov m pl)
      callWith pos f first (backTo pos (starEach [] X.env)) (backToKw pos (keywordEach [] X.env))) := by rfl) : EV tb X G (.Call (.Attribute o m apos) [] [] pos) R := by
  obtain ⟨g, hm, _, F⟩ := F.ex
  rw [← hR]
  exact fun σ H t ff Q q => toE (SlX.pe_methSl0 pe_RE c hm F hr pass0 ht) (ho σ H t ff _ fun v H1 e1 h1 => by
    obtain ⟨y, dx, vs, ev, hs, _⟩ := kIns_slt h1
    exact ⟨y, dx, vs, ev, hs, ⟨i, hok, e1.tab t, by rw [hA]; exact ⟨⟨0, h1⟩, trivial⟩, fun v H' e3 h3 => q v H' (e1.trans e3) ((Pm.res i).mono e1 h3 Ex.refl)⟩⟩)
/-- o.f, a property -/
theorem e_prop (F : Prp tb X.prog X.w X.K X.mg X.base C f k Pm) (c : SlX.SCls X.K C) (hr : Room (k + 1) X.A) (i : α) (hok : Pm.ok i) (ho : EV tb X G o (val (kIns C Ts).ty)) (hA : Pm.args i = [ag (kIns C Ts).ty] := by rfl) (hR : Pm.res i = R := by rfl) (hb : attributeBase o f X.env (eval o X.env) = eval o X.env := by rfl) :
    EV tb X G (.Attribute o f pos) R := by
  obtain ⟨p, g, h1, h2, h3, h4, F⟩ := F.ex
  rw [← hR]
  exact fun σ H t ff Q q => toE (SlX.pe_propSl (E := E0) pe_RE c h1 h2 h3 h4 F hr (fun _ _ _ _ z => z.elim) hb) (ho σ H t ff _ fun v H1 e1 h1 => by
    obtain ⟨y, dx, vs, ev, hs, _⟩ := kIns_slt h1
    refine ⟨y, dx, vs, ev, hs, ⟨i, hok, e1.tab t, ?_, fun v H' e3 h3 => q v H' (e1.trans e3) ((Pm.res i).mono e1 h3 Ex.refl)⟩⟩
    rw [hA, ← ev]
    exact ⟨⟨0, h1⟩, trivial⟩)
/-- isinstance(o, C') -/
theorem rc_isiC {d : Bool} (c : SlX.SCls X.K C) (hi : SlX.SIsi X.K C) (hk : PySem.W.kitOne X.K (.ref C) (.ref C') = some d) : RC tb (SlX.rIsiSl X.K (.ref C')) [ag (kIns C Ts).ty, ag (tC (.ref C'))] (val (tB d)) := fun H vs H1 e1 hf Q k => by
  match vs, hf with
  | [u, v], ⟨⟨_, h1⟩, ⟨_, h2⟩, _⟩ =>
    cases h2
    obtain ⟨y, dx, ws, ev, hs, _⟩ := kIns_slt h1
    exact ⟨y, C, dx, ws, .ref C', d, by rw [ev], rfl, fun w hw => hw, hs, c, hi, hk, k _ _ Ex.refl rfl⟩
theorem e_isiC (d : Bool) (hm : X.mg "isinstance" = none) (c : SlX.SCls X.K C) (hi : SlX.SIsi X.K C) (hk : PySem.W.kitOne X.K (.ref C) (.ref C') = some d) (ha : EV tb X G a (val (kIns C Ts).ty)) (hb : EV tb X G b (val (tC (.ref C')))) (hg : Gl X "isinstance" := by rfl) (hs : starEach [a, b] X.env = (false, eval a X.env) :: starEach [b] X.env := by rfl) (hs2 : starEach [b] X.env = (false, eval b X.env) :: starEach [] X.env := by rfl)
    (hpl : (backTo pos (starEach [b] X.env)).any (·.1) = false := by rfl) : EV tb X G (.Call (.Name "isinstance" p) [a, b] [] pos) (val (tB d)) := e_callB (SlX.call_isiSl (.ref C')) hm (by decide +kernel) (rc_isiC c hi hk) (ea_2 ha hb hs hs2) hg (by decide) (by decide) hs hpl
/-- x op y by an own def -/
def rBinO (C : Addr) (sp : Sp) (E : XK) : R2 := fun x y H Q => ∃ a dx vs b dy ws, x = V.ref a ∧ y = V.ref b ∧ SlX.Slt H a C dx vs ∧ SlX.Slt H b C dy ws ∧ sp [x, y] H Q E
theorem op_binO {op : Operator} {g : Addr} {sp : Sp} {n : Nat} (hc : PySem.W.selfFirst X.K C = true) (hs : PySem.W.findIn X.K (.ref C) (PySem.dunder op.info.2) = some (some (.ref g))) (hf : PySem.W.isFn X.K (.ref g) = true) (F : FnR X.prog X.w X.K X.mg X.base CX0 n g sp) (hr : Room n X.A) : OpR X (binaryOp op) (rBinO C sp E0) := by
  intro pins s σ H x y v u Q I rx ry h
  obtain ⟨a, dx, vs, b, dy, ws, rfl, rfl, ha, hb, q⟩ := h
  cases (show v = Value.ref a from rx)
  cases (show u = Value.ref b from ry)
  obtain ⟨sl, od, _, J, _⟩ := SlX.slt_inst I ha
  obtain ⟨sl', od', _, J', _⟩ := SlX.slt_inst I hb
  obtain ⟨m, hF⟩ := I.fr
  refine PySem.W.binop_K hF I.ok.mod.kin J J'.type hc hs hf ?_
  refine wpAny_mono (wpAny_call (run_fnR (us := [.ref a, .ref b]) (vs := [.ref a, .ref b]) F hr pass0 I (.cons rfl (.cons rfl .nil)) q)) (fun w s' z => ?_) fun _ _ x => x
  obtain ⟨z', H', I', rz, qz⟩ := z
  exact SlX.cmpback rz ⟨z', H', I', rz, qz⟩
theorem e_binO {op : Operator} (F : Mth tb X.prog X.w X.K X.mg X.base C m k Pm) (hm : m = PySem.dunder op.info.2) (hc : PySem.W.selfFirst X.K C = true) (hr : Room k X.A) (i : α) (hok : Pm.ok i) (ha : EV tb X G a (val (kIns C Ts).ty)) (hb : EV tb X G b (val (kIns C Us).ty)) (hA : Pm.args i = [ag (kIns C Ts).ty, ag (kIns C Us).ty] := by rfl) (hR : Pm.res i = R := by rfl) :
    EV tb X G (.BinOp a op b pos) R := by
  subst hm
  obtain ⟨g, hm', _, F'⟩ := F.ex
  rw [← hR]
  exact fun σ H t ff Q q => toE (pe_op (op_binO hc hm'.at_ hm'.fn F' hr) pe_RE pe_RE) (ha σ H t ff _ fun v H1 e1 h1 => hb σ H1 (e1.tab t) (ff.ex e1) _ fun u H2 e2 h2 => by
    have h1' := (kIns C Ts).ex e2 h1
    obtain ⟨y, dx, vs, ev, hs, _⟩ := kIns_slt h1'
    obtain ⟨y2, dx2, vs2, ev2, hs2, _⟩ := kIns_slt h2
    refine ⟨y, dx, vs, y2, dx2, vs2, ev, ev2, hs, hs2, i, hok, (e1.trans e2).tab t, ?_, fun v H' e3 h3 => q v H' ((e1.trans e2).trans e3) ((Pm.res i).mono (e1.trans e2) h3 Ex.refl)⟩
    rw [hA]
    exact ⟨⟨0, h1'⟩, ⟨0, h2⟩, trivial⟩)
/-- o(e, ..), o an instance -/
theorem e_callO (F : Mth tb X.prog X.w X.K X.mg X.base C "__call__" k Pm) (hr : Room k X.A) (i : α) (hok : Pm.ok i) {As : List Ag} (ho : EV tb X G o (val (kIns C Ts).ty)) (ha : EA tb X G (e :: es) As) (hA : Pm.args i = ag (kIns C Ts).ty :: As := by rfl) (hR : Pm.res i = R := by rfl)
    (ht : eval (.Call o (e :: es) [] pos) X.env = (do callWith pos (← eval o X.env) [] (backTo pos (starEach (e :: es) X.env)) (backToKw pos (keywordEach [] X.env))) := by rfl)
    (hs : starEach (e :: es) X.env = (false, eval e X.env) :: starEach es X.env := by rfl) (hpl : (backTo pos (starEach es X.env)).any (·.1) = false := by rfl) : EV tb X G (.Call o (e :: es) [] pos) R := by
  obtain ⟨g, hm, hfi, F⟩ := F.ex
  rw [← hR]
  exact fun σ H t ff Q q => toE (StX.pe_callO (C := C) pe_RE ⟨hm.at_, hm.fn, hfi⟩ F hr pass0 pa_RA ht hs hpl) (ho σ H t ff _ fun v H1 e1 h1 => by
    obtain ⟨y, dx, vs, ev, hsl, hio⟩ := kIns_slt h1
    refine ⟨y, ev, ha σ H1 (e1.tab t) (ff.ex e1) _ fun ws H2 e2 h2 => ?_⟩
    have h1' := (kIns C Ts).ex e2 h1
    obtain ⟨y', dx', vs', ev', hs', _⟩ := kIns_slt h1'
    have ey : y = y' := by rw [ev] at ev'; exact V.ref.inj ev'
    subst ey
    refine ⟨.inl ⟨dx', vs', hs'⟩, i, hok, (e1.trans e2).tab t, ?_, fun v H' e3 h3 => q v H' ((e1.trans e2).trans e3) ((Pm.res i).mono (e1.trans e2) h3 Ex.refl)⟩
    rw [hA, ← ev]
    exact ⟨⟨0, h1'⟩, h2⟩)
/-- len(o) -/
def rLenO (C : Addr) (sp : Sp) (E : XK) : List V → Hp → VK → Prop := fun xs H Q => ∃ a dx vs, xs = [V.ref a] ∧ SlX.Slt H a C dx vs ∧ sp xs H (fun v H' => ∃ n : Nat, v = .int (n : Int) ∧ n < 2 ^ 62 ∧ Q v H') E
theorem call_lenO {g : Addr} {sp : Sp} {n : Nat} (hs : PySem.W.findIn X.K (.ref C) "__len__" = some (some (.ref g))) (hf : PySem.W.isFn X.K (.ref g) = true) (F : FnR X.prog X.w X.K X.mg X.base CX0 n g sp) (hr : Room (n + 1) X.A) : CallR X (.builtin "len") (rLenO C sp E0) := by
  intro pins s σ H xs us Q I r h
  obtain ⟨a, dx, vs, rfl, hsl, q⟩ := h
  obtain ⟨u, rfl, ru⟩ := vals1 r
  obtain rfl : u = Value.ref a := ru
  obtain ⟨sl, od, _, J, _⟩ := SlX.slt_inst I hsl
  obtain ⟨m, hF⟩ := I.fr
  refine PySem.W.len_K hF I.ok.mod.kin J hs hf (wpAny_mono (wpAny_call (SlX.run_at (us := [.ref a]) (ws := [.ref a]) F (show Room n X.A.in1 from hr.in1) I.env0.in1 pass0 I (.cons rfl .nil) q)) (fun w s' z => ?_) fun _ _ x => x)
  obtain ⟨z', H', I', rz, n, rfl, hn, qz⟩ := z
  obtain ⟨t, rfl⟩ := rz
  exact ⟨⟨by omega, by omega⟩, .int (n : Int), H', I'.tok _, ⟨_, rfl⟩, qz⟩
theorem e_lenO {n : Nat} (hn : n < 2 ^ 62) (hm : X.mg "len" = none) (F : Mth tb X.prog X.w X.K X.mg X.base C "__len__" k Pm) (hr : Room (k + 1) X.A) (i : α) (hok : Pm.ok i) (ho : EV tb X G o (val (kIns C Ts).ty)) (hA : Pm.args i = [ag (kIns C Ts).ty] := by rfl) (hR : Pm.res i = val (tN n) := by rfl) (hg : Gl X "len" := by rfl)
    (hs : starEach [o] X.env = (false, eval o X.env) :: starEach [] X.env := by rfl) : EV tb X G (.Call (.Name "len" p) [o] [] pos) (val (tN n)) := by
  obtain ⟨g, hm', hfi, F⟩ := F.ex
  exact fun σ H t ff Q q => toE (pe_callB (call_lenO hm'.at_ hm'.fn F hr) hg hm PySem.boot_len (pa_cons pe_RE pa_nil hs) (by decide) (by decide) hs rfl) (ho σ H t ff _ fun v H1 e1 h1 => by
    obtain ⟨y, dx, ws, ev, hsl, _⟩ := kIns_slt h1
    subst ev
    refine ⟨y, dx, ws, rfl, hsl, i, hok, e1.tab t, ?_, fun v H' e3 h3 => ?_⟩
    · rw [hA]
      exact ⟨⟨0, h1⟩, trivial⟩
    · rw [hR] at h3
      have h3 : v = .int (n : Int) := h3
      exact ⟨n, h3, hn, q v H' (e1.trans e3) h3⟩)
/-! ### texts of no interest -/
/-- a text of N signs at the most -/
def kS (N : Nat) : Im := ⟨fun v _ => ∃ s : Str, v = .str s ∧ s.length ≤ N, fun _ h => h, fun _ => True, fun _ _ h => h⟩
theorem e_toS {s : Str} {N : Nat} (h : EV tb X G e (val (tS s))) (hn : s.length ≤ N) : EV tb X G e (val (kS N).ty) := h.imp fun _ v _ q => ⟨s, q, hn⟩
theorem e_leS {N M : Nat} (h : EV tb X G e (val (kS N).ty)) (hn : N ≤ M) : EV tb X G e (val (kS M).ty) := h.imp fun _ v _ ⟨s, q, l⟩ => ⟨s, q, Nat.le_trans l hn⟩
theorem e_fmtS {N : Nat} (h : EV tb X G e (val (kS N).ty)) (hN : N ≤ 1000000) : EV tb X G (.FormattedValue e (-1) none pos) (val (kS N).ty) := fun σ H t ff Q q =>
  toE (pe_fmt pe_RE) (h σ H t ff _ fun v H1 e1 ⟨s, ev, l⟩ => .inl ⟨s, ev, by rw [sizeLine_eq]; omega, q _ H1 e1 ⟨s, rfl, l⟩⟩)
theorem pe_fmtO {te : TE} {g : Addr} {sp : Sp} {n : Nat} (he : PE X e te) (hfm : PySem.W.findIn X.K (.ref C) "__format__" = some (some (.builtin "object.__format__"))) (hmr : PySem.W.mroIn X.K C (.type "object") = some true) (hs : PySem.W.findIn X.K (.ref C) "__str__" = some (some (.ref g))) (hf : PySem.W.isFn X.K (.ref g) = true)
    (F : FnR X.prog X.w X.K X.mg X.base CX0 n g sp) (hr : Room (n + 1) X.A) : PE X (.FormattedValue e (-1) none pos) (fun σ H Q => te σ H fun x H1 => ∃ a dx vs, x = .ref a ∧ SlX.Slt H1 a C dx vs ∧ sp [.ref a] H1 (fun v H' => ∃ y, v = .str y ∧ Q v H') E0) := by
  refine ⟨fun pins s σ H Q I h => ?_⟩
  refine wpAny_FormattedValue_plain (thn (he.run pins s σ H _ I h) fun v s1 hv => ?_)
  obtain ⟨x, H1, I1, r1, a, dx, vs, rfl, hsl, q⟩ := hv
  obtain rfl : v = Value.ref a := r1
  obtain ⟨sl, od, _, J, _⟩ := SlX.slt_inst I1 hsl
  have hr1 : Room n X.A.in1 := hr.in1
  have I2 : Inv X pins σ H1 { s1 with toks := s1.toks + 1 } := I1.tok _
  refine PySem.W.kfo_fieldS hr1.units0 I1.kIn J hfm hmr hs hf (wpAny_mono (wpAny_call (SlX.run_at (us := [.ref a]) (ws := [.ref a]) F hr1 I2.env0.in1 pass0 I2 (.cons rfl .nil) q)) (fun w s' z => ?_) fun _ _ x => x)
  obtain ⟨z', H', I', rz, y, rfl, qz⟩ := z
  obtain ⟨t, rfl⟩ := rz
  exact ⟨.str y, H', I', ⟨_, rfl⟩, qz⟩
theorem e_fmtO {N : Nat} (hfm : PySem.W.findIn X.K (.ref C) "__format__" = some (some (.builtin "object.__format__"))) (hmr : PySem.W.mroIn X.K C (.type "object") = some true) (F : Mth tb X.prog X.w X.K X.mg X.base C "__str__" k Pm) (hr : Room (k + 1) X.A) (i : α) (hok : Pm.ok i) (ho : EV tb X G o (val (kIns C Ts).ty)) (hA : Pm.args i = [ag (kIns C Ts).ty] := by rfl) (hR : Pm.res i = val (kS N).ty := by rfl) :
    EV tb X G (.FormattedValue o (-1) none pos) (val (kS N).ty) := by
  obtain ⟨g, hm', hfi, F⟩ := F.ex
  exact fun σ H t ff Q q => toE (pe_fmtO pe_RE hfm hmr hm'.at_ hm'.fn F hr) (ho σ H t ff _ fun v H1 e1 h1 => by
    obtain ⟨y, dx, ws, ev, hsl, _⟩ := kIns_slt h1
    subst ev
    refine ⟨y, dx, ws, rfl, hsl, i, hok, e1.tab t, ?_, fun v H' e3 h3 => ?_⟩
    · rw [hA]
      exact ⟨⟨0, h1⟩, trivial⟩
    · rw [hR] at h3
      have ⟨s, es, _⟩ := h3
      exact ⟨s, es, q v H' (e1.trans e3) h3⟩)
/-- the parts of an f-string -/
def EJ (tb : Tb) (X : Cx) (G : List (Option Ty)) (es : List Expr) (N : Nat) : Prop :=
  ∀ (σ : L2.St) (H : Hp), Tbl tb H → Fit H G σ → ∀ (acc : Str) (Q : Str → Hp → Prop), acc.length + N ≤ 1000000 → (∀ out H', Ex tb H H' → out.length ≤ acc.length + N → Q out H') → tJs (es.map (RE X)) acc σ H Q
theorem ej_nil : EJ tb X G [] 0 := fun σ H t ff acc Q hn k => k acc H Ex.refl (Nat.le_refl _)
theorem str_app_len (a b : Str) : (a ++ b).length = a.length + b.length := by
  show (a.cps ++ b.cps).size = a.cps.size + b.cps.size
  rw [Array.size_append]
theorem ej_cons {N M : Nat} (h : EV tb X G e (val (kS N).ty)) (hr : EJ tb X G es M) : EJ tb X G (e :: es) (N + M) := fun σ H t ff acc Q hn k =>
  h σ H t ff _ fun v H1 e1 ⟨s, ev, l⟩ => ⟨s, ev, by rw [str_app_len, sizeLine_eq]; omega, hr σ H1 (e1.tab t) (ff.ex e1) _ _ (by rw [str_app_len]; omega) fun out H2 e2 l2 => k out H2 (e1.trans e2) (by rw [str_app_len] at l2; omega)⟩
theorem pj_RE : ∀ es : List Expr, PJ X es (es.map (RE X))
  | [] => .nil
  | _ :: es => .cons pe_RE (pj_RE es)
theorem e_join {N : Nat} {v1 v2 : Expr} {rest : List Expr} (h : EJ tb X G (v1 :: v2 :: rest) N) (hN : N ≤ 1000000) : EV tb X G (.JoinedStr (v1 :: v2 :: rest) pos) (val (kS N).ty) := fun σ H t ff Q q =>
  toE (pe_joined (pj_RE _)) (h σ H t ff _ _ (by show 0 + N ≤ _; omega) fun out H' e' l => q _ H' e' ⟨out, rfl, by
    have e0 : (Str.empty).length = 0 := rfl
    omega⟩)
theorem e_join1 {R : Rs} (h : EV tb X G e R) : EV tb X G (.JoinedStr [e] pos) R := fun σ H t ff Q q => toE (pe_joined1 pe_RE) (h σ H t ff Q q)
end
end Tw
end STwI
section STwJ
set_option Elab.async false
set_option linter.all false
set_option maxRecDepth 100000
set_option maxHeartbeats 4000000
/-! enumerate over a tuple, zip of a tuple and a list; the rule for an __init__. -/
namespace Tw
open PySem PySem.Spec PyProof.Rows L2

theorem typeCall_enumerate_1 (a : Value) : checkTypeCall "enumerate" ⟨[a], []⟩ = pure () := by kernel_rfl
theorem newCall_enumerate_1 (a : Value) : checkBuiltinCall "enumerate.__new__" ⟨[.type "enumerate", a], []⟩ = pure () := by kernel_rfl
set_option maxHeartbeats 1000000 in
theorem meets_enumerate_new1 {v : Value} {o : Obj} {H : Heap → Prop} (B : Begins v o H) :
    Meets (Builtin.«enumerate.__new__» ⟨[.type "enumerate", v], []⟩) (fun _ R s => H s.heap ∧
      R (.ok (.ret (.ref (s.heap.push o).objs.size))) { s with heap := (s.heap.push o).push { cls := .type "enumerate", data := .fields #[.none, .bool false, .ref s.heap.objs.size, rawInt 0, .none, .none] } }) :=
  .of_wp fun prog w A R s h => by
    obtain ⟨hp, g, d, tk, os⟩ := s; obtain ⟨h1, h⟩ := h
    have hsub := sub_enumerate
    have q1 : ∀ {A' : Around} {E : Value → Shared → Prop} {Q : Value → Shared → Prop}, Q (.ref hp.objs.size) ⟨hp.push o, g, d, tk, os⟩ → wpAny (model prog w) A' (pyIter v) Q E ⟨hp, g, d, tk, os⟩ :=
      fun q => B.iter prog w _ _ ⟨hp, g, d, tk, os⟩ _ h1 q
    wp_walk using q1
    refine wpAny_stack_any fun st => wpAny_pure ?_
    split
    · rename_i c _ _ _ _ _
      cases (c == Value.type "enumerate")
      · wp_walk using q1
        exact ⟨_, rfl, h⟩
      · wp_walk using q1
        exact ⟨_, rfl, h⟩
    · wp_walk using q1
      exact ⟨_, rfl, h⟩
section
variable {prog : Program} {w : World} {A : Around} {E : Value → Shared → Prop} {s : Shared}
theorem enum_begins1 {v : Value} {o : Obj} {H : Heap → Prop} {Q : Value → Shared → Prop} (B : Begins v o H) (h1 : H s.heap)
    (h : ∀ h', IsEnum h' (s.heap.objs.size + 1) s.heap.objs.size 0 .none → h'.get? s.heap.objs.size = some o → h'.objs.size = s.heap.objs.size + 2 →
      (∀ b o, s.heap.get? b = some o → h'.get? b = some o) → Q (.ref (s.heap.objs.size + 1)) { s with heap := h' }) :
    wpAny (model prog w) A (call (.type "enumerate") [v]) Q E s := by
  refine callType_new F.called_enumerate (by decide) (typeCall_enumerate_1 _) (newCall_enumerate_1 _) (fun obj => F.args_object_init_2 obj _) F.entry_enumerate_new
    (meets_enumerate_new1 B) ⟨h1, ?_⟩
  have hz : (s.heap.push o).objs.size = s.heap.objs.size + 1 := Heap.size_push ..
  show _ ∧ _
  rw [hz]
  have he : IsEnum ((s.heap.push o).push { cls := .type "enumerate", data := .fields #[.none, .bool false, .ref s.heap.objs.size, rawInt 0, .none, .none] }) (s.heap.objs.size + 1) s.heap.objs.size 0 .none := by
    have := Heap.get?_push_size (s.heap.push o) (o := { cls := .type "enumerate", data := .fields #[.none, .bool false, .ref s.heap.objs.size, rawInt 0, .none, .none] }) rfl
    rw [hz] at this; exact this
  refine ⟨⟨_, he, rfl⟩, h _ he (Heap.get?_push_of_some _ (Heap.get?_push_size _ B.free)) (by rw [Heap.size_push, hz]) fun b o x => Heap.get?_push_of_some _ (Heap.get?_push_of_some _ x)⟩
end
/-- the tuple at a, each item in a new pair -/
def IteT (K : PySem.W.Frag) (a : Addr) : It :=
  ⟨fun i H => ∃ (xs : List V) (x : V), SqT K H a xs ∧ xs[i]? = some x, fun i H v H' => ∃ T x, v = .ref T ∧ H T = none ∧ H' = upd H T (.tup [.int (i : Nat), x]) ∧ ∀ xs, SqT K H a xs → xs[i]? = some x, fun i H => ∃ xs : List V, SqT K H a xs ∧ xs.length = i⟩
theorem tupit_ne {h : Heap} {it a : Addr} {i : Nat} {xs : Array Value} (h1 : h.IsTupleIter it a i) (h2 : IsTup h a xs) : a ≠ it := fun z => by
  obtain ⟨o, ho, hc, hd⟩ := h1
  obtain ⟨o', ho', hc', _⟩ := h2
  subst z
  rw [ho] at ho'
  cases ho'
  rw [hc] at hc'
  exact absurd (Value.type.inj hc') (by decide)
theorem turn_enumT {P : Program} {w : World} {K : PySem.W.Frag} {elts : List Expr} {kk : Nat} {tpos : Pos} (a e it : Addr) :
    Turn P w K (.Tuple elts kk tpos) (IteT K a) [e, it] e (fun i h => (∃ old, IsEnum h e it ((i : Nat) : Int) old) ∧ h.IsTupleIter it a i ∧ e ≠ it) where
  mem := by simp
  obj := fun i h st b hb => by
    obtain ⟨⟨old, he⟩, ⟨o, ho, hc, hd⟩, _⟩ := st
    have e' : b = e ∨ b = it := by simpa using hb
    rcases e' with z | z
    · rw [z]; exact ⟨_, he, fun v q => nomatch q⟩
    · rw [z]; exact ⟨o, ho, fun v q => by rw [hd] at q; cases q⟩
  keep := fun i h h' st k => let ⟨⟨old, he⟩, hi, hne⟩ := st; ⟨⟨old, k e (by simp) _ he⟩, hi.at fun o q => k it (by simp) o q, hne⟩
  item := by
    intro X hP hw hK hc i pins s σ H E I hf st hg
    subst hP hw hK
    obtain ⟨⟨old, he⟩, hit, hne⟩ := st
    obtain ⟨xs, x, hq, hx⟩ := hg
    obtain ⟨its, rv, p, hz⟩ := I.tuple hq
    obtain ⟨u, hu, ru⟩ := rv.get hx
    have hel : e < s.heap.objs.size := Heap.lt_size he
    have hil : it < s.heap.objs.size := by obtain ⟨_, q, _⟩ := hit; exact Heap.lt_size q
    have hai : a ≠ it := tupit_ne hit p
    have hae : e ≠ a := fun z => by
      obtain ⟨o', ho', hc', _⟩ := p
      rw [← z, he] at ho'
      cases ho'
      exact absurd (Value.type.inj hc') (by decide)
    have hlt : i < its.toArray.size := by
      obtain ⟨q, _⟩ := List.getElem?_eq_some_iff.mp hu
      simpa using q
    have Dr := Draws.tuple (prog := X.prog) (w := X.w) (A := X.A.in1) (show X.A.in1.handled = none from I.ok.hd hc) it a hai its.toArray
    refine wpAny_pyNext_enum_itemD Dr he ⟨hit, p⟩ hlt hne (by simp [hne, hae]) fun y h' tk hy ho hst hT hsz hk => ?_
    obtain ⟨hit', _⟩ := hst
    have euy : u = y := by
      have h2 : its[i]? = some y := by simpa using hy
      rw [hu] at h2
      exact Option.some.inj h2
    subst euy
    refine ⟨_, rfl, wpAny_letOwnedTupleGo_enum (s := { s with heap := h', toks := tk + 1 }) ho fun h'' he' sb => ?_⟩
    have hT2 : h''.get? s.heap.objs.size = some { cls := .type "tuple", data := .seq #[.int i tk, u] } := (sb.2 _ (Nat.ne_of_gt hel)).trans hT
    have new : ObjOk X.prog X.w (upd H s.heap.objs.size (.tup [.int (i : Nat), x])) h'' s.heap.objs.size (.tup [.int (i : Nat), x]) :=
      ⟨by show 2 ≤ sizeLine; decide, [.int i tk, u], .cons ⟨_, rfl⟩ (.cons ru .nil), ⟨_, hT2, rfl, _, rfl⟩⟩
    have I1 : Inv X pins σ (upd H s.heap.objs.size (.tup [.int (i : Nat), x])) { s with heap := h'', toks := tk + 1 } :=
      I.turnedNew (ch := [e, it]) (fun b ob hb q => (sb.2 b (fun z => hb (by simp [z]))).trans (hk b ob (fun z => hb (by simp [z])) (fun z => hb (by simp [z])) q)) hf (Nat.le_refl _) new
    refine ⟨.ref s.heap.objs.size, _, I1, rfl, ⟨_, x, rfl, I.hok.fresh (Nat.le_refl _), rfl, fun ys hy => by rw [I.tuple_inj hy hq]; exact hx⟩, ⟨⟨u, ?_⟩, hit'.at fun o q => (sb.2 it (Ne.symm hne)).trans q, hne⟩, fun b hb => ?_⟩
    · have e1 : ((i + 1 : Nat) : Int) = (i : Int) + 1 := by omega
      rw [e1]; exact he'
    · have hb' : b < s.heap.objs.size := by
        have e' : b = e ∨ b = it := by simpa using hb
        rcases e' with z | z
        · rw [z]; exact hel
        · rw [z]; exact hil
      rw [upd_ne (Nat.ne_of_lt hb')]
      exact (hf b hb).1
  done := by
    intro X hP hw hK hc i pins s σ H E I hf st hg
    subst hP hw hK
    obtain ⟨⟨old, he⟩, hit, hne⟩ := st
    obtain ⟨xs, hq, hx⟩ := hg
    obtain ⟨its, rv, p, hz⟩ := I.tuple hq
    obtain ⟨f0, f1, f2, f3, f4, f5⟩ := hf it (by simp)
    have hl := rv.length
    have hai : a ≠ it := tupit_ne hit p
    have Dr := Draws.tuple (prog := X.prog) (w := X.w) (A := X.A.in1) (show X.A.in1.handled = none from I.ok.hd hc) it a hai its.toArray
    have hsz : its.toArray.size = i := by rw [List.size_toArray]; omega
    rw [hsz] at Dr
    exact wpAny_pyNext_enum_endD Dr he ⟨hit, p⟩ fun h' eb => ⟨rfl, I.turned (t' := s.toks) (fun b o hb q => eb b o hb q) f0 f1 f3 f4 f5⟩
  self := fun A i s Q E st h => let ⟨⟨_, he⟩, _⟩ := st; wpAny_pyIter_enum he h
def iEnumT (K : PySem.W.Frag) (ta : TA) : TI := fun σ H R => ta σ H fun vs H1 => ∃ a xs, vs = [.ref a] ∧ SqT K H1 a xs ∧ R (IteT K a) H1
theorem pi_enumT {X : Cx} {e : Expr} {ta : TA} {p pos tpos : Pos} {elts : List Expr} {kk : Nat} (hg : Gl X "enumerate") (hm : X.mg "enumerate" = none) (ha : PA X [e] ta) (hs : starEach [e] X.env = [(false, eval e X.env)] := by rfl) :
    PI X (.Tuple elts kk tpos) (.Call (.Name "enumerate" p) [e] [] pos) (iEnumT X.K ta) := by
  refine ⟨fun pins s σ H R I h => ?_⟩
  refine Call_ (ld_blt I hg hm boot_enumerate (PyProof.Rows.callWith_type1 (thn (ha.run pos pins s σ H _ I h) fun us s1 ⟨vs, H1, I1, r1, q1⟩ => ?_) hs rfl))
  obtain ⟨a, xs, ex, hq, q⟩ := q1
  subst ex
  cases r1 with
  | cons r rr =>
    cases rr
    cases r
    obtain ⟨its, rv, p', hz⟩ := I1.tuple hq
    refine enum_begins1 (begins_tuple a its.toArray) p' fun h' he hit hsz hk => wpAny_pyIter_enum he ?_
    have I2 : Inv X pins σ H1 { s1 with heap := h' } := I1.kept (t' := s1.toks) hk
    refine ⟨s1.heap.objs.size + 1, [s1.heap.objs.size + 1, s1.heap.objs.size], _, _, H1, rfl, I2, turn_enumT a (s1.heap.objs.size + 1) s1.heap.objs.size, ⟨⟨.none, he⟩, ⟨_, hit, rfl, rfl⟩, Nat.succ_ne_self _⟩, fun b hb => ?_, q⟩
    have e' : b = s1.heap.objs.size + 1 ∨ b = s1.heap.objs.size := by simpa using hb
    have hle : s1.heap.objs.size ≤ b := by
      rcases e' with z | z
      · rw [z]; exact Nat.le_add_right _ _
      · rw [z]; exact Nat.le_refl _
    exact I1.fpOk hle (I1.hok.fresh hle)
theorem walk_enumT {K : PySem.W.Frag} {a : Addr} {xs : List V} : Walk (IteT K a) xs.length (fun H => SqT K H a xs) (YPair (fun i => some (.int (i : Nat))) (fun i => xs[i]?)) := by
  refine ⟨fun i _ hi q => ⟨xs, xs[i], q, by simp [hi]⟩, fun _ q => ⟨xs, q, rfl⟩, fun i H v H' _ q y => ?_⟩
  obtain ⟨T, x, h1, h2, h3, h4⟩ := y
  exact ⟨T, .int (i : Nat), x, h1, h2, h3, rfl, h4 xs q⟩
/-- the tuple at a and the list at b, the items in new pairs -/
def ItzTL (K : PySem.W.Frag) (a b : Addr) : It :=
  ⟨fun i H => ∃ (xs ys : List V) (x y : V), SqT K H a xs ∧ SqL K H b ys ∧ xs[i]? = some x ∧ ys[i]? = some y,
    fun i H v H' => ∃ T x y, v = .ref T ∧ H T = none ∧ H' = upd H T (.tup [x, y]) ∧ (∀ xs, SqT K H a xs → xs[i]? = some x) ∧ ∀ ys, SqL K H b ys → ys[i]? = some y,
    fun i H => ∃ xs ys : List V, SqT K H a xs ∧ SqL K H b ys ∧ i ≤ xs.length ∧ i ≤ ys.length ∧ (i = xs.length ∨ i = ys.length)⟩
theorem lstit_ne {h : Heap} {it a : Addr} {i : Nat} {xs : Array Value} (h1 : h.IsListIter it a i) (h2 : h.IsList a xs) : a ≠ it := fun z => by
  obtain ⟨o, ho, hc, hd⟩ := h1
  obtain ⟨o', ho', hc', _⟩ := h2
  subst z
  rw [ho] at ho'
  cases ho'
  rw [hc] at hc'
  exact absurd (Value.type.inj hc') (by decide)
theorem turn_zipTL {P : Program} {w : World} {K : PySem.W.Frag} {elts : List Expr} {kk : Nat} {tpos : Pos} {a b z TI TO i1 i2 : Addr} (D : ZipApart z TI TO i1 i2 a b) :
    Turn P w K (.Tuple elts kk tpos) (ItzTL K a b) [z, TI, TO, i1, i2] z (fun i h => IsZip h z TI TO .none ∧ IsTupOf2 h TI (.ref i1) (.ref i2) ∧ (∃ x y, IsTupOf2 h TO x y) ∧ h.IsTupleIter i1 a i ∧ h.IsListIter i2 b i) where
  mem := by simp
  obj := fun i h st c hc => by
    obtain ⟨hz, hTI, ⟨x, y, hTO⟩, ⟨o1, e1, _, d1⟩, ⟨o2, e2, _, d2⟩⟩ := st
    have e' : c = z ∨ c = TI ∨ c = TO ∨ c = i1 ∨ c = i2 := by simpa using hc
    rcases e' with q | q | q | q | q
    · rw [q]; exact ⟨_, hz, fun v q => nomatch q⟩
    · rw [q]; exact ⟨_, hTI, fun v q => nomatch q⟩
    · rw [q]; exact ⟨_, hTO, fun v q => nomatch q⟩
    · rw [q]; exact ⟨o1, e1, fun v q => by rw [d1] at q; cases q⟩
    · rw [q]; exact ⟨o2, e2, fun v q => by rw [d2] at q; cases q⟩
  keep := fun i h h' st k => by
    obtain ⟨hz, hTI, ⟨x, y, hTO⟩, h1, h2⟩ := st
    exact ⟨k z (by simp) _ hz, k TI (by simp) _ hTI, ⟨x, y, k TO (by simp) _ hTO⟩, h1.at fun o q => k i1 (by simp) o q, h2.at fun o q => k i2 (by simp) o q⟩
  item := by
    intro X hP hw hK hc i pins s σ H E I hf st hg
    subst hP hw hK
    obtain ⟨hz, hTI, ⟨x0, y0, hTO⟩, h1, h2⟩ := st
    obtain ⟨xs, ys, x, y, hqx, hqy, hx, hy⟩ := hg
    obtain ⟨its, rv, p, _⟩ := I.tuple hqx
    obtain ⟨its2, rv2, p2, _⟩ := I.list hqy
    obtain ⟨u, hu, ru⟩ := rv.get hx
    obtain ⟨u2, hu2, ru2⟩ := rv2.get hy
    have hzl : z < s.heap.objs.size := Heap.lt_size hz
    have hh : X.A.in1.handled = none := I.ok.hd hc
    have D1 := Draws.tuple (prog := X.prog) (w := X.w) (A := X.A.in1) hh i1 a (tupit_ne h1 p) its.toArray
    have D2 := Draws.list (prog := X.prog) (w := X.w) (A := X.A.in1) hh i2 b (lstit_ne h2 p2.isList) its2.toArray
    have S : ZipSep2 z TI TO i1 i2 [i1, a] [i2, b] := ⟨D.TIz, D.TOz, D.TITO, D.TIi1, by simp, by simp [D.i1z.symm, D.l1z.symm], by simp [D.TOi1, D.l1TO.symm], D.TIi2, by simp, by simp [D.i2z.symm, D.l2z.symm], by simp [D.TOi2, D.l2TO.symm], by simp [D.i12, D.l2i1.symm], by simp [D.i12.symm, D.l1i2.symm]⟩
    have hlt1 : i < its.toArray.size := by
      obtain ⟨q, _⟩ := List.getElem?_eq_some_iff.mp hu
      simpa using q
    have hlt2 : i < its2.toArray.size := by
      obtain ⟨q, _⟩ := List.getElem?_eq_some_iff.mp hu2
      simpa using q
    refine wpAny_pyNext_zipD2_item S D1 D2 hz hTI hTO ⟨h1, p⟩ ⟨h2, p2.isList⟩ hlt1 hlt2 fun v1 v2 h' tk hv1 hv2 z' TO' st1' st2' hT hsz hk => ?_
    have eu1 : u = v1 := by
      have q : its[i]? = some v1 := by simpa using hv1
      rw [hu] at q
      exact Option.some.inj q
    have eu2 : u2 = v2 := by
      have q : its2[i]? = some v2 := by simpa using hv2
      rw [hu2] at q
      exact Option.some.inj q
    subst eu1 eu2
    obtain ⟨h1', _⟩ := st1'
    obtain ⟨h2', _⟩ := st2'
    refine ⟨_, rfl, wpAny_letOwnedTupleGo_zip (s := { s with heap := h', toks := tk }) z' fun h'' z'' sb => ?_⟩
    have hT2 : h''.get? s.heap.objs.size = some { cls := .type "tuple", data := .seq #[u, u2] } := (sb.2 _ (Nat.ne_of_gt hzl)).trans hT
    have new : ObjOk X.prog X.w (upd H s.heap.objs.size (.tup [x, y])) h'' s.heap.objs.size (.tup [x, y]) :=
      ⟨by show 2 ≤ sizeLine; decide, [u, u2], .cons ru (.cons ru2 .nil), ⟨_, hT2, rfl, _, rfl⟩⟩
    have I1 : Inv X pins σ (upd H s.heap.objs.size (.tup [x, y])) { s with heap := h'', toks := tk } :=
      I.turnedNew (ch := [z, TI, TO, i1, i2]) (fun c o hb q => (sb.2 c (fun q' => hb (by simp [q']))).trans (hk c o (fun q' => hb (by simp [q'])) (fun q' => hb (by simp [q'])) (fun q' => hb (by simp [q'])) (fun q' => hb (by simp [q'])) q)) hf (Nat.le_refl _) new
    refine ⟨.ref s.heap.objs.size, _, I1, rfl, ⟨_, x, y, rfl, I.hok.fresh (Nat.le_refl _), rfl, fun l hl => by rw [I.tuple_inj hl hqx]; exact hx, fun l hl => by rw [I.list_inj hl hqy]; exact hy⟩, ⟨z'', ?_, ⟨u, u2, ?_⟩, ?_, ?_⟩, fun c hcm => ?_⟩
    · exact (sb.2 _ D.TIz).trans (hk _ _ D.TIz D.TITO D.TIi1 D.TIi2 hTI)
    · exact (sb.2 _ D.TOz).trans TO'
    · exact h1'.at fun o q => (sb.2 _ D.i1z).trans q
    · exact h2'.at fun o q => (sb.2 _ D.i2z).trans q
    · have hlt : c < s.heap.objs.size := by
        have e' : c = z ∨ c = TI ∨ c = TO ∨ c = i1 ∨ c = i2 := by simpa using hcm
        rcases e' with q | q | q | q | q
        · rw [q]; exact hzl
        · rw [q]; exact Heap.lt_size hTI
        · rw [q]; exact Heap.lt_size hTO
        · rw [q]; obtain ⟨_, e1, _⟩ := h1; exact Heap.lt_size e1
        · rw [q]; obtain ⟨_, e2, _⟩ := h2; exact Heap.lt_size e2
      rw [upd_ne (Nat.ne_of_lt hlt)]
      exact (hf c hcm).1
  done := by
    intro X hP hw hK hc i pins s σ H E I hf st hg
    subst hP hw hK
    obtain ⟨hz, hTI, ⟨x0, y0, hTO⟩, h1, h2⟩ := st
    obtain ⟨xs, ys, hqx, hqy, ha1, ha2, hend⟩ := hg
    obtain ⟨its, rv, p, _⟩ := I.tuple hqx
    obtain ⟨its2, rv2, p2, _⟩ := I.list hqy
    have l1 := rv.length
    have l2 := rv2.length
    have hh : X.A.in1.handled = none := I.ok.hd hc
    have D1 := Draws.tuple (prog := X.prog) (w := X.w) (A := X.A.in1) hh i1 a (tupit_ne h1 p) its.toArray
    have D2 := Draws.list (prog := X.prog) (w := X.w) (A := X.A.in1) hh i2 b (lstit_ne h2 p2.isList) its2.toArray
    have S : ZipSep2 z TI TO i1 i2 [i1, a] [i2, b] := ⟨D.TIz, D.TOz, D.TITO, D.TIi1, by simp, by simp [D.i1z.symm, D.l1z.symm], by simp [D.TOi1, D.l1TO.symm], D.TIi2, by simp, by simp [D.i2z.symm, D.l2z.symm], by simp [D.TOi2, D.l2TO.symm], by simp [D.i12, D.l2i1.symm], by simp [D.i12.symm, D.l1i2.symm]⟩
    exact wpAny_pyNext_zipD2_end S D1 D2 hz hTI hTO ⟨h1, p⟩ ⟨h2, p2.isList⟩ (by simp; omega) (by simp; omega) (by simp; omega) fun h' tk hk => ⟨rfl, I.turnedL (ch := [z, TI, TO, i1, i2]) (fun c o hb q =>
      hk c o (fun q' => hb (by simp [q'])) (fun q' => hb (by simp [q'])) (fun q' => hb (by simp [q'])) (fun q' => hb (by simp [q'])) q) hf⟩
  self := fun A i s Q E st h => wpAny_pyIter_zip st.1 h
def iZipTL (K : PySem.W.Frag) (ta : TA) : TI := fun σ H R => ta σ H fun vs H1 => ∃ a b xs ys, vs = [.ref a, .ref b] ∧ SqT K H1 a xs ∧ SqL K H1 b ys ∧ R (ItzTL K a b) H1
theorem pi_zipTL {X : Cx} {e e2 : Expr} {ta : TA} {p pos tpos : Pos} {elts : List Expr} {kk : Nat} (hg : Gl X "zip") (hm : X.mg "zip" = none) (ha : PA X [e, e2] ta)
    (hs : starEach [e, e2] X.env = (false, eval e X.env) :: starEach [e2] X.env := by rfl) (hpl : (backTo pos (starEach [e2] X.env)).any (·.1) = false := by rfl) :
    PI X (.Tuple elts kk tpos) (.Call (.Name "zip" p) [e, e2] [] pos) (iZipTL X.K ta) := by
  refine ⟨fun pins s σ H R I h => ?_⟩
  refine Call_ (ld_blt I hg hm PyProof.Rows.boot_zip (PyProof.Rows.callWith_type1 (thn (ha.run pos pins s σ H _ I h) fun us s1 ⟨vs, H1, I1, r1, q1⟩ => ?_) hs hpl))
  obtain ⟨a, b, xs, ys, ex, hqx, hqy, q⟩ := q1
  subst ex
  cases r1 with
  | cons r rr =>
    cases rr with
    | cons r' rr =>
      cases rr
      cases r
      cases r'
      have fresh5 : ∀ c, c ∈ [s1.heap.objs.size + 4, s1.heap.objs.size + 2, s1.heap.objs.size + 3, s1.heap.objs.size, s1.heap.objs.size + 1] → FpOk X pins H1 c := fun c hcm => by
        have e' : c = s1.heap.objs.size + 4 ∨ c = s1.heap.objs.size + 2 ∨ c = s1.heap.objs.size + 3 ∨ c = s1.heap.objs.size ∨ c = s1.heap.objs.size + 1 := by simpa using hcm
        have hle : s1.heap.objs.size ≤ c := by
          rcases e' with z | z | z | z | z
          · rw [z]; exact Nat.le_add_right _ _
          · rw [z]; exact Nat.le_add_right _ _
          · rw [z]; exact Nat.le_add_right _ _
          · rw [z]; exact Nat.le_refl _
          · rw [z]; exact Nat.le_add_right _ _
        exact I1.fpOk hle (I1.hok.fresh hle)
      obtain ⟨its, rv, p1, _⟩ := I1.tuple hqx
      obtain ⟨its2, rv2, p2, _⟩ := I1.list hqy
      obtain ⟨o1, ho1, _⟩ := id p1
      refine zip_begins2 (begins_tuple a its.toArray) (begins_list b its2.toArray) p1 p2.isList fun h' hz hTI hTO h1 h2 hsz hk => wpAny_pyIter_zip hz ?_
      have I2 : Inv X pins σ H1 { s1 with heap := h' } := I1.kept (t' := s1.toks) hk
      exact ⟨s1.heap.objs.size + 4, [s1.heap.objs.size + 4, s1.heap.objs.size + 2, s1.heap.objs.size + 3, s1.heap.objs.size, s1.heap.objs.size + 1], _, _, H1, rfl, I2, turn_zipTL (PySem.W.ktu_apart s1.heap.objs.size a b (Heap.lt_size ho1) p2.lt), ⟨hz, hTI, ⟨_, _, hTO⟩, ⟨_, h1, rfl, rfl⟩, ⟨_, h2, rfl, rfl⟩⟩, fresh5, q⟩
theorem walk_zipTL {K : PySem.W.Frag} {a b : Addr} {xs ys : List V} (hl : xs.length = ys.length) : Walk (ItzTL K a b) xs.length (fun H => SqT K H a xs ∧ SqL K H b ys) (YPair (fun i => xs[i]?) (fun i => ys[i]?)) := by
  refine ⟨fun i _ hi q => ?_, fun _ q => ⟨xs, ys, q.1, q.2, by omega⟩, fun i H v H' _ q y => ?_⟩
  · have h2 : i < ys.length := by omega
    exact ⟨xs, ys, xs[i], ys[i], q.1, q.2, by simp [hi], by simp [h2]⟩
  · obtain ⟨T, x, z, h1, h2, h3, h4, h5⟩ := y
    exact ⟨T, x, z, h1, h2, h3, h4 xs q.1, h5 ys q.2⟩
end Tw
end STwJ
section STwK
set_option Elab.async false
set_option linter.all false
set_option maxRecDepth 100000
set_option maxHeartbeats 4000000
/-! t[::-1], tuple * 0, tuple * 1; more rules of the typed layer. -/
namespace Tw
open PySem PySem.Spec PyProof.Rows L2
section
variable {prog : Program} {w : World} {A : Around} {E : Value → Shared → Prop} {s : Shared}
theorem adjust_rev (n : Nat) : Builtin.Slice.sliceAdjust none none (-1) (n : Int) = ((n : Int) - 1, -1) := by
  have h1 : ((-1 : Int) < 0) := by decide
  unfold Builtin.Slice.sliceAdjust
  simp only [h1, if_true]
theorem places_rev (n : Nat) : Builtin.Slice.slicePlaces ((n : Int) - 1) (-1) (-1) = n := by
  unfold Builtin.Slice.slicePlaces
  have h1 : ¬ ((-1 : Int) > 0) := by decide
  simp only [h1, if_false]
  have e : (- -1 : Int) = 1 := by decide
  rw [e]
  simp only [Int.ediv_one]
  split <;> omega
theorem sliceApplied_rev {sl : Addr} {vs : Value} {n : Nat} {Q : Int × Int × Nat → Shared → Prop} (hs : s.heap.IsSliceOf sl .none .none vs) (pv : IsPart vs (some (-1)))
    (h : Q ((n : Int) - 1, -1, n) s) : wpAny (model prog w) A (Builtin.Slice.sliceApplied (.ref sl) (pure (n : Int))) Q E s := by
  obtain ⟨os, hos, hcs, hds⟩ := id hs
  unfold Builtin.Slice.sliceApplied Builtin.Slice.sliceFields
  refine wpAny_bind (wpAny_bind (wpAny_field hos hds (x := .none) rfl (wpAny_bind (wpAny_field hos hds (x := .none) rfl (wpAny_bind (wpAny_field hos hds (x := vs) rfl (wpAny_pure ?_)))))))
  refine wpAny_bind (HT.slicePart_ pv ?_)
  show wpAny _ _ (if ((-1 : Int) == 0) = true then _ else _) _ _ s
  rw [if_neg (by decide)]
  refine wpAny_bind (slicePart_none (wpAny_bind (slicePart_none (wpAny_bind (wpAny_pure ?_)))))
  show wpAny _ _ (match Builtin.Slice.sliceAdjust none none (-1) (n : Int) with | (lo, hi) => pure (lo, (-1 : Int), Builtin.Slice.slicePlaces lo hi (-1))) _ _ s
  rw [adjust_rev n]
  show wpAny _ _ (pure (((n : Int) - 1), (-1 : Int), Builtin.Slice.slicePlaces ((n : Int) - 1) (-1) (-1))) _ _ s
  rw [places_rev]
  exact wpAny_pure h
theorem fm_congr {α β : Type} {f g : α → Option β} : ∀ l : List α, (∀ a ∈ l, f a = g a) → l.filterMap f = l.filterMap g
  | [], _ => rfl
  | a :: l, h => by
    rw [List.filterMap_cons, List.filterMap_cons, h a List.mem_cons_self, fm_congr l fun b hb => h b (List.mem_cons_of_mem _ hb)]
theorem pick_rev (xs : Array Value) : ((List.range xs.size).filterMap fun (m : Nat) => xs[(((xs.size : Int) - 1) + (m : Int) * (-1)).toNat]?).toArray = xs.toList.reverse.toArray := by
  have key : ∀ l : List Value, ((List.range l.length).filterMap fun (m : Nat) => l[(((l.length : Int) - 1) + (m : Int) * (-1)).toNat]?) = l.reverse := by
    intro l
    apply List.ext_getElem?
    intro i
    have e1 : ((List.range l.length).filterMap fun (m : Nat) => l[(((l.length : Int) - 1) + (m : Int) * (-1)).toNat]?) = (List.range l.length).map fun m => l[l.length - 1 - m]?.getD .none := by
      rw [← List.filterMap_eq_map]
      apply fm_congr
      intro m hm
      have hm := List.mem_range.mp hm
      have e2 : (((l.length : Int) - 1) + (m : Int) * (-1)).toNat = l.length - 1 - m := by omega
      rw [e2]
      have hlt : l.length - 1 - m < l.length := by omega
      show l[l.length - 1 - m]? = some (l[l.length - 1 - m]?.getD .none)
      rw [List.getElem?_eq_getElem hlt]
      rfl
    rw [e1, List.getElem?_map]
    by_cases hi : i < l.length
    · rw [List.getElem?_range hi, List.getElem?_reverse hi]
      have hlt : l.length - 1 - i < l.length := by omega
      show some (l[l.length - 1 - i]?.getD .none) = l[l.length - 1 - i]?
      rw [List.getElem?_eq_getElem hlt]
      rfl
    · rw [List.getElem?_eq_none (by simpa using hi), List.getElem?_eq_none (by simpa using hi)]
      rfl
  have k := key xs.toList
  rw [Array.length_toList] at k
  rw [← k]
  congr 1
  apply fm_congr
  intro m _
  rw [Array.getElem?_toList]
theorem getItem_tuple_rev {t sl : Addr} {items : Array Value} {vs : Value} {Q : Value → Shared → Prop} (ht : IsTup s.heap t items) (hs : s.heap.IsSliceOf sl .none .none vs) (pv : IsPart vs (some (-1)))
    (h : Q (.ref s.heap.objs.size) { s with heap := s.heap.push { cls := .type "tuple", data := .seq items.toList.reverse.toArray } })
    (hsz : items.size ≤ sizeLine) : wpAny (model prog w) A (getItem (.ref t) (.ref sl)) Q E s := by
  have htake : sizeOk (.seq items.toList.reverse.toArray) := by
    show items.toList.reverse.toArray.size ≤ sizeLine
    rw [List.size_toArray, List.length_reverse, Array.length_toList]
    exact hsz
  obtain ⟨os, hos, hcs, hds⟩ := id hs
  have hTs : s.TypeIs (.ref sl) "slice" := ⟨os, hos, hcs⟩
  unfold getItem
  try with_reducible refine wpAny_holding ?_
  first | refine wpAny_bind (wpAny_pure ?_) | skip
  refine wpAny_bind (wpAny_sequenceKey ht.typeIs (by decide) ?_)
  refine wpAny_bind (wpAny_callSpecial?_slot (name := Str.ofString "__getitem__") ht.typeIs PyProof.Rows.slot_tuple_getitem
    (wpAny_call_entry PyProof.Rows.slot_tuple_getitem ht.typeIs PyProof.Rows.entry_tuple_getitem ?_ (PyProof.Rows.args_tuple_getitem _ _)))
  show wpAny _ _ (Builtin.Tuple.tupleItemsOf (.ref t) >>= _) _ _ s
  refine wpAny_bind (tupleItemsOf_ ht ?_)
  refine wpAny_bind (wpAny_typeOf hTs ?_)
  rw [if_pos (by decide)]
  refine wpAny_bind (sliceApplied_rev hs pv ?_)
  have hno : ¬ ((((items.size : Int) - 1) == 0 && (-1 : Int) == 1 && items.size == items.size) = true) := by
    intro q
    rw [Bool.and_eq_true, Bool.and_eq_true] at q
    exact absurd q.1.2 (by decide)
  show wpAny _ _ (if ((((items.size : Int) - 1) == 0 && (-1 : Int) == 1 && items.size == items.size)) = true then _ else _) _ _ s
  rw [if_neg hno, pick_rev]
  first
    | exact wpAny_bind (m := Builtin.Tuple.tupleExact _) (wpAny_newObj_type (wpAny_pure ⟨_, rfl, wpAny_pure h⟩) htake)
    | exact wpAny_bind (m := Builtin.Tuple.tupleExact _) (wpAny_newObj_type (wpAny_bind (wpAny_pure (wpAny_pure ⟨_, rfl, wpAny_pure h⟩))) htake)
    | exact wpAny_bind (wpAny_bind (m := Builtin.Tuple.tupleExact _) (wpAny_newObj_type (wpAny_pure (wpAny_pure ⟨_, rfl, wpAny_pure h⟩)) htake))
    | exact wpAny_bind (wpAny_bind (m := Builtin.Tuple.tupleExact _) (wpAny_newObj_type (wpAny_pure ⟨_, rfl, wpAny_pure h⟩) htake))
end
def tRevT (K : PySem.W.Frag) (te : TE) : TE := fun σ H Q => te σ H fun x H1 => ∃ a xs, x = .ref a ∧ SqT K H1 a xs ∧ ∀ p, H1 p = none → Q (.ref p) (upd H1 p (.tup xs.reverse))
theorem pe_revT {X : Cx} {e : Expr} {te : TE} {k : Nat} {p1 p2 p3 pos : Pos} (he : PE X e te) : PE X (.Subscript e (.Slice none none (some (.UnaryOp .USub (.Constant (.int 1) k p1) p2)) p3) pos) (tRevT X.K te) := by
  refine ⟨fun pins s σ H Q I h => ?_⟩
  refine Subscript_ (thn (he.run pins s σ H _ I h) fun v s1 ⟨x, H1, I1, r1, q1⟩ => ?_)
  obtain ⟨a, xs, ex, hx, q⟩ := q1
  subst ex
  cases r1
  have hst : PO X (some (.UnaryOp .USub (.Constant (.int 1) k p1) p2)) (tPart (tUn (rU fun i => .int (-i)) (L2.tC (.int 1)))) := po_some (pe_un un_neg pe_int)
  refine wpAny_Slice (thn (po_none.run pins s1 σ H1 (fun o H2 => o = none ∧ H2 = H1) I1 ⟨rfl, rfl⟩) fun vl s2 ⟨l, H2, I2, pl, el, e2⟩ => ?_)
  subst el e2
  refine thn (po_none.run pins s2 σ H2 (fun o H3 => o = none ∧ H3 = H2) I2 ⟨rfl, rfl⟩) fun vu s3 ⟨u, H3, I3, pu, eu, e3⟩ => ?_
  subst eu e3
  refine thn (hst.run pins s3 σ H3 (fun o H4 => o = some (-1) ∧ H4 = H3) I3 ⟨1, rfl, -1, rfl, rfl, rfl⟩) fun vs s4 ⟨o, H4, I4, ps, eo, e4⟩ => ?_
  subst eo e4
  have I5 : Inv X pins σ H4 { s4 with heap := s4.heap.push { cls := .type "slice", data := .fields #[vl, vu, vs] } } := I4.kept (t' := s4.toks) fun b ob q => Heap.get?_push_of_some _ q
  obtain ⟨its, r, ht, hz⟩ := I5.tuple hx
  have hlen := r.length
  show wpAny (model X.prog X.w) X.A (subscriptTail e (.Slice none none (some (.UnaryOp .USub (.Constant (.int 1) k p1) p2)) p3) (.ref a) (.ref s4.heap.objs.size)) (EP X pins σ Q) X.xe { s4 with heap := s4.heap.push { cls := .type "slice", data := .fields #[vl, vu, vs] } }
  refine tail_any (ops := [.ref a, .ref s4.heap.objs.size]) ht.typeIs (PyProof.Rows.slot_tuple_getitem.lookup) ?_ (by with_unfolding_all rfl)
  have evl : vl = .none := by cases pl; rfl
  have evu : vu = .none := by cases pu; rfl
  refine getItem_tuple_rev ht (vs := vs) (by rw [evl, evu]; exact Heap.IsSliceOf.new _ .none .none vs) ps ?_ (by rw [List.size_toArray]; omega)
  refine ⟨.ref _, _, I5.laid (t' := s4.toks) (o := .tup xs.reverse) (fun b ob q => Heap.get?_push_of_some _ q) (Nat.le_refl _) ?_, rfl, q _ (I5.hok.fresh (Nat.le_refl _))⟩
  exact ⟨by rw [List.length_reverse]; exact hz, _, r.reverse, IsTup.new _ _⟩
/-! ### tuple * 0, tuple * 1 -/
theorem tuple_mul0 (l : Addr) (items : Array Value) (n : Nat) (dd : Option Addr) (sl : Array (Option Value)) (u : Tok) (c1 : items.isEmpty = false) :
    Meets (Builtin.«tuple.__mul__» ⟨[.ref l, .int 0 u], []⟩) (fun _ R s => s.heap.get? l = some { cls := .type "tuple", dict := dd, data := .seq items n, slots := sl } ∧
      R (.ok (.ret (Value.ref s.heap.objs.size))) { s with heap := s.heap.push { cls := Value.type "tuple", data := Data.seq #[] }, toks := s.toks }) :=
  .of_wp fun prog w A R s h => by
    obtain ⟨hp, g, d, tk, os⟩ := s
    obtain ⟨hl, h⟩ := h
    have f1 := AutoSeq1.idx_int
    wp_walk using wpAny_loadPart' hl
    repeat (first
      | (refine wpAny_ite_false (decide_eq_false (by first | (rw [c1]; exact Bool.false_ne_true) | (simp [c1]))) ?_; wp_walk using wpAny_loadPart' hl)
      | (refine wpAny_ite_true (decide_eq_true (by first | rfl | simp)) ?_; wp_walk using wpAny_loadPart' hl))
    exact ⟨_, rfl, h⟩
theorem tuple_mul1 (l : Addr) (items : Array Value) (n : Nat) (sl : Array (Option Value)) (dd : Option Addr) (u : Tok) :
    Meets (Builtin.«tuple.__mul__» ⟨[.ref l, .int 1 u], []⟩) (fun _ R s => s.heap.get? l = some { cls := .type "tuple", dict := dd, data := .seq items n, slots := sl } ∧
      R (.ok (.ret (Value.ref l))) s) :=
  .of_wp fun prog w A R s h => by
    obtain ⟨hp, g, d, tk, os⟩ := s
    obtain ⟨hl, h⟩ := h
    have f1 := AutoSeq1.idx_int
    wp_walk using wpAny_loadPart' hl
    repeat (first
      | (refine wpAny_ite_true (decide_eq_true (by first | rfl | simp)) ?_; wp_walk using wpAny_loadPart' hl))
    exact ⟨_, rfl, h⟩
end Tw
end STwK
section STwL
set_option Elab.async false
set_option linter.all false
set_option maxRecDepth 100000
set_option maxHeartbeats 4000000
/-! Rules: inits, enumerate, zip, lists, comparisons. -/
namespace Tw
open PySem PySem.Spec PyProof.Rows L2
theorem op_rep01 {X : Cx} : OpR X (binaryOp .Mult) (fun x y H Q => ∃ l k xs, x = .ref l ∧ y = .int k ∧ SqT X.K H l xs ∧ xs ≠ [] ∧ ((k = 0 ∧ ∀ p, H p = none → Q (.ref p) (upd H p (.tup []))) ∨ (k = 1 ∧ Q (.ref l) H))) := by
  intro pins s σ H x y v u Q I rx ry h
  obtain ⟨l, k, xs, rfl, rfl, hT, hne, q⟩ := h
  cases rx
  obtain ⟨t, rfl⟩ := ry
  obtain ⟨its, r, ⟨⟨cls, dd, data, sl⟩, ho, hc, n, hd⟩, hs⟩ := I.tuple hT
  simp only at hc hd
  subst hc hd
  have hle : its.length = xs.length := r.length.symm
  have hn : its ≠ [] := fun e => hne (by
    rw [e] at hle
    exact List.eq_nil_of_length_eq_zero hle.symm)
  have hi : its.toArray.isEmpty = false := by
    cases its with
    | nil => exact absurd rfl hn
    | cons a b => rfl
  rcases q with ⟨rfl, q⟩ | ⟨rfl, q⟩
  · refine wpAny_binaryOp_repeat_ref (T := "tuple") (U := "int") (by decide) ⟨_, ho, rfl⟩ (fun s' => typeIs_int s' 0 t) noFill_tuple_mul F.fills_int_mul F.slot_int_rmul repeat_tuple F.slot_int_index.lookup
      (call_meets F.slot_int_rmul (typeIs_int s 0 t) F.entry_int_rmul (F.args_int_rmul_2 _ _) (int_rmul_tuple 0 t l its.toArray n dd sl)
        ⟨ho, rfl, ⟨_, ho, rfl⟩, call_meets F.slot_tuple_mul ⟨_, ho, rfl⟩ F.entry_tuple_mul (F.args_tuple_mul_2 _ _) (tuple_mul0 l its.toArray n dd sl t hi) ⟨ho, ?_⟩⟩)
    refine ⟨.ref s.heap.objs.size, _, I.laid (t' := s.toks) (o := .tup []) (fun b ob q => Heap.get?_push_of_some _ q) (Nat.le_refl _) ?_, rfl, q _ (I.hok.fresh (Nat.le_refl _))⟩
    exact ⟨by show 0 ≤ _; exact Nat.zero_le _, [], .nil, IsTup.new _ _⟩
  · exact wpAny_binaryOp_repeat_ref (T := "tuple") (U := "int") (by decide) ⟨_, ho, rfl⟩ (fun s' => typeIs_int s' 1 t) noFill_tuple_mul F.fills_int_mul F.slot_int_rmul repeat_tuple F.slot_int_index.lookup
      (call_meets F.slot_int_rmul (typeIs_int s 1 t) F.entry_int_rmul (F.args_int_rmul_2 _ _) (int_rmul_tuple 1 t l its.toArray n dd sl)
        ⟨ho, rfl, ⟨_, ho, rfl⟩, call_meets F.slot_tuple_mul ⟨_, ho, rfl⟩ F.entry_tuple_mul (F.args_tuple_mul_2 _ _) (tuple_mul1 l its.toArray n sl dd t) ⟨ho, ⟨.ref l, H, I, rfl, q⟩⟩⟩)
section
variable {P : Program} {w : World} {K : PySem.W.Frag} {mg : Str → Option Value} {base : Heap}
/-- THE RULE for an __init__ -/
theorem fun_init {α : Type} {tb : Tb} {Pm : Prm α} {C : Addr} {x qual : Str} {st : Stmt} {f : Addr} {fd : FuncData} {N ps : List Str} {k : Nat} (F : Fun K x qual st f fd) (S : FnScope N ps (defScope st)) (hl : ∀ a, (Pm.args a).length + 1 = ps.length)
    (body : ∀ (a : α) (cdv : Value) (A : Around) (outer : List Env) (s : Shared) (H H1 : Hp) (E : XK) (y dx : Addr) (as : Nat → Addr) (D : Ends), H1 y = none → H1 dx = none → Pm.ok a → Room k (A.deeper (envOfC qual (defScope st) s.heap.objs.size f cdv)) → Tbl tb H1 →
      (∀ σ H', Ex tb H1 H' → (Pm.res a).is H1 (.ref y) H' → D.nx σ H') →
      BK tb (cxOf CX0 P w K mg base N qual (defScope st) f cdv A outer s H E).nox H1 (some (tSelf C y dx []) :: gam (Pm.args a) as (N.length - ps.length)) [] (defBody st) D) : FnOk P w K mg base CX0 (k + 1) f fd ps (spI tb Pm C) := by
  refine F.ok S (fun vs H Q E h => ?_) (fun cdv A outer s H vs Q E hr h => ?_)
  · obtain ⟨a, y, dx, ws, H1, rfl, _, _, _, _, _, _, hf, _⟩ := h
    rw [List.length_cons, ← hf.length, hl]
  · obtain ⟨a, y, dx, ws, H1, rfl, hy, hdx, hn, rfl, hok, ht, hf, hq⟩ := h
    have e1 : Ex tb H1 (upd H1 dx (.own y)) := Ex.new hdx
    have e2 : Ex tb (upd H1 dx (.own y)) (upd (upd H1 dx (.own y)) y (.ins C dx [])) := Ex.new (by rw [upd_ne (Ne.symm hn)]; exact hy)
    have e3 := e1.trans e2
    obtain ⟨as, hs⟩ := fit_start (N.length - ps.length) (hf.ex e3)
    refine ⟨RB _ _, pss_RB, ?_⟩
    refine body a cdv A outer s _ H1 E y dx as _ hy hdx hok hr ht (fun σ H' e h => hq H' e h) _ _ ⟨e3, e3.tab ht, ?_, trivial⟩
    unfold L2.start
    have hl2 : N.length - (V.ref y :: ws).length = N.length - ps.length := by rw [List.length_cons, ← hf.length, hl]
    rw [hl2]
    exact ⟨⟨.ref y, rfl, rfl, hn, [], ⟨.inl ⟨upd_same, rfl⟩, y, .inl (by rw [upd_ne hn, upd_same])⟩, IsO.nil⟩, hs⟩
end
theorem sum_cast : ∀ l : List Nat, (l.map fun n : Nat => (n : Int)).sum = ((l.sum : Nat) : Int)
  | [] => rfl
  | a :: l => by rw [List.map_cons, List.sum_cons, List.sum_cons, sum_cast l, Int.natCast_add]
/-- a list, wherever -/
def anyL (Ts : List Im) : Rs := ⟨fun _ v H => ∃ a, (tL a Ts).is v H, fun _ ⟨a, h⟩ e => ⟨a, (tL a Ts).ex e h⟩⟩
/-- pairs (place, number) of a row -/
def enumK (r : List Nat) : List Im := (List.range r.length).map fun i => kT [kN i, kN (r.getD i 0)]
theorem enumK_len {r : List Nat} : (enumK r).length = r.length := by unfold enumK; rw [List.length_map, List.length_range]
theorem enumK_at {r : List Nat} {i : Nat} {T : Im} (h : (enumK r)[i]? = some T) : T = kT [kN i, kN (r.getD i 0)] ∧ i < r.length := by
  unfold enumK at h
  rw [List.getElem?_map] at h
  by_cases hi : i < r.length
  · rw [List.getElem?_range hi] at h
    exact ⟨(Option.some.inj h).symm, hi⟩
  · rw [List.getElem?_eq_none (by simpa using hi)] at h
    cases h
/-- pairs of two rows -/
def zipK (r s : List Nat) : List Im := (List.range r.length).map fun i => kT [kN (r.getD i 0), kN (s.getD i 0)]
theorem zipK_len {r s : List Nat} : (zipK r s).length = r.length := by unfold zipK; rw [List.length_map, List.length_range]
theorem zipK_at {r s : List Nat} {i : Nat} {T : Im} (h : (zipK r s)[i]? = some T) : T = kT [kN (r.getD i 0), kN (s.getD i 0)] ∧ i < r.length := by
  unfold zipK at h
  rw [List.getElem?_map] at h
  by_cases hi : i < r.length
  · rw [List.getElem?_range hi] at h
    exact ⟨(Option.some.inj h).symm, hi⟩
  · rw [List.getElem?_eq_none (by simpa using hi)] at h
    cases h
theorem vn_at {r : List Nat} {i : Nat} {v : V} (h : (r.map vn)[i]? = some v) : v = .int ((r.getD i 0 : Nat) : Int) := by
  rw [List.getElem?_map] at h
  by_cases hi : i < r.length
  · rw [List.getElem?_eq_getElem hi] at h
    rw [List.getD_eq_getElem?_getD, List.getElem?_eq_getElem hi]
    exact (Option.some.inj h).symm
  · rw [List.getElem?_eq_none (by omega)] at h
    cases h
section
variable {tb : Tb} {X : Cx} {H0 : Hp} {G : List (Option Ty)} {D : List (V × Ty)} {a b c e : Expr} {es elts : List Expr} {R R1 R2' : Rs} {T U : Ty} {pos p p' tpos apos : Pos} {n m kk : Nat} {i j : Int} {x : Str} {Ts Us : List Im} {r s : List Nat} {z : Addr} {K : Im} {rest : List Stmt} {E : Ends}
theorem i_enumT (hm : X.mg "enumerate" = none) (he : EV tb X G a (val (tRow r))) (hg : Gl X "enumerate" := by rfl) (hs : starEach [a] X.env = [(false, eval a X.env)] := by rfl) : EI tb X G (.Tuple elts kk tpos) (.Call (.Name "enumerate" p) [a] [] pos) (enumK r) [] := fun σ H t f R k =>
  toI (pi_enumT hg hm (pa_cons pe_RE pa_nil (by rw [hs]; rfl)) hs) (he σ H t f _ fun v H1 e1 ⟨q, xs, ev, hx, hA⟩ => by
    have hxs : xs = r.map vn := hA.nums
    subst hxs
    refine ⟨q, r.map vn, by rw [ev], SqT.of hx, k _ H1 [(.ref q, tTx q (r.map vn) (r.map kN))] _ _ e1 (by rw [enumK_len, ← List.length_map (f := vn)]; exact walk_enumT) ⟨⟨rfl, hx, hA⟩, trivial⟩ (fun i T b hT hb _ => ⟨(fun q => nomatch q), trivial⟩) (fun H2 h => SqT.of h.1.2.1) ?_⟩
    rintro i T H2 v H3 hT h ⟨y, u1, u2, rfl, hn, rfl, h1, h2⟩
    obtain ⟨rfl, _⟩ := enumK_at hT
    refine ⟨Ex.new hn, y, [u1, u2], rfl, upd_same, ?_, ?_, trivial⟩
    · exact (Option.some.inj h1).symm
    · exact vn_at h2)
theorem i_zipTL (hm : X.mg "zip" = none) (ha : EV tb X G a (val (tRow r))) (hb : EV tb X G b (val (tL z (s.map kN)))) (hl : r.length = s.length) (hg : Gl X "zip" := by rfl) (hs : starEach [a, b] X.env = (false, eval a X.env) :: starEach [b] X.env := by rfl) (hs2 : starEach [b] X.env = (false, eval b X.env) :: starEach [] X.env := by rfl)
    (hpl : (backTo pos (starEach [b] X.env)).any (·.1) = false := by rfl) : EI tb X G (.Tuple elts kk tpos) (.Call (.Name "zip" p) [a, b] [] pos) (zipK r s) [z] := fun σ H t f R k =>
  toI (pi_zipTL hg hm (pa_cons pe_RE (pa_cons pe_RE pa_nil hs2) hs) hs hpl) (ha σ H t f _ fun v H1 e1 h1 => hb σ H1 (e1.tab t) (f.ex e1) _ fun u H2 e2 ⟨eu, ys, hy, hB⟩ => by
    obtain ⟨q, xs, ev, hx, hA⟩ := (tRow r).ex e2 h1
    have hxs : xs = r.map vn := hA.nums
    have hys : ys = s.map vn := hB.nums
    subst hxs hys
    have wl : Walk (ItzTL X.K q z) (r.map vn).length (fun H => SqT X.K H q (r.map vn) ∧ SqL X.K H z (s.map vn)) (YPair (fun i => (r.map vn)[i]?) (fun i => (s.map vn)[i]?)) := walk_zipTL (xs := r.map vn) (ys := s.map vn) (by rw [List.length_map, List.length_map]; exact hl)
    have el : (zipK r s).length = (r.map vn).length := by rw [zipK_len, List.length_map]
    refine ⟨q, z, r.map vn, s.map vn, by rw [ev, eu], SqT.of hx, SqL.of hy, k _ H2 [(.ref z, tLx z (s.map vn) (s.map kN)), (.ref q, tTx q (r.map vn) (r.map kN))] (fun H => SqT X.K H q (r.map vn) ∧ SqL X.K H z (s.map vn)) (YPair (fun i => (r.map vn)[i]?) (fun i => (s.map vn)[i]?)) (e1.trans e2) (by rw [el]; exact wl) ⟨⟨rfl, hy, hB⟩, ⟨rfl, hx, hA⟩, trivial⟩ (fun i T b hT hb hz => ⟨hz, (fun q => nomatch q), trivial⟩) (fun H2 h => ⟨SqT.of h.2.1.2.1, SqL.of h.1.2.1⟩) ?_⟩
    rintro i T H2 v H3 hT h ⟨y, u1, u2, rfl, hn, rfl, h1, h2⟩
    obtain ⟨rfl, _⟩ := zipK_at hT
    refine ⟨Ex.new hn, y, [u1, u2], rfl, upd_same, ?_, ?_, trivial⟩
    · exact vn_at h1
    · exact vn_at h2)
/-- t[::-1] -/
theorem e_revT {k : Nat} {p1 p2 p3 : Pos} (ha : EV tb X G a (val (tT Ts))) : EV tb X G (.Subscript a (.Slice none none (some (.UnaryOp .USub (.Constant (.int 1) k p1) p2)) p3) pos) (val (tT Ts.reverse)) := fun σ H t f Q q =>
  toE (pe_revT pe_RE) (ha σ H t f _ fun v H1 e1 ⟨y, xs, ev, hx, hA⟩ => ⟨y, xs, ev, SqT.of hx, fun p hp => q _ _ (e1.trans (Ex.new hp)) ⟨p, _, rfl, upd_same, hA.rev.ex (tb := tb) (Ex.new hp)⟩⟩)
theorem e_revR {k : Nat} {p1 p2 p3 : Pos} (ha : EV tb X G a (val (tRow r))) : EV tb X G (.Subscript a (.Slice none none (some (.UnaryOp .USub (.Constant (.int 1) k p1) p2)) p3) pos) (val (tRow r.reverse)) := (e_revT ha).cast (by show _ = val (tT (r.reverse.map kN)); rw [List.map_reverse])
theorem EV.any (h : EV tb X G e (newL Ts)) : EV tb X G e (anyL Ts) := h.imp fun _ _ _ ⟨a, _, h⟩ => ⟨a, h⟩
theorem EV.anyL (h : EV tb X G e (val (tL z Ts))) : EV tb X G e (anyL Ts) := h.imp fun _ _ _ h => ⟨z, h⟩
/-- xs[::-1] -/
theorem e_revL {k : Nat} {p1 p2 p3 : Pos} (ha : EV tb X G a (anyL Ts)) : EV tb X G (.Subscript a (.Slice none none (some (.UnaryOp .USub (.Constant (.int 1) k p1) p2)) p3) pos) (newL Ts.reverse) := fun σ H t f Q q =>
  toE (pe_revL pe_RE) (ha σ H t f _ fun v H1 e1 ⟨y, ev, xs, hx, hA⟩ => ⟨y, xs, ev, SqL.of hx, fun p hp => q _ _ (e1.trans (Ex.new hp)) ⟨p, e1.dom p hp, rfl, _, upd_same, hA.rev.ex (tb := tb) (Ex.new hp)⟩⟩)
/-- xs + ys -/
theorem e_catL (ha : EV tb X G a (anyL Ts)) (hb : EV tb X G b (anyL Us)) (hz : Ts.length + Us.length ≤ 16000000) : EV tb X G (.BinOp a .Add b pos) (newL (Ts ++ Us)) := e_op op_cat (fun H v H1 u H2 e1 h1 e2 h2 Q k => by
  obtain ⟨y, ev, xs, hx, hA⟩ := (anyL Ts).mono Ex.refl h1 e2
  obtain ⟨y', ev', ys, hy, hB⟩ := h2
  have l1 := hA.length
  have l2 := hB.length
  exact ⟨y, y', xs, ys, ev, ev', hx, hy, by rw [sizeLine_eq]; omega, fun p hp => k _ _ (Ex.new hp) ⟨p, e1.dom p (e2.dom p hp), rfl, _, upd_same, (hA.app hB).ex (tb := tb) (Ex.new hp)⟩⟩) ha hb
/-- xs * n -/
theorem e_repL (ha : EV tb X G a (anyL Ts)) (hb : EV tb X G b (val (tI i))) (hz : Ts.length * i.toNat ≤ 16000000) (hi : -(2 ^ 62) ≤ i ∧ i < 2 ^ 62) : EV tb X G (.BinOp a .Mult b pos) (newL (List.replicate i.toNat Ts).flatten) := e_op op_rep (fun H v H1 u H2 e1 h1 e2 h2 Q k => by
  obtain ⟨y, ev, xs, hx, hA⟩ := (anyL Ts).mono Ex.refl h1 e2
  cases h2
  have l1 := hA.length
  refine ⟨y, i, xs, ev, rfl, hx, by omega, by omega, by rw [← l1, sizeLine_eq]; omega, fun p hp => k _ _ (Ex.new hp) ⟨p, e1.dom p (e2.dom p hp), rfl, _, upd_same, (hA.rep _).ex (tb := tb) (Ex.new hp)⟩⟩) ha hb
/-- t + u -/
theorem e_catT (ha : EV tb X G a (val (tT Ts))) (hb : EV tb X G b (val (tT Us))) (hz : Ts.length + Us.length ≤ 1000) : EV tb X G (.BinOp a .Add b pos) (val (tT (Ts ++ Us))) := e_op op_catA (rr_cat.resolve_right (fun h => h hz)) ha hb
/-- t * n, n at most 1 -/
theorem e_repT01 (ha : EV tb X G a (val (tT Ts))) (hb : EV tb X G b (val (tN n))) (hn : n ≤ 1) (hne : Ts ≠ []) : EV tb X G (.BinOp a .Mult b pos) (val (tT (List.replicate n Ts).flatten)) := e_op op_rep01 (fun H v H1 u H2 e1 h1 e2 h2 Q k => by
  obtain ⟨y, xs, ev, hx, hA⟩ := (tT Ts).ex e2 h1
  have h2 : u = .int (n : Int) := h2
  have l1 := hA.length
  refine ⟨y, (n : Int), xs, ev, h2, SqT.of hx, fun z => hne (by rw [z] at l1; exact List.eq_nil_of_length_eq_zero l1), ?_⟩
  have hc : n = 0 ∨ n = 1 := by omega
  rcases hc with rfl | rfl
  · exact .inl ⟨rfl, fun p hp => k _ _ (Ex.new hp) ⟨p, [], rfl, upd_same, trivial⟩⟩
  · refine .inr ⟨rfl, k _ _ Ex.refl ⟨y, xs, rfl, hx, ?_⟩⟩
    have e0 : (List.replicate 1 Ts).flatten = Ts := by simp
    rw [e0]; exact hA) ha hb
/-- len of any list -/
theorem e_lenA (hm : X.mg "len" = none) (ha : EV tb X G a (anyL Ts)) (hg : Gl X "len" := by rfl) (hs : starEach [a] X.env = (false, eval a X.env) :: starEach [] X.env := by rfl) : EV tb X G (.Call (.Name "len" p) [a] [] pos) (val (tN Ts.length)) :=
  e_callB call_len_seq hm PySem.boot_len rc_len1 (ea_cons ha (fun _ _ _ ⟨y, q⟩ => ⟨y, q⟩) ea_nil hs) hg (by decide) (by decide) hs
/-- max(i, j) -/
theorem e_max (hc : X.calm = true) (hm : X.mg "max" = none) (ha : EV tb X G a (val (tI i))) (hb : EV tb X G b (val (tI j))) (hg : Gl X "max" := by rfl) (hs : starEach [a, b] X.env = (false, eval a X.env) :: starEach [b] X.env := by rfl) (hs2 : starEach [b] X.env = (false, eval b X.env) :: starEach [] X.env := by rfl)
    (hpl : (backTo pos (starEach [b] X.env)).any (·.1) = false := by rfl) : EV tb X G (.Call (.Name "max" p) [a, b] [] pos) (val (tI (if j > i then j else i))) :=
  e_callB (As := [ag (tI i), ag (tI j)]) (call_max2 hc) hm (by decide +kernel) (fun H vs H1 e1 hf Q k => by
    match vs, hf with
    | [u, v], ⟨⟨_, h1⟩, ⟨_, h2⟩, _⟩ =>
      cases h1; cases h2
      exact ⟨i, j, rfl, k _ _ Ex.refl rfl⟩) (ea_v ha (ea_v hb ea_nil hs2) hs) hg (by decide) (by decide) hs hpl
/-- sum(xs) -/
theorem e_sum (hc : X.calm = true) (hm : X.mg "sum" = none) (ha : EV tb X G a (anyL (r.map kN))) (hg : Gl X "sum" := by rfl) (hs : starEach [a] X.env = (false, eval a X.env) :: starEach [] X.env := by rfl) : EV tb X G (.Call (.Name "sum" p) [a] [] pos) (val (tN r.sum)) :=
  e_callB (cr_sum hc) hm (by decide +kernel) (fun H vs H1 e1 hf Q k => by
    match vs, hf with
    | [u], ⟨⟨y, h1⟩, _⟩ =>
      obtain ⟨ev, xs, hx, hA⟩ := h1
      have hxs : xs = r.map vn := hA.nums
      subst hxs
      refine ⟨y, r.map fun n : Nat => (n : Int), by rw [ev], SqL.of (by rw [hx, List.map_map]; rfl), k _ _ Ex.refl ?_⟩
      show V.int _ = V.int _
      congr 1
      exact sum_cast r) (ea_cons (As := []) (A := agL (r.map kN)) ha (fun _ _ _ ⟨y, q⟩ => ⟨y, q⟩) ea_nil hs) hg (by decide) (by decide) hs
/-- str(n) -/
theorem e_strN (hm : X.mg "str" = none) (hn : n < 100) (ha : EV tb X G a (val (tN n))) (hg : Gl X "str" := by rfl) (hs : starEach [a] X.env = (false, eval a X.env) :: starEach [] X.env := by rfl) : EV tb X G (.Call (.Name "str" p) [a] [] pos) (val (kS 3).ty) :=
  e_callT (As := [ag (tN n)]) call_str_int hm (by decide +kernel) (fun H vs H1 e1 hf Q k => by
    match vs, hf with
    | [u], ⟨⟨y, h1⟩, _⟩ =>
      cases h1
      refine ⟨(n : Int), rfl, ?_, k _ _ Ex.refl ⟨_, rfl, ?_⟩⟩
      · show n.log2 < 1920
        exact Nat.lt_of_le_of_lt (Nat.log2_le_self n) (by omega)
      · have : ∀ n : Nat, n < 100 → (Str.ofString (toString (n : Int))).length ≤ 3 := by decide +kernel
        exact this n hn) (ea_v ha ea_nil hs) hg (by decide) (by decide) hs
end
end Tw
end STwL
section STwM
set_option Elab.async false
set_option linter.all false
set_option maxRecDepth 100000
set_option maxHeartbeats 4000000
/-! == and != of rows, lists; joined texts. -/
namespace Tw
open PySem PySem.Spec PyProof.Rows L2
/-- the data that such a value is -/
def DpE (X : Cx) (R : Rs) (P : PyData → Prop) : Prop := ∀ (H0 : Hp) (v : V) (H : Hp), R.is H0 v H → ∃ d, P d ∧ SeqAt.shaped d = true ∧ Dp X.K H v d
def DpI (X : Cx) (T : Im) (d : PyData) : Prop := d.canLay0 = true ∧ ∀ (v : V) (H : Hp), T.is v H → Dp X.K H v d
inductive DpIs (X : Cx) : List Im → List PyData → Prop
  | nil : DpIs X [] []
  | cons {T : Im} {d : PyData} {Ts : List Im} {ds : List PyData} (h : DpI X T d) (r : DpIs X Ts ds) : DpIs X (T :: Ts) (d :: ds)
section
variable {X : Cx} {H : Hp}
theorem DpIs.all : ∀ {Ts : List Im} {ds : List PyData} {xs : List V}, DpIs X Ts ds → All Ts xs H → DpAll X.K H xs ds
  | [], [], [], .nil, _ => .nil
  | _ :: _, _ :: _, _ :: _, .cons h r, a => .cons (h.2 _ _ a.1) (DpIs.all r a.2)
  | [], [], _ :: _, _, a => a.elim
  | _ :: _, _, [], _, a => a.elim
theorem DpIs.can : ∀ {Ts : List Im} {ds : List PyData}, DpIs X Ts ds → PyData.canLayAll0 ds = true
  | [], [], .nil => by simp [PyData.canLayAll0]
  | _ :: _, _ :: _, .cons h r => by simp [PyData.canLayAll0, h.1, DpIs.can r]
theorem dpI_n (n : Nat) : DpI X (kN n) (.int (n : Int)) := ⟨by simp [PyData.canLay0], fun v H h => by rw [show v = .int (n : Int) from h]; exact .int _⟩
theorem dpI_t {Ts : List Im} {ds : List PyData} (h : DpIs X Ts ds) : DpI X (kT Ts) (.tuple ds) := ⟨by simp [PyData.canLay0, h.can], fun v H ⟨e, xs, ev, hx, hA⟩ => by rw [ev]; exact .tup (SqT.of hx) (h.all hA)⟩
theorem dpIs_map {α : Type} (f : α → Im) (g : α → PyData) (h : ∀ a, DpI X (f a) (g a)) : ∀ l : List α, DpIs X (l.map f) (l.map g)
  | [] => .nil
  | a :: l => .cons (h a) (dpIs_map f g h l)
def rowD (r : List Nat) : PyData := .tuple (r.map fun n : Nat => .int (n : Int))
theorem can_row (r : List Nat) : (rowD r).canLay0 = true := by
  unfold rowD
  simp only [PyData.canLay0]
  induction r with
  | nil => simp [PyData.canLayAll0]
  | cons a l ih => simp [PyData.canLayAll0, PyData.canLay0, ih]
theorem dpI_row (r : List Nat) : DpI X (kRow r) (rowD r) := dpI_t (dpIs_map kN _ dpI_n r)
theorem depthAll_map {α : Type} (g : α → PyData) (k : Nat) (h : ∀ a, (g a).depth ≤ k) : ∀ l : List α, PyData.depthAll (l.map g) ≤ k
  | [] => by simp [PyData.depthAll]
  | a :: l => by
    have h1 := h a
    have h2 := depthAll_map g k h l
    simp only [List.map_cons, PyData.depthAll]
    omega
theorem depth_row (r : List Nat) : (rowD r).depth ≤ 1 := by
  unfold rowD
  simp only [PyData.depth]
  have := depthAll_map (fun n : Nat => PyData.int (n : Int)) 0 (fun a => by simp [PyData.depth]) r
  omega
theorem shaped_row (r : List Nat) : SeqAt.shaped (rowD r) = true := by
  unfold SeqAt.shaped
  rw [can_row r, decide_eq_true (Nat.le_trans (depth_row r) (by decide))]
  rfl
theorem eqvAll_map {α : Type} [DecidableEq α] (g : α → PyData) (h : ∀ a b, PyData.eqv (g a) (g b) = decide (a = b)) : ∀ l m : List α, PyData.eqvAll (l.map g) (m.map g) = decide (l = m)
  | [], [] => by simp [PyData.eqvAll]
  | [], _ :: _ => by simp [PyData.eqvAll]
  | _ :: _, [] => by simp [PyData.eqvAll]
  | a :: l, b :: m => by
    simp only [List.map_cons, PyData.eqvAll]
    rw [h a b, eqvAll_map g h l m]
    by_cases h1 : a = b
    · by_cases h2 : l = m
      · simp [h1, h2]
      · simp [h1, h2]
    · simp [h1]
theorem eqv_row (r s : List Nat) : PyData.eqv (rowD r) (rowD s) = decide (r = s) := by
  unfold rowD
  simp only [PyData.eqv]
  refine eqvAll_map _ (fun a b => ?_) r s
  simp only [PyData.eqv]
  by_cases h : a = b
  · simp [h]
  · simp [h]; omega
/-- a row and a number -/
def pairD (p : List Nat × Nat) : PyData := .tuple [rowD p.1, .int (p.2 : Int)]
abbrev kPair (p : List Nat × Nat) : Im := kT [kRow p.1, kN p.2]
theorem dpI_pair (p : List Nat × Nat) : DpI X (kPair p) (pairD p) := dpI_t (.cons (dpI_row _) (.cons (dpI_n _) .nil))
theorem eqv_pair (p q : List Nat × Nat) : PyData.eqv (pairD p) (pairD q) = decide (p = q) := by
  unfold pairD
  simp only [PyData.eqv, PyData.eqvAll, eqv_row]
  obtain ⟨a, b⟩ := p
  obtain ⟨c, d⟩ := q
  by_cases h : a = c
  · by_cases h2 : b = d
    · simp [h, h2]
    · simp [h, h2]; omega
  · simp [h]
theorem depth_pair (p : List Nat × Nat) : (pairD p).depth ≤ 2 := by
  unfold pairD
  have := depth_row p.1
  simp only [PyData.depth, PyData.depthAll]
  omega
theorem dpE_row (r : List Nat) : DpE X (val (tRow r)) (· = rowD r) := fun H0 v H h => ⟨_, rfl, shaped_row r, (dpI_row r).2 v H h⟩
theorem dpE_listI {Ts : List Im} {ds : List PyData} (hI : DpIs X Ts ds) (hd : PyData.depthAll ds ≤ 60) : DpE X (anyL Ts) (· = .list ds) := fun H0 v H ⟨a, ev, xs, hx, hA⟩ => by
  refine ⟨_, rfl, ?_, by rw [ev]; exact .lst (SqL.of hx) (hI.all hA)⟩
  unfold SeqAt.shaped
  have h2 : (PyData.list ds).depth ≤ 64 := by simp only [PyData.depth]; omega
  have h3 : (PyData.list ds).canLay0 = true := by simp only [PyData.canLay0]; exact hI.can
  rw [h3, decide_eq_true h2]
  rfl
theorem dpE_list {α : Type} (f : α → Im) (g : α → PyData) (k : Nat) (hk : k ≤ 60) (h : ∀ a, DpI X (f a) (g a)) (hd : ∀ a, (g a).depth ≤ k) (l : List α) : DpE X (anyL (l.map f)) (· = .list (l.map g)) := dpE_listI (dpIs_map f g h l) (Nat.le_trans (depthAll_map g k hd l) hk)
theorem dpE_nums (r : List Nat) : DpE X (anyL (r.map kN)) (· = .list (r.map fun n : Nat => .int (n : Int))) := dpE_list kN _ 0 (by decide) dpI_n (fun a => by simp [PyData.depth]) r
theorem dpE_rows (l : List (List Nat)) : DpE X (anyL (l.map kRow)) (· = .list (l.map rowD)) := dpE_list kRow rowD 1 (by decide) dpI_row depth_row l
theorem dpE_pairs (l : List (List Nat × Nat)) : DpE X (anyL (l.map kPair)) (· = .list (l.map pairD)) := dpE_list kPair pairD 2 (by decide) dpI_pair depth_pair l
theorem eqv_nums (r s : List Nat) : PyData.eqv (.list (r.map fun n : Nat => .int (n : Int))) (.list (s.map fun n : Nat => .int (n : Int))) = decide (r = s) := by
  simp only [PyData.eqv]
  refine eqvAll_map _ (fun a b => ?_) r s
  simp only [PyData.eqv]
  by_cases h : a = b
  · simp [h]
  · simp [h]; omega
theorem eqv_rows (l m : List (List Nat)) : PyData.eqv (.list (l.map rowD)) (.list (m.map rowD)) = decide (l = m) := by
  simp only [PyData.eqv]
  exact eqvAll_map _ eqv_row l m
theorem eqv_pairs (l m : List (List Nat × Nat)) : PyData.eqv (.list (l.map pairD)) (.list (m.map pairD)) = decide (l = m) := by
  simp only [PyData.eqv]
  exact eqvAll_map _ eqv_pair l m
abbrev kSx (s : Str) : Im := kC (.str s)
theorem dpIs_strs : ∀ l : List Str, (∀ s ∈ l, PyData.strOk s = true) → DpIs X (l.map kSx) (l.map PyData.str)
  | [], _ => .nil
  | s :: l, h => .cons ⟨by simp only [PyData.canLay0]; exact h s List.mem_cons_self, fun v H q => by rw [show v = .str s from q]; exact .str s⟩ (dpIs_strs l fun s hs => h s (List.mem_cons_of_mem _ hs))
theorem dpE_strs (l : List Str) (h : ∀ s ∈ l, PyData.strOk s = true) : DpE X (anyL (l.map kSx)) (· = .list (l.map PyData.str)) :=
  dpE_listI (dpIs_strs l h) (Nat.le_trans (depthAll_map PyData.str 0 (fun a => by simp [PyData.depth]) l) (by decide))
theorem eqv_strs0 (l : List Str) : PyData.eqv (.list (l.map PyData.str)) (.list (([] : List Nat).map fun n : Nat => .int (n : Int))) = decide (l = []) := by
  simp only [PyData.eqv]
  cases l with
  | nil => simp [PyData.eqvAll]
  | cons a l => simp [PyData.eqvAll]
end
section
variable {tb : Tb} {X : Cx} {G : List (Option Ty)} {a b e : Expr} {R1 R2' : Rs} {P1 P2 : PyData → Prop} {pos p apos : Pos} {d : Bool} {k : Nat} {r s : List Nat}
theorem rr_eqD (h1 : DpE X R1 P1) (h2 : DpE X R2' P2) (hd : ∀ x y, P1 x → P2 y → PyData.eqv x y = d) : RR tb (rEqD X.K) R1 R2' (val (tB d)) := fun H x H1 y H2 e1 q1 e2 q2 Q k => by
  obtain ⟨d1, p1, s1, r1⟩ := h1 H x H2 (R1.mono Ex.refl q1 e2)
  obtain ⟨d2, p2, s2, r2⟩ := h2 _ y H2 q2
  exact ⟨d1, d2, r1, r2, s1, s2, k _ _ Ex.refl (by rw [hd _ _ p1 p2]; rfl)⟩
theorem rr_neD (h1 : DpE X R1 P1) (h2 : DpE X R2' P2) (hd : ∀ x y, P1 x → P2 y → PyData.eqv x y = d) : RR tb (rNeD X.K) R1 R2' (val (tB (!d))) := fun H x H1 y H2 e1 q1 e2 q2 Q k => by
  obtain ⟨d1, p1, s1, r1⟩ := h1 H x H2 (R1.mono Ex.refl q1 e2)
  obtain ⟨d2, p2, s2, r2⟩ := h2 _ y H2 q2
  exact ⟨d1, d2, r1, r2, s1, s2, k _ _ Ex.refl (by rw [hd _ _ p1 p2]; rfl)⟩
/-- row == row -/
theorem t_eqR (hr : Room k X.A) (ha : EV tb X G a (val (tRow r))) (hb : EV tb X G b (val (tRow s))) (hm : behindInMarks .Eq b = false := by first | exact nomark _ | rfl) : EVT tb X G (.Compare a [.Eq] [b] pos) (decide (r = s)) :=
  t_cmp (op_eqD hr.units) (rr_eqD (dpE_row r) (dpE_row s) fun x y h1 h2 => by rw [h1, h2, eqv_row]) ha hb hm
theorem e_eqR (hr : Room k X.A) (ha : EV tb X G a (val (tRow r))) (hb : EV tb X G b (val (tRow s))) (hm : behindInMarks .Eq b = false := by first | exact nomark _ | rfl) : EV tb X G (.Compare a [.Eq] [b] pos) (val (tB (decide (r = s)))) :=
  e_cmp (op_eqD hr.units) (rr_eqD (dpE_row r) (dpE_row s) fun x y h1 h2 => by rw [h1, h2, eqv_row]) ha hb hm
theorem e_neR (hr : Room k X.A) (ha : EV tb X G a (val (tRow r))) (hb : EV tb X G b (val (tRow s))) (hm : behindInMarks .NotEq b = false := by first | exact nomark _ | rfl) : EV tb X G (.Compare a [.NotEq] [b] pos) (val (tB (!decide (r = s)))) :=
  e_cmp (op_neD hr.units) (rr_neD (dpE_row r) (dpE_row s) fun x y h1 h2 => by rw [h1, h2, eqv_row]) ha hb hm
/-- () -/
theorem e_nilR {k : Nat} : EV tb X G (.Tuple [] k pos) (val (tRow [])) := e_tup em_nil
/-- xs != [] -/
theorem t_neNums (hr : Room k X.A) (ha : EV tb X G a (anyL (r.map kN))) {kk : Nat} {p2 : Pos} (hm : behindInMarks .NotEq (.List [] p2) = false := by first | exact nomark _ | rfl) : EVT tb X G (.Compare a [.NotEq] [.List [] p2] pos) (!decide (r = [])) :=
  t_cmp (op_neD hr.units) (rr_neD (dpE_nums r) (dpE_nums []) fun x y h1 h2 => by rw [h1, h2, eqv_nums]) ha (EV.any (e_lst em_nil)) hm
theorem t_neRows (hr : Room k X.A) {l : List (List Nat)} (ha : EV tb X G a (anyL (l.map kRow))) {p2 : Pos} (hm : behindInMarks .NotEq (.List [] p2) = false := by first | exact nomark _ | rfl) : EVT tb X G (.Compare a [.NotEq] [.List [] p2] pos) (!decide (l = [])) :=
  t_cmp (op_neD hr.units) (rr_neD (dpE_rows l) (dpE_rows []) fun x y h1 h2 => by rw [h1, h2, eqv_rows]) ha (EV.any (e_lst em_nil)) hm
theorem t_nePairs (hr : Room k X.A) {l m : List (List Nat × Nat)} (ha : EV tb X G a (anyL (l.map kPair))) (hb : EV tb X G b (anyL (m.map kPair))) (hm : behindInMarks .NotEq b = false := by first | exact nomark _ | rfl) : EVT tb X G (.Compare a [.NotEq] [b] pos) (!decide (l = m)) :=
  t_cmp (op_neD hr.units) (rr_neD (dpE_pairs l) (dpE_pairs m) fun x y h1 h2 => by rw [h1, h2, eqv_pairs]) ha hb hm
theorem t_neStrs {l : List Str} (h : ∀ s ∈ l, PyData.strOk s = true) (hr : Room k X.A) (ha : EV tb X G a (anyL (l.map kSx))) {p2 : Pos} (hm : behindInMarks .NotEq (.List [] p2) = false := by first | exact nomark _ | rfl) : EVT tb X G (.Compare a [.NotEq] [.List [] p2] pos) (!decide (l = [])) :=
  t_cmp (op_neD hr.units) (rr_neD (dpE_strs l h) (dpE_nums []) fun x y h1 h2 => by rw [h1, h2, eqv_strs0]) ha (EV.any (e_lst em_nil)) hm
/-! ### exact texts -/
/-- the parts of an f-string, told -/
def EJx (tb : Tb) (X : Cx) (G : List (Option Ty)) (es : List Expr) (ss : List Str) : Prop :=
  ∀ (σ : L2.St) (H : Hp), Tbl tb H → Fit H G σ → ∀ (acc : Str) (Q : Str → Hp → Prop), (∀ H', Ex tb H H' → Q (ss.foldl (· ++ ·) acc) H') → acc.length + (ss.map (·.length)).sum ≤ 1000000 → tJs (es.map (RE X)) acc σ H Q
theorem ejx_nil : EJx tb X G [] [] := fun σ H t ff acc Q k _ => k H Ex.refl
theorem ejx_cons {s : Str} {ss : List Str} {es : List Expr} (h : EV tb X G e (val (tS s))) (hr : EJx tb X G es ss) : EJx tb X G (e :: es) (s :: ss) := fun σ H t ff acc Q k hn =>
  h σ H t ff _ fun v H1 e1 ev => by
    rw [List.map_cons, List.sum_cons] at hn
    exact ⟨s, ev, by rw [str_app_len, sizeLine_eq]; omega, hr σ H1 (e1.tab t) (ff.ex e1) _ _ (fun H2 e2 => k H2 (e1.trans e2)) (by rw [str_app_len]; omega)⟩
theorem e_joinX {ss : List Str} {v1 v2 : Expr} {rest : List Expr} (h : EJx tb X G (v1 :: v2 :: rest) ss) (hN : (ss.map (·.length)).sum ≤ 1000000) : EV tb X G (.JoinedStr (v1 :: v2 :: rest) pos) (val (tS (ss.foldl (· ++ ·) Str.empty))) := fun σ H t ff Q q =>
  toE (pe_joined (pj_RE _)) (h σ H t ff _ _ (fun H' e' => q _ H' e' rfl) (by show 0 + _ ≤ _; omega))
theorem e_fmtX {s : Str} (h : EV tb X G e (val (tS s))) (hN : s.length ≤ 1000000) : EV tb X G (.FormattedValue e (-1) none pos) (val (tS s)) := fun σ H t ff Q q =>
  toE (pe_fmt pe_RE) (h σ H t ff _ fun v H1 e1 ev => .inl ⟨s, ev, by rw [sizeLine_eq]; omega, q _ H1 e1 rfl⟩)
theorem e_fmtN {n : Nat} (h : EV tb X G e (val (tN n))) (hn : n < 1000) : EV tb X G (.FormattedValue e (-1) none pos) (val (tS (toString (n : Int) : String))) := fun σ H t ff Q q =>
  toE (pe_fmt pe_RE) (h σ H t ff _ fun v H1 e1 ev => .inr ⟨(n : Int), ev, by
    show n.log2 < 1920
    exact Nat.lt_of_le_of_lt (Nat.log2_le_self n) (by omega), q _ H1 e1 rfl⟩)
theorem e_strX {n : Nat} (hm : X.mg "str" = none) (hn : n < 1000) (ha : EV tb X G a (val (tN n))) (hg : Gl X "str" := by rfl) (hs : starEach [a] X.env = (false, eval a X.env) :: starEach [] X.env := by rfl) : EV tb X G (.Call (.Name "str" p) [a] [] pos) (val (tS (toString (n : Int) : String))) :=
  e_callT (As := [ag (tN n)]) call_str_int hm (by decide +kernel) (fun H vs H1 e1 hf Q k => by
    match vs, hf with
    | [u], ⟨⟨y, h1⟩, _⟩ =>
      cases h1
      refine ⟨(n : Int), rfl, ?_, k _ _ Ex.refl rfl⟩
      show n.log2 < 1920
      exact Nat.lt_of_le_of_lt (Nat.log2_le_self n) (by omega)) (ea_v ha ea_nil hs) hg (by decide) (by decide) hs
theorem e_addS {s u : Str} (ha : EV tb X G a (val (tS s))) (hb : EV tb X G b (val (tS u))) (hz : s.length + u.length ≤ 1000000) : EV tb X G (.BinOp a .Add b pos) (val (tS (s ++ u))) := e_op op_add_str (fun H x H1 y H2 e1 h1 e2 h2 Q k => ⟨s, u, h1, h2, by rw [sizeLine_eq]; omega, k _ _ Ex.refl rfl⟩) ha hb
theorem All.strs {H : Hp} : ∀ {l : List Str} {xs : List V}, All (l.map kSx) xs H → xs = l.map V.str
  | [], [], _ => rfl
  | s :: l, x :: xs, h => by
    have h1 : x = .str s := h.1
    rw [List.map_cons, h1, All.strs (l := l) h.2]
  | [], _ :: _, h => h.elim
  | _ :: _, [], h => h.elim
/-- sep.join(xs), its length alone -/
theorem e_joinL {sep : Str} {l : List Str} {N : Nat} {o : Expr} (ho : EV tb X G o (val (tS sep))) (ha : EV tb X G a (anyL (l.map kSx))) (hN : ((l.map (·.length)).sum + l.length * sep.length) ≤ N) (hz : N ≤ 1000000)
    (hs : starEach [a] X.env = [(false, eval a X.env)] := by rfl) (hbase : attributeBase o "join" X.env (eval o X.env) = eval o X.env := by rfl) (hline : (apos.endLine == pos.line) = true := by rfl) : EV tb X G (.Call (.Attribute o "join" apos) [a] [] pos) (val (kS N).ty) := fun σ H t ff Q q =>
  toE (pe_join pe_RE pe_RE hs hbase hline) (ho σ H t ff _ fun v H1 e1 h1 => ⟨⟨sep, h1⟩, ha σ H1 (e1.tab t) (ff.ex e1) _ fun u H2 e2 ⟨y, ey, xs, hx, hA⟩ => by
    have hxs : xs = l.map V.str := All.strs hA
    subst hxs
    refine ⟨sep, y, l, h1, by rw [ey], .inl (SqL.of hx), by omega, q _ H2 (e1.trans e2) ⟨_, rfl, ?_⟩⟩
    rw [show Txt.join sep l = Str.join sep l from StrLaws.glued_eq_join sep l]
    exact Nat.le_trans (StrLaws.join_length_le sep l) hN⟩)
end
end Tw
end STwM
section STwN
set_option Elab.async false
set_option linter.all false
set_option maxRecDepth 100000
set_option maxHeartbeats 4000000
/-! Rows of numbers: trim, number, inverse, rest, common divisor: what the defs compute. -/
namespace Tw
open PySem PySem.Spec PyProof.Rows L2
/-- a comprehension's block, checked -/
theorem blk_of (N' : List Str) (sc' : Scope) {N : List Str} {sc scope : Scope} {own : List (Str × Nat)} (h1 : N = N' := by rfl) (h2 : sc = sc' := by rfl)
    (h : scope.kind = .function ∧ (∀ y ∈ scope.names, scope.names.lookup y.1 = some y.2) ∧ (∀ p ∈ own, N'[p.2]? = some p.1) ∧ (∀ y ∈ scope.names, y.2 = .free → sc'.names.lookup y.1 = some .cell ∨ sc'.names.lookup y.1 = some .free) ∧
      (∀ y ∈ scope.names, y.2 = .local ∨ y.2 = .cell → y.1 ∈ own.map (·.1) ∨ y.1 ∉ N') := by decide +kernel) : BlkOk N sc scope own := by
  subst h1 h2
  exact ⟨h.1, h.2.1, h.2.2.1, h.2.2.2.1, h.2.2.2.2⟩
/-- without the zeros at its end -/
def trimN : List Nat → List Nat
  | [] => []
  | a :: l => match trimN l with
    | [] => if a = 0 then [] else [a]
    | b :: t => a :: b :: t
theorem trimN_snoc0 : ∀ l : List Nat, trimN (l ++ [0]) = trimN l
  | [] => rfl
  | a :: l => by
    show trimN (a :: (l ++ [0])) = trimN (a :: l)
    unfold trimN
    rw [trimN_snoc0 l]
theorem trimN_snoc {b : Nat} (hb : b ≠ 0) : ∀ l : List Nat, trimN (l ++ [b]) = l ++ [b]
  | [] => by
    show trimN [b] = [b]
    unfold trimN
    show (if b = 0 then [] else [b]) = [b]
    rw [if_neg hb]
  | a :: l => by
    show trimN (a :: (l ++ [b])) = a :: (l ++ [b])
    unfold trimN
    rw [trimN_snoc hb l]
    cases l <;> rfl
theorem take_snoc {l : List Nat} {k d : Nat} (h : l[k]? = some d) : l.take (k + 1) = l.take k ++ [d] := by
  rw [List.take_succ, h]; rfl
/-- the loop that trims: at k, the entry ahead of it told -/
theorem trim_step {r : List Nat} {k : Nat} (h : r[k]? = some 0) (e : trimN (r.take (k + 1)) = trimN r) : trimN (r.take k) = trimN r := by
  rw [← e, take_snoc h, trimN_snoc0]
theorem trim_done {r : List Nat} {k d : Nat} (h : r[k]? = some d) (hd : d ≠ 0) (e : trimN (r.take (k + 1)) = trimN r) : r.take (k + 1) = trimN r := by
  rw [← e, take_snoc h, trimN_snoc hd]
theorem trim_sub : ∀ (l : List Nat) (x : Nat), x ∈ trimN l → x ∈ l
  | [], x, h => h
  | a :: l, x, h => by
    unfold trimN at h
    have ih := trim_sub l x
    split at h
    · rename_i q
      split at h
      · cases h
      · rcases List.mem_singleton.mp h with rfl
        exact List.mem_cons_self
    · rename_i b t q
      rcases List.mem_cons.mp h with rfl | h
      · exact List.mem_cons_self
      · exact List.mem_cons_of_mem _ (ih (by rw [q]; exact h))
theorem trim_len : ∀ l : List Nat, (trimN l).length ≤ l.length
  | [] => Nat.le_refl _
  | a :: l => by
    have ih := trim_len l
    unfold trimN
    split
    · split
      · exact Nat.zero_le _
      · simp
    · rename_i b t q
      rw [q] at ih
      simp only [List.length_cons] at ih ⊢
      omega
theorem trim_last : ∀ l : List Nat, trimN l ≠ [] → ∃ d, (trimN l)[(trimN l).length - 1]? = some d ∧ d ≠ 0
  | [], h => absurd rfl h
  | a :: l, h => by
    unfold trimN at h ⊢
    have ih := trim_last l
    split
    · rename_i q
      rw [q] at h
      split
      · rename_i z
        simp [z] at h
      · rename_i z
        exact ⟨a, rfl, z⟩
    · rename_i b t q
      rw [q] at ih
      obtain ⟨d, h1, h2⟩ := ih (by simp)
      exact ⟨d, by simpa using h1, h2⟩
/-- entries below p, and not many -/
structure RowOk (p : Nat) (r : List Nat) : Prop where
  lt : ∀ x ∈ r, x < p
  len : r.length ≤ 20
theorem RowOk.at {p : Nat} {r : List Nat} (h : RowOk p r) {i d : Nat} (e : r[i]? = some d) : d < p := h.lt d (List.mem_of_getElem? e)
theorem RowOk.trim {p : Nat} {r : List Nat} (h : RowOk p r) : RowOk p (trimN r) := ⟨fun x hx => h.lt x (trim_sub r x hx), Nat.le_trans (trim_len r) h.len⟩
def lastN (r : List Nat) : Nat := r.getD (r.length - 1) 0
/-- the number of a row, base p -/
def numR (p : Nat) : List Nat → Nat
  | [] => 0
  | a :: l => numR p l * p + a
def numStep (p : Nat) (f e : Nat) : Nat := f * p + e
theorem numR_fold (p : Nat) : ∀ r : List Nat, r.reverse.foldl (numStep p) 0 = numR p r
  | [] => rfl
  | a :: l => by
    rw [List.reverse_cons, List.foldl_append, numR_fold p l]
    rfl
/-- foldl as far as i -/
theorem foldl_take {α : Type} (f : α → Nat → α) (z : α) (l : List Nat) {i d : Nat} (h : l[i]? = some d) : (l.take (i + 1)).foldl f z = f ((l.take i).foldl f z) d := by
  rw [take_snoc h, List.foldl_append]; rfl
theorem numR_lt {p : Nat} (hp : 0 < p) : ∀ r : List Nat, (∀ x ∈ r, x < p) → numR p r < p ^ r.length
  | [], _ => by show 0 < 1; decide
  | a :: l, h => by
    have ih := numR_lt hp l fun x hx => h x (List.mem_cons_of_mem _ hx)
    have ha := h a List.mem_cons_self
    show numR p l * p + a < p ^ (l.length + 1)
    rw [Nat.pow_succ]
    calc numR p l * p + a < numR p l * p + p := by omega
      _ = (numR p l + 1) * p := by rw [Nat.add_mul, Nat.one_mul]
      _ ≤ p ^ l.length * p := Nat.mul_le_mul_right _ ih
end Tw
end STwN
section STwQ1
set_option Elab.async false
set_option linter.all false
set_option maxRecDepth 100000
set_option maxHeartbeats 4000000
/-! Promises: rows, texts. -/
namespace Tw
open PySem PySem.Spec PyProof.Rows L2
theorem getD_at {r : List Nat} {k : Nat} (h : k < r.length) : r[k]? = some (r.getD k 0) := by
  rw [List.getD_eq_getElem?_getD, List.getElem?_eq_getElem h]; rfl
theorem drop_snoc {r : List Nat} {k : Nat} (h : k < r.length) : r.take (k + 1) = r.take k ++ [r.getD k 0] := take_snoc (getD_at h)
section
variable {P : Program} {w : World} {K : PySem.W.Frag} {mg : Str → Option Value} {base : Heap} {tb : Tb}
theorem sc_polyRow : FnScope ["row", "size"] ["row"] (defScope sPolyRow) := ⟨rfl, rfl, rfl, by decide +kernel, rfl, by decide +kernel, by decide +kernel⟩
/-- what the trimming loop tests -/
def trimT (r : List Nat) (k : Nat) : Bool := decide (0 < k) && decide (r.getD (k - 1) 0 = 0)
theorem trimT_no {r : List Nat} {k : Nat} (hk : k ≤ r.length) (e : trimN (r.take k) = trimN r) (h : trimT r k = false) : r.take k = trimN r := by
  cases k with
  | zero => rw [← e]; rfl
  | succ k =>
    have hne : r.getD k 0 ≠ 0 := by
      intro z
      have : trimT r (k + 1) = true := by
        unfold trimT
        rw [Nat.add_sub_cancel, decide_eq_true (Nat.succ_pos k), decide_eq_true z]
        rfl
      rw [this] at h
      cases h
    exact trim_done (getD_at hk) hne e
theorem trimT_yes {r : List Nat} {k : Nat} (hk : k ≤ r.length) (e : trimN (r.take k) = trimN r) (h : trimT r k = true) : 0 < k ∧ trimN (r.take (k - 1)) = trimN r := by
  unfold trimT at h
  rw [Bool.and_eq_true] at h
  have h1 := of_decide_eq_true h.1
  have h2 := of_decide_eq_true h.2
  refine ⟨h1, ?_⟩
  obtain ⟨k, rfl⟩ : ∃ j, k = j + 1 := ⟨k - 1, by omega⟩
  rw [Nat.add_sub_cancel] at h2 ⊢
  exact trim_step (by rw [getD_at hk, h2]) e
def pmPolyRow : Prm (List Nat) := ⟨fun r => [agL (r.map kN)], fun r => r.length ≤ 1000, fun r => val (tRow (trimN r))⟩
theorem ok_polyRow {f : Addr} {fd : FuncData} (B : Tx K mg) (F : Fun K "poly_row" "poly_row" sPolyRow f fd) : FN P w K mg base tb 1 f fd ["row"] pmPolyRow := by
  refine fun_tw F sc_polyRow (fun _ => rfl) ?_
  intro r cdv A outer s H0 E as D hok hr ht hD hX
  have nd := sc_polyRow.nd
  show BK tb _ H0 [some (tL (as 0) (r.map kN)), none] [] _ _
  refine b_set nd 1 (e_lenLR B.len (e_v 0 rfl)) ?_
  refine b_while (fun k => [some (tL (as 0) (r.map kN)), some (tN k)]) (fun k => k ≤ r.length ∧ trimN (r.take k) = trimN r) (fun k => k) (trimT r) r.length ⟨Nat.le_refl _, by rw [List.take_length]⟩ (Wk.refl _) ?_ ?_ ?_
  · intro k ⟨hk, _⟩
    refine t_and (t_gt (e_v 1 rfl) (e_n 0)) fun h => ?_
    have h := of_decide_eq_true h
    exact t_eq (e_ixLR (e_v 0 rfl) (e_sub (e_v 1 rfl) (e_n 1) h) (getD_at (by omega))) (e_n 0)
  · intro k ⟨hk, e⟩ h
    obtain ⟨h1, h2⟩ := trimT_yes hk e h
    refine b_aug nd 1 (U := tN (k - 1)) rfl iop_sub (rr_subN h1) (e_n 1) ?_
    exact b_fall fun _ _ g => ⟨k - 1, ⟨by omega, h2⟩, by show k - 1 < k; omega, g⟩
  · intro k ⟨hk, e⟩ h
    refine b_ret (e_tupN B.tuple (e_takeL (e_v 0 rfl) (e_v 1 rfl))) ?_
    rw [← List.map_take, trimT_no hk e h]
    exact hD
def pmPolyRowT : Prm (List Nat) := ⟨fun r => [ag (tRow r)], fun r => r.length ≤ 1000, fun r => val (tRow (trimN r))⟩
theorem ok_polyRowT {f : Addr} {fd : FuncData} (B : Tx K mg) (F : Fun K "poly_row" "poly_row" sPolyRow f fd) : FN P w K mg base tb 1 f fd ["row"] pmPolyRowT := by
  refine fun_tw F sc_polyRow (fun _ => rfl) ?_
  intro r cdv A outer s H0 E as D hok hr ht hD hX
  have nd := sc_polyRow.nd
  show BK tb _ H0 [some (tRow r), none] [] _ _
  refine b_set nd 1 (e_lenR B.len (e_v 0 rfl)) ?_
  refine b_while (fun k => [some (tRow r), some (tN k)]) (fun k => k ≤ r.length ∧ trimN (r.take k) = trimN r) (fun k => k) (trimT r) r.length ⟨Nat.le_refl _, by rw [List.take_length]⟩ (Wk.refl _) ?_ ?_ ?_
  · intro k ⟨hk, _⟩
    refine t_and (t_gt (e_v 1 rfl) (e_n 0)) fun h => ?_
    have h := of_decide_eq_true h
    exact t_eq (e_ixR (e_v 0 rfl) (e_sub (e_v 1 rfl) (e_n 1) h) (getD_at (by omega))) (e_n 0)
  · intro k ⟨hk, e⟩ h
    obtain ⟨h1, h2⟩ := trimT_yes hk e h
    refine b_aug nd 1 (U := tN (k - 1)) rfl iop_sub (rr_subN h1) (e_n 1) ?_
    exact b_fall fun _ _ g => ⟨k - 1, ⟨by omega, h2⟩, by show k - 1 < k; omega, g⟩
  · intro k ⟨hk, e⟩ h
    refine b_ret (e_tupT B.tuple (e_takeT (e_v 0 rfl) (e_v 1 rfl))) ?_
    rw [← List.map_take, trimT_no hk e h]
    exact hD
/-! ### poly_number -/
theorem sc_polyNumber : FnScope ["prime", "row", "found", "entry"] ["prime", "row"] (defScope sPolyNumber) := ⟨rfl, rfl, rfl, by decide +kernel, rfl, by decide +kernel, by decide +kernel⟩
def pmPolyNumber : Prm (Nat × List Nat) := ⟨fun a => [ag (tN a.1), ag (tRow a.2)], fun a => a.1 ≤ 31, fun a => val (tN (numR a.1 a.2))⟩
theorem ok_polyNumber {f : Addr} {fd : FuncData} (B : Tx K mg) (F : Fun K "poly_number" "poly_number" sPolyNumber f fd) : FN P w K mg base tb 1 f fd ["prime", "row"] pmPolyNumber := by
  refine fun_tw F sc_polyNumber (fun _ => rfl) ?_
  rintro ⟨p, r⟩ cdv A outer s H0 E as D hok hr ht hD hX
  have hok : p ≤ 31 := hok
  have nd := sc_polyNumber.nd
  show BK tb _ H0 [some (tN p), some (tRow r), none, none] [] _ _
  refine b_set nd 2 (e_n 0) ?_
  refine b_for nd 3 (i_tup (e_revR (e_v 1 rfl))) (fun i (_ : Unit) => [some (tN p), some (tRow r), some (tN ((r.reverse.take i).foldl (numStep p) 0)), none]) (fun _ _ => True) () trivial ⟨rfl, rfl, rfl, trivial⟩ ?_ ?_
  · intro gv off i T z hi hT _
    rw [List.length_map] at hi
    have hT2 : T = kN (r.reverse.getD i 0) := by
      rw [List.getElem?_map, getD_at hi] at hT
      exact (Option.some.inj hT).symm
    subst hT2
    refine b_set nd 2 (e_add (e_mul (e_v 2 rfl) (e_v 0 rfl) (.inr (by omega))) (e_v 3 rfl)) ?_
    exact b_fall fun _ _ g => ⟨(), trivial, g.wk ⟨rfl, rfl, by rw [foldl_take _ _ _ (getD_at hi)]; rfl, trivial⟩⟩
  · intro z _
    rw [List.length_map, List.take_length, numR_fold]
    exact b_ret (e_v 2 rfl) hD
end
end Tw
end STwQ1
section STwQ2
set_option Elab.async false
set_option linter.all false
set_option maxRecDepth 100000
set_option maxHeartbeats 4000000
/-! Promises: texts, polynomials. -/
namespace Tw
open PySem PySem.Spec PyProof.Rows L2
/-- the primes of the listed families -/
def PrP (p : Nat) : Prop := p = 3 ∨ p = 5 ∨ p = 7
theorem PrP.ok {p : Nat} (h : PrP p) : PrOk p := by unfold PrP at h; unfold PrOk; omega
theorem PrP.le {p : Nat} (h : PrP p) : 3 ≤ p ∧ p ≤ 7 := by unfold PrP at h; omega
def strN (n : Nat) : Str := (toString (n : Int) : String)
def headS (e : Nat) : Str := if e = 1 then "" else strN e
def termS (e p : Nat) : Str := if p = 0 then strN e else if p = 1 then headS e ++ ("x" : Str) else [headS e, "x", "^", strN p].foldl (· ++ ·) Str.empty
theorem term_ok : ∀ e : Nat, e < 8 → ∀ p : Nat, p < 30 → (termS e p).length ≤ 20 ∧ PyData.strOk (termS e p) = true := by decide +kernel
theorem head_len : ∀ e : Nat, e < 8 → (headS e).length ≤ 10 := by decide +kernel
theorem strN_len : ∀ e : Nat, e < 30 → (strN e).length ≤ 10 := by decide +kernel
section
variable {P : Program} {w : World} {K : PySem.W.Frag} {mg : Str → Option Value} {base : Heap} {tb : Tb}
theorem sc_polyTerm : FnScope ["entry", "power", "head"] ["entry", "power"] (defScope sPolyTerm) := ⟨rfl, rfl, rfl, by decide +kernel, rfl, by decide +kernel, by decide +kernel⟩
def pmPolyTerm : Prm (Nat × Nat) := ⟨fun a => [ag (tN a.1), ag (tN a.2)], fun a => a.1 < 8 ∧ a.2 < 30, fun a => val (tS (termS a.1 a.2))⟩
theorem ok_polyTerm {f : Addr} {fd : FuncData} (B : Tx K mg) (F : Fun K "poly_term" "poly_term" sPolyTerm f fd) : FN P w K mg base tb 1 f fd ["entry", "power"] pmPolyTerm := by
  refine fun_tw F sc_polyTerm (fun _ => rfl) ?_
  rintro ⟨e, p⟩ cdv A outer s H0 E as D ⟨h1, h2⟩ hr ht hD hX
  have h1 : e < 8 := h1
  have h2 : p < 30 := h2
  have nd := sc_polyTerm.nd
  obtain ⟨t, hg⟩ := B.letter
  have hD : ∀ v H', Ex tb H0 H' → (val (tS (termS e p))).is H0 v H' → D.rt v H' := hD
  show BK tb _ H0 [some (tN e), some (tN p), none] [] _ _
  refine b_when (t_eq (e_v 1 rfl) (e_n 0)) (fun h => ?_) fun h => ?_
  · have h := of_decide_eq_true h
    refine b_ret (e_strX B.str (by omega) (e_v 0 rfl)) ?_
    have e0 : termS e p = strN e := by unfold termS; rw [if_pos h]
    rw [e0] at hD
    exact hD
  · have h := of_decide_eq_false h
    refine b_set nd 2 (T := tS (headS e)) (e_ife (t_eq (e_v 0 rfl) (e_n 1)) (fun h => e_s.cast (by unfold headS; rw [if_pos (of_decide_eq_true h)])) fun h => (e_strX B.str (by omega) (e_v 0 rfl)).cast (by unfold headS; rw [if_neg (of_decide_eq_false h)]; rfl)) ?_
    refine b_ret (e_ife (R := val (tS (termS e p))) (t_eq (e_v 1 rfl) (e_n 1)) (fun h' => ?_) fun h' => ?_) hD
    · have h' := of_decide_eq_true h'
      refine (e_addS (e_v 2 rfl) (e_g (v := .str "x") hg ⟨_, rfl⟩) ?_).cast ?_
      · have := head_len e h1
        have e2 : (("x" : Str)).length = 1 := rfl
        omega
      · unfold termS; rw [if_neg h, if_pos h']
    · have h' := of_decide_eq_false h'
      have hl := head_len e h1
      have hp := strN_len p h2
      refine (e_joinX (ejx_cons (e_fmtX (e_v 2 rfl) (by omega)) (ejx_cons (e_fmtX (e_g (v := .str "x") hg ⟨_, rfl⟩) (by decide)) (ejx_cons e_s (ejx_cons (e_fmtN (e_v 1 rfl) (by omega)) ejx_nil)))) ?_).cast ?_
      · have e2 : (("x" : Str)).length = 1 := rfl
        have e3 : (("^" : Str)).length = 1 := rfl
        show (headS e).length + (("x" : Str).length + (("^" : Str).length + ((strN p).length + 0))) ≤ _
        omega
      · unfold termS; rw [if_neg h, if_neg h']; rfl
theorem sc_polyText : FnScope ["row", "terms", "power", "entry"] ["row"] (defScope sPolyText) := ⟨rfl, rfl, rfl, by decide +kernel, rfl, by decide +kernel, by decide +kernel⟩
def termsOf (r : List Nat) : List Str := ((List.range r.length).filter fun i => !decide (r.getD i 0 = 0)).map fun i => termS (r.getD i 0) i
theorem terms_ok {p : Nat} {r : List Nat} (h : RowOk p r) (hp : p ≤ 7) : ∀ s ∈ termsOf r, s.length ≤ 20 ∧ PyData.strOk s = true := fun s hs => by
  unfold termsOf at hs
  obtain ⟨i, hi, rfl⟩ := List.mem_map.mp hs
  have hi := List.mem_range.mp (List.mem_filter.mp hi).1
  have h1 := h.at (getD_at hi)
  have h2 := h.len
  exact term_ok _ (by omega) _ (by omega)
theorem terms_len (r : List Nat) : (termsOf r).length ≤ r.length := by
  unfold termsOf
  rw [List.length_map]
  have h := List.length_filter_le (fun i => !decide (r.getD i 0 = 0)) (List.range r.length)
  rw [List.length_range] at h
  exact h
theorem sum_le_len {l : List Str} {N : Nat} (h : ∀ s ∈ l, s.length ≤ N) : (l.map (·.length)).sum ≤ l.length * N := by
  induction l with
  | nil => simp
  | cons a l ih =>
    have h1 := h a List.mem_cons_self
    have h2 := ih fun s hs => h s (List.mem_cons_of_mem _ hs)
    rw [List.map_cons, List.sum_cons, List.length_cons, Nat.add_mul]
    omega
def pmPolyText : Prm (Nat × List Nat) := ⟨fun a => [ag (tRow a.2)], fun a => PrP a.1 ∧ RowOk a.1 a.2, fun _ => val (kS 1000).ty⟩
theorem ok_polyText {f : Addr} {fd : FuncData} (B : Tx K mg) (Ft : DF P w K mg base tb "poly_term" 1 pmPolyTerm) (F : Fun K "poly_text" "poly_text" sPolyText f fd) : FN P w K mg base tb 2 f fd ["row"] pmPolyText := by
  refine fun_tw F sc_polyText (fun _ => rfl) ?_
  rintro ⟨p, r⟩ cdv A outer s H0 E as D ⟨hp, hr'⟩ hr ht hD hX
  have hp := (show PrP p from hp).le
  have hr' : RowOk p r := hr'
  have hl := hr'.len
  have nd := sc_polyText.nd
  have tok := terms_ok hr' hp.2
  show BK tb _ H0 [some (tRow r), none, none, none] [] _ _
  refine b_newLc2 nd 1 2 3 (i_enumT B.enumerate (e_v 0 rfl)) (fun i => kN i) (fun i => kN (r.getD i 0)) (fun i T h => (enumK_at h).1) (blk_of ["row", "terms", "power", "entry"] (defScope sPolyText)) (fun i => !decide (r.getD i 0 = 0)) (fun i => kSx (termS (r.getD i 0) i)) ?_ ?_ (by rw [enumK_len]; omega) ((termsOf r).map kSx) (by rw [enumK_len]; unfold pick termsOf; rw [List.map_map]; rfl) ?_
  · intro s H' C cl fp i T hi hT
    exact ts_one (t_ne (e_v 3 rfl) (e_n 0))
  · intro s H' C cl fp i T hi hT _
    rw [enumK_len] at hi
    have h1 := hr'.at (getD_at hi)
    exact e_call Ft hr (r.getD i 0, i) ⟨by show r.getD i 0 < 8; omega, by show i < 30; omega⟩ (ea_v (e_v 3 rfl) (ea_v (e_v 2 rfl) ea_nil))
  · intro z hz hof hod
    refine b_ret (e_ife (R := val (kS 1000).ty) (t_neStrs (fun s hs => (tok s hs).2) hr (EV.anyL (e_v 1 rfl))) (fun h => ?_) fun h => e_toS e_s (by decide)) hD
    refine e_joinL e_s (EV.any ((e_revL (EV.anyL (e_v 1 rfl))).cast (by rw [← List.map_reverse]))) ?_ (by decide)
    have h1 : ∀ s ∈ (termsOf r).reverse, s.length ≤ 20 := fun s hs => (tok s (List.mem_reverse.mp hs)).1
    have h2 := sum_le_len h1
    have h3 := terms_len r
    rw [List.length_reverse] at h2 ⊢
    have e1 : (("+" : Str)).length = 1 := rfl
    rw [e1]
    omega
end
end Tw
end STwQ2
section STwQ3
set_option Elab.async false
set_option linter.all false
set_option maxRecDepth 100000
set_option maxHeartbeats 4000000
/-! Promises: polynomials made, their properties. -/
namespace Tw
open PySem PySem.Spec PyProof.Rows L2
def SlI (C : Addr) : List (Option Im) → Prop
  | [] => True
  | none :: l => SlI C l
  | some T :: l => T.sl C ∧ SlI C l
theorem slI {C : Addr} : ∀ {Ts : List (Option Im)}, SlI C Ts → ∀ (n : Nat) (T : Im), Ts[n]? = some (some T) → T.sl C
  | [], _, n, T, e => by simp at e
  | none :: l, h, 0, T, e => by cases (Option.some.inj e)
  | some U :: l, h, 0, T, e => by
    have e : some U = some T := Option.some.inj e
    cases e
    exact h.1
  | none :: l, h, n + 1, T, e => slI (Ts := l) h n T e
  | some _ :: l, h, n + 1, T, e => slI (Ts := l) h.2 n T e
/-- behind a branch -/
theorem b_then {tb : Tb} {X : Cx} {H0 : Hp} {G : List (Option Ty)} {D : List (V × Ty)} {rest : List Stmt} {E E' : Ends} (h : BK tb X H0 G D rest E) : BK tb X H0 G D [] { E' with nx := fun σ' H' => RB X rest E σ' H' } := b_fall fun σ H g => h σ H g
structure ClF (K : PySem.W.Frag) (mg : Str → Option Value) (x : Str) (C : Addr) : Prop where
  mg : mg x = some (.ref C)
  sc : SlX.SCls K C
  si : SlX.SIsi K C
  own : PySem.W.kitOne K (.ref C) (.ref C) = some true
def Slo (K : PySem.W.Frag) (C : Addr) (f : Str) (i : Nat) : Prop := ∃ p, SlX.Slot1 K C f p i
structure EntF (K : PySem.W.Frag) (mg : Str → Option Value) (C : Addr) : Prop extends ClF K mg "Entries" C where
  s0 : Slo K C "own_row" 0
structure PolyF (K : PySem.W.Frag) (mg : Str → Option Value) (C : Addr) : Prop extends ClF K mg "Poly" C where
  s0 : Slo K C "own_entries" 0
  s1 : Slo K C "own_lead" 1
  s2 : Slo K C "own_number" 2
  s3 : Slo K C "own_prime" 3
  s4 : Slo K C "own_text" 4
  sf : PySem.W.selfFirst K C = true
  fm : PySem.W.findIn K (.ref C) "__format__" = some (some (.builtin "object.__format__"))
theorem row_sl {r : List Nat} {C : Addr} : (kRow r).sl C := fun T hT => by
  obtain ⟨n, _, rfl⟩ := List.mem_map.mp hT
  trivial
def kEnt (C : Addr) (r : List Nat) : Im := kIns C [some (kRow r)]
def polyTs (p : Nat) (r : List Nat) : List (Option Im) := [some (kRow r), some (kN (lastN r)), some (kN (numR p r)), some (kN p), some (kS 1000)]
def kPoly (C : Addr) (p : Nat) (r : List Nat) : Im := kIns C (polyTs p r)
theorem self_done {tb : Tb} {H1 H : Hp} {G : List (Option Ty)} {D : List (V × Ty)} {σ : L2.St} {C y dx : Addr} {Ts : List (Option Im)} (g : En tb H1 G D σ H) (j : Nat) (h : G[j]? = some (some (tSelf C y dx Ts))) (hT : ∃ (i : Nat) (T : Im), Ts[i]? = some (some T)) : (kIns C Ts).is (.ref y) H := by
  obtain ⟨v, _, q⟩ := g.fit.get h
  have ev : v = .ref y := q.1
  rw [ev] at q
  exact tSelf_done q hT
section
variable {P : Program} {w : World} {K : PySem.W.Frag} {mg : Str → Option Value} {base : Heap} {tb : Tb} {Cp Ce : Addr}
theorem sc_entInit : FnScope ["self", "row"] ["self", "row"] (defScope sEntInit) := ⟨rfl, rfl, rfl, by decide +kernel, rfl, by decide +kernel, by decide +kernel⟩
def pmEnt (Ce : Addr) : Prm (List Nat) := ⟨fun r => [ag (tRow r)], fun _ => True, fun r => val (kEnt Ce r).ty⟩
theorem ok_entInit {f : Addr} {fd : FuncData} (Ec : EntF K mg Ce) (F : Fun K "__init__" "Entries.__init__" sEntInit f fd) : FnOk P w K mg base CX0 1 f fd ["self", "row"] (spI tb (pmEnt Ce) Ce) := by
  refine fun_init F sc_entInit (fun _ => rfl) ?_
  intro r cdv A outer s H H1 E y dx as D hy hdx _ hr ht hX
  obtain ⟨q, hs⟩ := Ec.s0
  show BK tb _ H1 [some (tSelf Ce y dx []), some (tRow r)] [] _ _
  refine b_slot 0 rfl hy hdx Ec.sc hs (e_v 1 rfl) (K := kRow r) row_sl ⟨row_sl, trivial⟩ trivial (fun n T h => by simp at h) ?_ (e_v 0 rfl)
  exact b_fall fun σ H g => hX σ H g.ex (self_done g 0 rfl ⟨0, kRow r, rfl⟩)
theorem sc_made : FnScope ["prime", "row"] ["prime", "row"] (defScope sMade) := ⟨rfl, rfl, rfl, by decide +kernel, rfl, by decide +kernel, by decide +kernel⟩
def pmPolyI (Ce Cp : Addr) : Prm (Nat × List Nat) := ⟨fun a => [ag (tN a.1), ag (kEnt Ce a.2).ty], fun a => PrP a.1 ∧ RowOk a.1 a.2, fun a => val (kPoly Cp a.1 a.2).ty⟩
def pmMade (Cp : Addr) : Prm (Nat × List Nat) := ⟨fun a => [ag (tN a.1), agL (a.2.map kN)], fun a => PrP a.1 ∧ RowOk a.1 a.2, fun a => val (kPoly Cp a.1 (trimN a.2)).ty⟩
def pmMadeT (Cp : Addr) : Prm (Nat × List Nat) := ⟨fun a => [ag (tN a.1), ag (tRow a.2)], fun a => PrP a.1 ∧ RowOk a.1 a.2, fun a => val (kPoly Cp a.1 (trimN a.2)).ty⟩
theorem ok_made {f : Addr} {fd : FuncData} (B : Tx K mg) (Fr : DF P w K mg base tb "poly_row" 1 pmPolyRow) (Fe : DefI tb P w K mg base "Entries" Ce 1 (pmEnt Ce)) (Fp : DefI tb P w K mg base "Poly" Cp 3 (pmPolyI Ce Cp)) (F : Fun K "made" "made" sMade f fd) : FN P w K mg base tb 5 f fd ["prime", "row"] (pmMade Cp) := by
  refine fun_tw F sc_made (fun _ => rfl) ?_
  rintro ⟨p, r⟩ cdv A outer s H0 E as D ⟨hp, hro⟩ hr ht hD hX
  have hro : RowOk p r := hro
  have hl := hro.len
  show BK tb _ H0 [some (tN p), some (tL (as 1) (r.map kN))] [] _ _
  exact b_ret (e_make Fp hr (p, trimN r) ⟨hp, hro.trim⟩ (ea_v (e_v 0 rfl) (ea_v (e_make Fe (hr.mono (by decide)) (trimN r) trivial (ea_v (e_call Fr (hr.mono (by decide)) r (by show r.length ≤ 1000; omega) (ea_l (e_v 1 rfl) ea_nil)) ea_nil)) ea_nil))) hD
theorem ok_madeT {f : Addr} {fd : FuncData} (B : Tx K mg) (Fr : DF P w K mg base tb "poly_row" 1 pmPolyRowT) (Fe : DefI tb P w K mg base "Entries" Ce 1 (pmEnt Ce)) (Fp : DefI tb P w K mg base "Poly" Cp 3 (pmPolyI Ce Cp)) (F : Fun K "made" "made" sMade f fd) : FN P w K mg base tb 5 f fd ["prime", "row"] (pmMadeT Cp) := by
  refine fun_tw F sc_made (fun _ => rfl) ?_
  rintro ⟨p, r⟩ cdv A outer s H0 E as D ⟨hp, hro⟩ hr ht hD hX
  have hro : RowOk p r := hro
  have hl := hro.len
  show BK tb _ H0 [some (tN p), some (tRow r)] [] _ _
  exact b_ret (e_make Fp hr (p, trimN r) ⟨hp, hro.trim⟩ (ea_v (e_v 0 rfl) (ea_v (e_make Fe (hr.mono (by decide)) (trimN r) trivial (ea_v (e_call Fr (hr.mono (by decide)) r (by show r.length ≤ 1000; omega) (ea_v (e_v 1 rfl) ea_nil)) ea_nil)) ea_nil))) hD
theorem sc_polyInit : FnScope ["self", "prime", "entries", "row"] ["self", "prime", "entries"] (defScope sPolyInit) := ⟨rfl, rfl, rfl, by decide +kernel, rfl, by decide +kernel, by decide +kernel⟩
theorem ok_polyInit {f : Addr} {fd : FuncData} (B : Tx K mg) (Ec : EntF K mg Ce) (Pc : PolyF K mg Cp) (Fn : DF P w K mg base tb "poly_number" 1 pmPolyNumber) (Ft : DF P w K mg base tb "poly_text" 2 pmPolyText) (F : Fun K "__init__" "Poly.__init__" sPolyInit f fd) : FnOk P w K mg base CX0 3 f fd ["self", "prime", "entries"] (spI tb (pmPolyI Ce Cp) Cp) := by
  refine fun_init F sc_polyInit (fun _ => rfl) ?_
  rintro ⟨p, r⟩ cdv A outer s H H1 E y dx as D hy hdx ⟨hp, hro⟩ hr ht hX
  have hp : PrP p := hp
  have hro : RowOk p r := hro
  have nd := sc_polyInit.nd
  obtain ⟨q, hse⟩ := Ec.s0
  obtain ⟨q0, h0⟩ := Pc.s0
  obtain ⟨q1, h1⟩ := Pc.s1
  obtain ⟨q2, h2⟩ := Pc.s2
  obtain ⟨q3, h3⟩ := Pc.s3
  obtain ⟨q4, h4⟩ := Pc.s4
  show BK tb _ H1 [some (tSelf Cp y dx []), some (tN p), some (kEnt Ce r).ty, none] [] _ _
  refine b_if (d := true) (t_val (e_isiC true B.isinstance Ec.sc Ec.si Ec.own (e_v 2 rfl) (e_g (v := .ref Ce) Ec.mg rfl))) (fun _ => ?_) (fun h => nomatch h)
  refine b_set nd 3 (T := tRow r) (e_attr (Ts := [some (kRow r)]) (e_v 2 rfl) Ec.sc hse rfl) ?_
  refine b_then (BK.wk (G' := [some (tSelf Cp y dx []), some (tN p), none, some (tRow r)]) ?_ ⟨rfl, rfl, rfl, trivial⟩)
  refine b_slot 0 rfl hy hdx Pc.sc h3 (e_v 1 rfl) (K := kN p) trivial ⟨trivial, row_sl, trivial⟩ trivial (fun n T h => by simp at h) ?_ (e_v 0 rfl)
  refine b_slot 0 rfl hy hdx Pc.sc h0 (e_v 3 rfl) (K := kRow r) row_sl ⟨trivial, row_sl, trivial⟩ trivial (slI ?_) ?_ (e_v 0 rfl)
  · first | exact trivial | exact ⟨trivial, trivial⟩ | exact ⟨row_sl, trivial, trivial⟩ | exact ⟨row_sl, trivial, trivial, trivial⟩ | exact ⟨row_sl, trivial, trivial, trivial, trivial⟩
  refine b_slot 0 rfl hy hdx Pc.sc h1 (K := kN (lastN r)) (e_ife (t_gt (e_lenR B.len (e_v 3 rfl)) (e_n 0)) (fun h => ?_) fun h => ?_) trivial ⟨trivial, row_sl, trivial⟩ trivial (slI ?_) ?_ (e_v 0 rfl)
  · exact e_lastR (e_v 3 rfl) (getD_at (by have := of_decide_eq_true h; omega))
  · refine (e_n 0).cast ?_
    have : r = [] := List.eq_nil_of_length_eq_zero (by have := of_decide_eq_false h; omega)
    rw [this]
    rfl
  · exact ⟨row_sl, trivial, trivial⟩
  refine b_slot 0 rfl hy hdx Pc.sc h2 (e_call Fn (hr.mono (by decide)) (p, r) (by show p ≤ 31; have := hp.le; omega) (ea_v (e_v 1 rfl) (ea_v (e_v 3 rfl) ea_nil))) (K := kN (numR p r)) trivial ⟨trivial, row_sl, trivial⟩ trivial (slI ?_) ?_ (e_v 0 rfl)
  · first | exact trivial | exact ⟨trivial, trivial⟩ | exact ⟨row_sl, trivial, trivial⟩ | exact ⟨row_sl, trivial, trivial, trivial⟩ | exact ⟨row_sl, trivial, trivial, trivial, trivial⟩
  refine b_slot 0 rfl hy hdx Pc.sc h4 (e_call Ft (hr.mono (by decide)) (p, r) ⟨hp, hro⟩ (ea_v (e_v 3 rfl) ea_nil)) (K := kS 1000) trivial ⟨trivial, row_sl, trivial⟩ trivial (slI ?_) ?_ (e_v 0 rfl)
  · first | exact trivial | exact ⟨trivial, trivial⟩ | exact ⟨row_sl, trivial, trivial⟩ | exact ⟨row_sl, trivial, trivial, trivial⟩ | exact ⟨row_sl, trivial, trivial, trivial, trivial⟩
  exact b_fall fun σ H g => hX σ H g.ex (self_done (Ts := polyTs p r) g 0 rfl ⟨0, kRow r, rfl⟩)
end
end Tw
end STwQ3
section STwN2
set_option Elab.async false
set_option linter.all false
set_option maxRecDepth 100000
set_option maxHeartbeats 4000000
/-! Division of rows, common divisors. -/
namespace Tw
theorem getD_at' {r : List Nat} {k : Nat} (h : k < r.length) : r[k]? = some (r.getD k 0) := by
  rw [List.getD_eq_getElem?_getD, List.getElem?_eq_getElem h]; rfl
/-! ### inverse -/
def invL (p n : Nat) : List Nat := ((List.range (p - 1)).filter fun i => decide ((1 + i) * n % p = 1)).map fun i => 1 + i
def invN (p n : Nat) : Nat := (invL p n).headD 0
theorem inv_ok (p : Nat) (hp : p = 3 ∨ p = 5 ∨ p = 7) (n : Nat) (h0 : n ≠ 0) (h1 : n < p) : (invL p n)[0]? = some (invN p n) ∧ invN p n < p := by
  have key : ∀ p ∈ [3, 5, 7], ∀ n < p, n ≠ 0 → (invL p n)[0]? = some (invN p n) ∧ invN p n < p := by decide +kernel
  exact key p (by rcases hp with rfl | rfl | rfl <;> simp) n h1 h0
/-! ### rest -/
def subM (p x f e : Nat) : Nat := (((x : Int) - ((f * e : Nat) : Int)) % (p : Int)).toNat
theorem subM_lt {p x f e : Nat} (hp : 0 < p) : subM p x f e < p := by
  unfold subM
  have h1 := Int.emod_nonneg ((x : Int) - ((f * e : Nat) : Int)) (show (p : Int) ≠ 0 by omega)
  have h2 := Int.emod_lt_of_pos ((x : Int) - ((f * e : Nat) : Int)) (show (0 : Int) < p by omega)
  omega
theorem subM_int {p x f e : Nat} (hp : 0 < p) : ((subM p x f e : Nat) : Int) = ((x : Int) - ((f * e : Nat) : Int)) % (p : Int) := by
  unfold subM
  have h1 := Int.emod_nonneg ((x : Int) - ((f * e : Nat) : Int)) (show (p : Int) ≠ 0 by omega)
  omega
/-- the first i steps of the inner loop -/
def subTo (p f at_ : Nat) (other rest : List Nat) : Nat → List Nat
  | 0 => rest
  | i + 1 => (subTo p f at_ other rest i).set (at_ + i) (subM p ((subTo p f at_ other rest i).getD (at_ + i) 0) f (other.getD i 0))
theorem subTo_len {p f a : Nat} {other rest : List Nat} : ∀ i, (subTo p f a other rest i).length = rest.length
  | 0 => rfl
  | i + 1 => by
    unfold subTo
    rw [List.length_set, subTo_len i]
theorem set_lt {p : Nat} {l : List Nat} (h : ∀ x ∈ l, x < p) {k d : Nat} (hd : d < p) : ∀ x ∈ l.set k d, x < p := fun x hx => by
  rcases List.mem_or_eq_of_mem_set hx with hx | rfl
  · exact h x hx
  · exact hd
theorem subTo_lt {p f a : Nat} {other rest : List Nat} (hp : 0 < p) (h : ∀ x ∈ rest, x < p) : ∀ i, ∀ x ∈ subTo p f a other rest i, x < p
  | 0 => h
  | i + 1 => by
    unfold subTo
    exact set_lt (subTo_lt hp h i) (subM_lt hp)
/-- one step of the outer loop, at the place at_ -/
def divS (p inv : Nat) (other rest : List Nat) (at_ : Nat) : List Nat :=
  if rest.getD (at_ + other.length - 1) 0 * inv % p = 0 then rest else subTo p (rest.getD (at_ + other.length - 1) 0 * inv % p) at_ other rest other.length
/-- the first i steps of the outer loop, from the place n - 1 downwards -/
def divTo (p inv : Nat) (other one : List Nat) (n : Nat) : Nat → List Nat
  | 0 => one
  | i + 1 => divS p inv other (divTo p inv other one n i) (n - 1 - i)
theorem divTo_len {p inv n : Nat} {other one : List Nat} : ∀ i, (divTo p inv other one n i).length = one.length
  | 0 => rfl
  | i + 1 => by
    unfold divTo divS
    split
    · exact divTo_len i
    · rw [subTo_len, divTo_len i]
theorem divTo_lt {p inv n : Nat} {other one : List Nat} (hp : 0 < p) (h : ∀ x ∈ one, x < p) : ∀ i, ∀ x ∈ divTo p inv other one n i, x < p
  | 0 => h
  | i + 1 => by
    unfold divTo divS
    split
    · exact divTo_lt hp h i
    · exact subTo_lt hp (divTo_lt hp h i) _
def restL (p : Nat) (one other : List Nat) : List Nat := (divTo p (invN p (lastN other)) other one (one.length + 1 - other.length) (one.length + 1 - other.length)).take (other.length - 1)
theorem restL_ok {p : Nat} {one other : List Nat} (hp : 0 < p) (h : RowOk p one) : RowOk p (restL p one other) := by
  refine ⟨fun x hx => divTo_lt hp h.lt _ x (List.mem_of_mem_take hx), ?_⟩
  unfold restL
  rw [List.length_take, divTo_len]
  have := h.len
  omega
def remN (p : Nat) (one other : List Nat) : List Nat := trimN (restL p one other)
theorem remN_len {p : Nat} {one other : List Nat} : (remN p one other).length ≤ other.length - 1 := by
  refine Nat.le_trans (trim_len _) ?_
  unfold restL
  rw [List.length_take]
  omega
theorem remN_ok {p : Nat} {one other : List Nat} (hp : 0 < p) (h : RowOk p one) : RowOk p (remN p one other) := (restL_ok hp h).trim
/-- a row without zeros at its end -/
def Tr (r : List Nat) : Prop := r ≠ [] → lastN r ≠ 0
theorem trim_tr (l : List Nat) : Tr (trimN l) := fun h => by
  obtain ⟨d, h1, h2⟩ := trim_last l h
  unfold lastN
  rw [List.getD_eq_getElem?_getD, h1]
  exact h2
theorem lastN_lt {p : Nat} {r : List Nat} (h : RowOk p r) (hn : r ≠ []) : lastN r < p := by
  have hl : r.length - 1 < r.length := by
    have := List.length_pos_iff.mpr hn
    omega
  exact h.at (getD_at' hl)
/-! ### common divisors -/
def comN (p : Nat) : Nat → List Nat → List Nat → List Nat
  | 0, a, _ => a
  | k + 1, a, b => if b = [] then a else comN p k b (remN p a b)
theorem comN_fuel {p : Nat} : ∀ {k k' : Nat} {a b : List Nat}, b.length ≤ k → b.length ≤ k' → comN p k a b = comN p k' a b
  | 0, 0, _, _, _, _ => rfl
  | 0, k' + 1, a, b, h, _ => by
    have e : b = [] := List.eq_nil_of_length_eq_zero (by omega)
    unfold comN
    rw [if_pos e]
  | k + 1, 0, a, b, _, h => by
    have e : b = [] := List.eq_nil_of_length_eq_zero (by omega)
    unfold comN
    rw [if_pos e]
  | k + 1, k' + 1, a, b, h, h' => by
    unfold comN
    by_cases e : b = []
    · rw [if_pos e, if_pos e]
    · rw [if_neg e, if_neg e]
      have := remN_len (p := p) (one := a) (other := b)
      exact comN_fuel (by omega) (by omega)
def scaN (p c : Nat) (r : List Nat) : List Nat := r.map fun e => c * e % p
theorem scaN_ok {p c : Nat} {r : List Nat} (hp : 0 < p) (h : RowOk p r) : RowOk p (scaN p c r) := ⟨fun x hx => by
  obtain ⟨e, _, rfl⟩ := List.mem_map.mp hx
  exact Nat.mod_lt _ hp, by unfold scaN; rw [List.length_map]; exact h.len⟩
def monN (p : Nat) (r : List Nat) : List Nat := if lastN r = 1 then r else trimN (scaN p (invN p (lastN r)) r)
theorem monN_ok {p : Nat} {r : List Nat} (hp : 0 < p) (h : RowOk p r) : RowOk p (monN p r) := by
  unfold monN
  split
  · exact h
  · exact (scaN_ok hp h).trim
def derL (p : Nat) (r : List Nat) : List Nat := (List.range r.length).map fun i => i * r.getD i 0 % p
theorem derL_ok {p : Nat} {r : List Nat} (hp : 0 < p) (h : RowOk p r) : RowOk p (derL p r) := ⟨fun x hx => by
  obtain ⟨e, _, rfl⟩ := List.mem_map.mp hx
  exact Nat.mod_lt _ hp, by unfold derL; rw [List.length_map, List.length_range]; exact h.len⟩
theorem RowOk.drop {p k : Nat} {r : List Nat} (h : RowOk p r) : RowOk p (r.drop k) := ⟨fun x hx => h.lt x (List.mem_of_mem_drop hx), by rw [List.length_drop]; have := h.len; omega⟩
theorem RowOk.take {p k : Nat} {r : List Nat} (h : RowOk p r) : RowOk p (r.take k) := ⟨fun x hx => h.lt x (List.mem_of_mem_take hx), by rw [List.length_take]; have := h.len; omega⟩
def derN (p : Nat) (r : List Nat) : List Nat := trimN ((derL p r).drop 1)
theorem derN_ok {p : Nat} {r : List Nat} (hp : 0 < p) (h : RowOk p r) : RowOk p (derN p r) := ((derL_ok hp h).drop).trim
def cdN (p : Nat) (a b : List Nat) : List Nat := comN p b.length a b
def sqfN (p : Nat) (r : List Nat) : Bool := decide ((monN p (cdN p r (derN p r))).length - 1 = 0)
def evalN (p x : Nat) (r : List Nat) : Nat := r.reverse.foldl (fun f e => (f * x + e) % p) 0
end Tw
end STwN2
section STwQ4
set_option Elab.async false
set_option linter.all false
set_option maxRecDepth 100000
set_option maxHeartbeats 4000000
/-! Promises: properties of polynomials, division. -/
namespace Tw
open PySem PySem.Spec PyProof.Rows L2
section
variable {P : Program} {w : World} {K : PySem.W.Frag} {mg : Str → Option Value} {base : Heap} {tb : Tb} {Cp Ce : Addr}
abbrev pmP (Cp : Addr) (ok : Nat × List Nat → Prop) (res : Nat × List Nat → Rs) : Prm (Nat × List Nat) := ⟨fun a => [ag (kPoly Cp a.1 a.2).ty], ok, res⟩
theorem sc_pPrime : FnScope ["self"] ["self"] (defScope sPPrime) := ⟨rfl, rfl, rfl, by decide +kernel, rfl, by decide +kernel, by decide +kernel⟩
def pmPPrime (Cp : Addr) := pmP Cp (fun _ => True) fun a => val (tN a.1)
theorem ok_pPrime {f : Addr} {fd : FuncData} (Pc : PolyF K mg Cp) (F : Fun K "prime" "Poly.prime" sPPrime f fd) : FN P w K mg base tb 1 f fd ["self"] (pmPPrime Cp) := by
  refine fun_tw F sc_pPrime (fun _ => rfl) ?_
  rintro ⟨p, r⟩ cdv A outer s H0 E as D _ hr ht hD hX
  obtain ⟨q, h⟩ := Pc.s3
  show BK tb _ H0 [some (kPoly Cp p r).ty] [] _ _
  exact b_ret (e_attr (Ts := polyTs p r) (e_v 0 rfl) Pc.sc h rfl) hD
theorem sc_pEntries : FnScope ["self"] ["self"] (defScope sPEntries) := ⟨rfl, rfl, rfl, by decide +kernel, rfl, by decide +kernel, by decide +kernel⟩
def pmPEntries (Cp : Addr) := pmP Cp (fun _ => True) fun a => val (tRow a.2)
theorem ok_pEntries {f : Addr} {fd : FuncData} (Pc : PolyF K mg Cp) (F : Fun K "entries" "Poly.entries" sPEntries f fd) : FN P w K mg base tb 1 f fd ["self"] (pmPEntries Cp) := by
  refine fun_tw F sc_pEntries (fun _ => rfl) ?_
  rintro ⟨p, r⟩ cdv A outer s H0 E as D _ hr ht hD hX
  obtain ⟨q, h⟩ := Pc.s0
  show BK tb _ H0 [some (kPoly Cp p r).ty] [] _ _
  exact b_ret (e_attr (Ts := polyTs p r) (e_v 0 rfl) Pc.sc h rfl) hD
theorem sc_pDegree : FnScope ["self"] ["self"] (defScope sPDegree) := ⟨rfl, rfl, rfl, by decide +kernel, rfl, by decide +kernel, by decide +kernel⟩
def pmPDegree (Cp : Addr) := pmP Cp (fun a => 0 < a.2.length) fun a => val (tN (a.2.length - 1))
theorem ok_pDegree {f : Addr} {fd : FuncData} (B : Tx K mg) (Pc : PolyF K mg Cp) (F : Fun K "degree" "Poly.degree" sPDegree f fd) : FN P w K mg base tb 1 f fd ["self"] (pmPDegree Cp) := by
  refine fun_tw F sc_pDegree (fun _ => rfl) ?_
  rintro ⟨p, r⟩ cdv A outer s H0 E as D hok hr ht hD hX
  obtain ⟨q, h⟩ := Pc.s0
  show BK tb _ H0 [some (kPoly Cp p r).ty] [] _ _
  exact b_ret (e_sub (e_lenR B.len (e_attr (Ts := polyTs p r) (e_v 0 rfl) Pc.sc h rfl)) (e_n 1) hok) hD
theorem sc_pLead : FnScope ["self"] ["self"] (defScope sPLead) := ⟨rfl, rfl, rfl, by decide +kernel, rfl, by decide +kernel, by decide +kernel⟩
def pmPLead (Cp : Addr) := pmP Cp (fun _ => True) fun a => val (tN (lastN a.2))
theorem ok_pLead {f : Addr} {fd : FuncData} (Pc : PolyF K mg Cp) (F : Fun K "lead" "Poly.lead" sPLead f fd) : FN P w K mg base tb 1 f fd ["self"] (pmPLead Cp) := by
  refine fun_tw F sc_pLead (fun _ => rfl) ?_
  rintro ⟨p, r⟩ cdv A outer s H0 E as D _ hr ht hD hX
  obtain ⟨q, h⟩ := Pc.s1
  show BK tb _ H0 [some (kPoly Cp p r).ty] [] _ _
  exact b_ret (e_attr (Ts := polyTs p r) (e_v 0 rfl) Pc.sc h rfl) hD
theorem sc_pZero : FnScope ["self"] ["self"] (defScope sPZero) := ⟨rfl, rfl, rfl, by decide +kernel, rfl, by decide +kernel, by decide +kernel⟩
def pmPZero (Cp : Addr) := pmP Cp (fun _ => True) fun a => val (tB (decide (a.2 = [])))
theorem ok_pZero {f : Addr} {fd : FuncData} (Pc : PolyF K mg Cp) (F : Fun K "is_zero" "Poly.is_zero" sPZero f fd) : FN P w K mg base tb 1 f fd ["self"] (pmPZero Cp) := by
  refine fun_tw F sc_pZero (fun _ => rfl) ?_
  rintro ⟨p, r⟩ cdv A outer s H0 E as D _ hr ht hD hX
  obtain ⟨q, h⟩ := Pc.s0
  show BK tb _ H0 [some (kPoly Cp p r).ty] [] _ _
  exact b_ret (e_eqR hr (e_attr (Ts := polyTs p r) (e_v 0 rfl) Pc.sc h rfl) e_nilR) hD
theorem sc_pStr : FnScope ["self"] ["self"] (defScope sPStr) := ⟨rfl, rfl, rfl, by decide +kernel, rfl, by decide +kernel, by decide +kernel⟩
def pmPStr (Cp : Addr) := pmP Cp (fun _ => True) fun a => val (kS 1000).ty
theorem ok_pStr {f : Addr} {fd : FuncData} (Pc : PolyF K mg Cp) (F : Fun K "__str__" "Poly.__str__" sPStr f fd) : FN P w K mg base tb 1 f fd ["self"] (pmPStr Cp) := by
  refine fun_tw F sc_pStr (fun _ => rfl) ?_
  rintro ⟨p, r⟩ cdv A outer s H0 E as D _ hr ht hD hX
  obtain ⟨q, h⟩ := Pc.s4
  show BK tb _ H0 [some (kPoly Cp p r).ty] [] _ _
  exact b_ret (e_join1 (e_fmtS (e_attr (Ts := polyTs p r) (e_v 0 rfl) Pc.sc h rfl) (by decide))) hD
/-! ### checks -/
theorem sc_reqPoly : FnScope ["value"] ["value"] (defScope sReqPoly) := ⟨rfl, rfl, rfl, by decide +kernel, rfl, by decide +kernel, by decide +kernel⟩
def pmReqPoly (Cp : Addr) := pmP Cp (fun _ => True) fun _ => val t0
theorem ok_reqPoly {f : Addr} {fd : FuncData} (B : Tx K mg) (Pc : PolyF K mg Cp) (F : Fun K "require_poly" "require_poly" sReqPoly f fd) : FN P w K mg base tb 1 f fd ["value"] (pmReqPoly Cp) := by
  refine fun_tw F sc_reqPoly (fun _ => rfl) ?_
  rintro ⟨p, r⟩ cdv A outer s H0 E as D _ hr ht hD hX
  show BK tb _ H0 [some (kPoly Cp p r).ty] [] _ _
  exact b_skip (t_not (d := true) (t_val (e_isiC true B.isinstance Pc.sc Pc.si Pc.own (Ts := polyTs p r) (e_v 0 rfl) (e_g (v := .ref Cp) Pc.mg rfl)))) (b_fall fun σ H g => hX σ H g.ex rfl)
def pm2 (Cp : Addr) (ok : Nat × List Nat × List Nat → Prop) (res : Nat × List Nat × List Nat → Rs) : Prm (Nat × List Nat × List Nat) := ⟨fun a => [ag (kPoly Cp a.1 a.2.1).ty, ag (kPoly Cp a.1 a.2.2).ty], ok, res⟩
theorem sc_reqSame : FnScope ["one", "other"] ["one", "other"] (defScope sReqSame) := ⟨rfl, rfl, rfl, by decide +kernel, rfl, by decide +kernel, by decide +kernel⟩
def pmReqSame (Cp : Addr) := pm2 Cp (fun _ => True) fun _ => val t0
theorem ok_reqSame {f : Addr} {fd : FuncData} (B : Tx K mg) (Pc : PolyF K mg Cp) (F : Fun K "require_same_prime" "require_same_prime" sReqSame f fd) : FN P w K mg base tb 1 f fd ["one", "other"] (pmReqSame Cp) := by
  refine fun_tw F sc_reqSame (fun _ => rfl) ?_
  rintro ⟨p, r, u⟩ cdv A outer s H0 E as D _ hr ht hD hX
  obtain ⟨q, h⟩ := Pc.s3
  show BK tb _ H0 [some (kPoly Cp p r).ty, some (kPoly Cp p u).ty] [] _ _
  exact b_skip ((t_ne (n := p) (m := p) (e_attr (Ts := polyTs p r) (e_v 0 rfl) Pc.sc h rfl) (e_attr (Ts := polyTs p u) (e_v 1 rfl) Pc.sc h rfl)).cast (by simp)) (b_fall fun σ H g => hX σ H g.ex rfl)
theorem sc_reqDiv : FnScope ["one", "other"] ["one", "other"] (defScope sReqDiv) := ⟨rfl, rfl, rfl, by decide +kernel, rfl, by decide +kernel, by decide +kernel⟩
def pmReqDiv (Cp : Addr) := pm2 Cp (fun a => a.2.2 ≠ []) fun _ => val t0
theorem ok_reqDiv {f : Addr} {fd : FuncData} (B : Tx K mg) (Pc : PolyF K mg Cp) (Fs : DF P w K mg base tb "require_same_prime" 1 (pmReqSame Cp)) (F : Fun K "require_divisor" "require_divisor" sReqDiv f fd) : FN P w K mg base tb 2 f fd ["one", "other"] (pmReqDiv Cp) := by
  refine fun_tw F sc_reqDiv (fun _ => rfl) ?_
  rintro ⟨p, r, u⟩ cdv A outer s H0 E as D hok hr ht hD hX
  have hok : u ≠ [] := hok
  obtain ⟨q, h⟩ := Pc.s0
  show BK tb _ H0 [some (kPoly Cp p r).ty, some (kPoly Cp p u).ty] [] _ _
  refine b_expr (e_call Fs (hr.mono (by decide)) (p, r, u) trivial (ea_v (e_v 0 rfl) (ea_v (e_v 1 rfl) ea_nil))) ?_
  exact b_skip ((t_eqR (r := u) (s := []) hr (e_attr (Ts := polyTs p u) (e_v 1 rfl) Pc.sc h rfl) e_nilR).cast (decide_eq_false hok)) (b_fall fun σ H g => hX σ H g.ex rfl)
/-! ### division -/
theorem sc_polyInv : FnScope ["prime", "number", "one"] ["prime", "number"] (defScope sPolyInv) := ⟨rfl, rfl, rfl, by decide +kernel, rfl, by decide +kernel, by decide +kernel⟩
def pmInv : Prm (Nat × Nat) := ⟨fun a => [ag (tN a.1), ag (tN a.2)], fun a => PrP a.1 ∧ a.2 ≠ 0 ∧ a.2 < a.1, fun a => val (tN (invN a.1 a.2))⟩
theorem ok_polyInv {f : Addr} {fd : FuncData} (B : Tx K mg) (F : Fun K "poly_inverse" "poly_inverse" sPolyInv f fd) : FN P w K mg base tb 1 f fd ["prime", "number"] pmInv := by
  refine fun_tw F sc_polyInv (fun _ => rfl) ?_
  rintro ⟨p, n⟩ cdv A outer s H0 E as D ⟨hp, hn0, hn⟩ hr ht hD hX
  have hp : PrP p := hp
  have hn0 : n ≠ 0 := hn0
  have hn : n < p := hn
  have hpl := hp.le
  have nd := sc_polyInv.nd
  obtain ⟨hi, _⟩ := inv_ok p hp n hn0 hn
  show BK tb _ H0 [some (tN p), some (tN n), none] [] _ _
  refine b_ret (e_ixN (k := 0) (e_lc nd 2 (i_range2 B.range (e_n 1) (e_v 0 rfl) (by omega)) (blk_of ["prime", "number", "one"] (defScope sPolyInv)) (fun i => decide ((1 + i) * n % p = 1)) (fun i => kN (1 + i)) ?_ ?_ (by rw [rangeK_len]; omega)) (e_n 0) ?_) hD
  · intro s H' C cl fp i T hi hT
    obtain ⟨rfl, hi⟩ := rangeK_at hT
    exact ts_one (t_eq (e_mod (e_mul (e_v 2 rfl) (e_v 1 rfl) (.inr (by omega))) (e_v 0 rfl) (by omega)) (e_n 1))
  · intro s H' C cl fp i T hi hT _
    obtain ⟨rfl, hi⟩ := rangeK_at hT
    exact e_v 2 rfl
  · rw [rangeK_len]
    unfold pick
    have e1 : ((List.range (p - 1)).filter fun i => decide ((1 + i) * n % p = 1)).map (fun i => kN (1 + i)) = (invL p n).map kN := by
      unfold invL
      rw [List.map_map]
      rfl
    rw [e1]
    exact nums_at hi
end
end Tw
end STwQ4
section STwQ5
set_option Elab.async false
set_option linter.all false
set_option maxRecDepth 100000
set_option maxHeartbeats 4000000
/-! Promises: division. -/
namespace Tw
open PySem PySem.Spec PyProof.Rows L2
theorem nm {z : Addr} : z ∉ ([] : List Addr) := List.not_mem_nil
theorem ne1 {z y : Addr} (h : z ∉ [y]) : z ∉ [y] := h
theorem ne1' {z y : Addr} (h : z ∉ [y]) : y ∉ [z] := fun q => h (by rw [List.mem_singleton.mp q]; exact List.mem_singleton_self _)
theorem set_map (z : List Nat) (k d : Nat) : (z.map kN).set k (kN d) = (z.set k d).map kN := by rw [List.map_set]
/-- a pair whose second is a new list -/
def dvR (Us : List Im) : Rs := ⟨fun H0 v H => ∃ e a b, v = .ref e ∧ H e = some (.tup [a, .ref b]) ∧ H0 b = none ∧ (tL b Us).is (.ref b) H,
  fun e0 ⟨e, a, b, h1, h2, h3, h4⟩ e1 => ⟨e, a, b, h1, e1.keep _ _ h2 (fun _ z => nomatch z), e0.dom b h3, (tL b Us).ex e1 h4⟩⟩
section
variable {tb : Tb} {X : Cx} {G : List (Option Ty)} {a b : Expr} {z : Addr} {Ts Us : List Im} {pos : Pos} {T : Ty}
theorem e_tup2L {k : Nat} (ha : EV tb X G a (val T)) (hb : EV tb X G b (newL Us)) (hs : starEach [a, b] X.env = (false, eval a X.env) :: starEach [b] X.env := by rfl) (hs2 : starEach [b] X.env = (false, eval b X.env) :: starEach [] X.env := by rfl) : EV tb X G (.Tuple [a, b] k pos) (dvR Us) := fun σ H t f Q q =>
  toE (pe_tup (pa_cons pe_RE (pa_cons pe_RE pa_nil hs2) hs)) (ha σ H t f _ fun v H1 e1 h1 => hb σ H1 (e1.tab t) (f.ex e1) _ fun u H2 e2 ⟨y, hy, h2⟩ => by
    have eu : u = .ref y := h2.1
    subst eu
    exact ⟨by show 2 ≤ sizeLine; decide, fun p hp => q _ _ ((e1.trans e2).trans (Ex.new hp)) ⟨p, v, y, rfl, upd_same, e1.dom y hy, (tL y Us).ex (tb := tb) (Ex.new hp) h2⟩⟩)
theorem e_ix1L {k : Nat} {p1 : Pos} (ha : EV tb X G a (dvR Us)) (hs : PlainIx (.Constant (.int 1) k p1) := by exact fun _ _ => rfl) : EV tb X G (.Subscript a (.Constant (.int 1) k p1) pos) (newL Us) :=
  e_ixr ix_tup (fun H x H1 y H2 e1 (h : (dvR Us).is H x H1) e2 (h5 : (val (tI 1)).is H1 y H2) Q k => by
    obtain ⟨e, c, b, h1, h2, h3, h4⟩ := h
    cases h5
    exact ⟨e, [c, .ref b], 1, .ref b, h1, rfl, SqT.of (e2.keep _ _ h2 (fun _ z => nomatch z)), rfl, k _ _ Ex.refl ⟨b, h3, (tL b Us).ex e2 h4⟩⟩) ha (e_i 1) hs
end
theorem getD_take {l : List Nat} {k i : Nat} (h : i < k) : (l.take k).getD i 0 = l.getD i 0 := by
  rw [List.getD_eq_getElem?_getD, List.getD_eq_getElem?_getD, List.getElem?_take_of_lt h]
section
variable {P : Program} {w : World} {K : PySem.W.Frag} {mg : Str → Option Value} {base : Heap} {tb : Tb} {Cp Ce : Addr}
theorem sc_polyDiv : FnScope ["prime", "one", "other", "rest", "size", "inverse", "found", "at", "factor", "spot", "entry", "place"] ["prime", "one", "other"] (defScope sPolyDiv) := ⟨rfl, rfl, rfl, by decide +kernel, rfl, by decide +kernel, by decide +kernel⟩
def pmPolyDiv : Prm (Nat × List Nat × List Nat) := ⟨fun a => [ag (tN a.1), ag (tRow a.2.1), ag (tRow a.2.2)], fun a => PrP a.1 ∧ RowOk a.1 a.2.1 ∧ RowOk a.1 a.2.2 ∧ a.2.2 ≠ [] ∧ lastN a.2.2 ≠ 0, fun a => dvR ((restL a.1 a.2.1 a.2.2).map kN)⟩
theorem ok_polyDiv {f : Addr} {fd : FuncData} (B : Tx K mg) (Fi : DF P w K mg base tb "poly_inverse" 1 pmInv) (F : Fun K "poly_divided" "poly_divided" sPolyDiv f fd) : FN P w K mg base tb 2 f fd ["prime", "one", "other"] pmPolyDiv := by
  refine fun_tw F sc_polyDiv (fun _ => rfl) ?_
  rintro ⟨p, one, oth⟩ cdv A outer s H0 E as D ⟨hp, ho, hu, hne, hl0⟩ hr ht hD hX
  have hp : PrP p := hp
  have ho : RowOk p one := ho
  have hu : RowOk p oth := hu
  have hne : oth ≠ [] := hne
  have hl0 : lastN oth ≠ 0 := hl0
  have hpl := hp.le
  have hp0 : 0 < p := by omega
  have nd := sc_polyDiv.nd
  have hlen1 := ho.len
  have hlen2 := hu.len
  have hsz : 0 < oth.length := List.length_pos_iff.mpr hne
  obtain ⟨_, hinv⟩ := inv_ok p hp (lastN oth) hl0 (lastN_lt hu hne)
  generalize hI : invN p (lastN oth) = inv at hinv
  generalize hn : one.length + 1 - oth.length = n
  have hD : ∀ v H', Ex tb H0 H' → (dvR ((restL p one oth).map kN)).is H0 v H' → D.rt v H' := hD
  show BK tb _ H0 [some (tN p), some (tRow one), some (tRow oth), none, none, none, none, none, none, none, none, none] [] _ _
  refine b_new nd 3 (e_listT B.list (e_v 1 rfl)) fun zr h0r _ _ => ?_
  refine b_set nd 4 (e_lenR B.len (e_v 2 rfl)) ?_
  refine b_set nd 5 (T := tN (invN p (lastN oth))) (e_call Fi hr (p, lastN oth) ⟨hp, hl0, lastN_lt hu hne⟩ (ea_v (e_v 0 rfl) (ea_v (e_lastR (e_v 2 rfl) (getD_at (by omega))) ea_nil))) ?_
  rw [hI]
  refine b_newLc nd 6 11 (i_range1 B.range (n := n) ((e_max rfl B.max (e_i 0) (e_addI (e_subI (e_lenR B.len (e_v 1 rfl)) (e_v 4 rfl)) (e_i 1))).cast (val_eq (by congr 1; split <;> omega))) (by omega)) (blk_of ["prime", "one", "other", "rest", "size", "inverse", "found", "at", "factor", "spot", "entry", "place"] (defScope sPolyDiv)) (fun _ => true) (fun _ => kN 0) (fun _ _ _ _ _ _ _ _ _ => ts_nil) (fun _ _ _ _ _ _ _ _ _ _ => e_n 0) (by rw [rangeK_len]; omega) ((List.replicate n 0).map kN) (by
    rw [rangeK_len]
    have e1 := pick_all (List.replicate n 0) kN (fun _ => true) (fun _ => kN 0) (fun _ _ => rfl) (fun i b hb => by
      rw [List.getElem?_replicate] at hb
      split at hb
      · exact congrArg kN (Option.some.inj hb)
      · cases hb)
    rw [List.length_replicate] at e1
    exact e1) fun zf h0f hoff hodf => ?_
  have hzz : zf ∉ [zr] := hoff.at (i := 3) rfl
  refine b_for (ζ := List Nat) nd 7 (i_down (n := n - 1) (k := n) B.range (e_subI (e_lenLR B.len (r := List.replicate n 0) (e_v 6 rfl)) (e_i 1)) (e_neg (e_i 1)) (e_neg (e_i 1)) (by rw [List.length_replicate]; omega) (by rw [List.length_replicate]; omega) (by rw [List.length_replicate]; omega))
    (fun i z => [some (tN p), some (tRow one), some (tRow oth), some (tL zr ((divTo p inv oth one n i).map kN)), some (tN oth.length), some (tN inv), some (tL zf (z.map kN)), none, none, none, none, none]) (fun _ z => z.length = n) (List.replicate n 0) (by rw [List.length_replicate]) ⟨rfl, rfl, rfl, rfl, rfl, rfl, rfl, trivial⟩ ?_ ?_
  · intro gv off i T z hi hT hz
    rw [downK_len] at hi
    obtain ⟨rfl, _⟩ := downK_at hT
    have hlR := divTo_len (p := p) (inv := inv) (n := n) (other := oth) (one := one) i
    have hltR := divTo_lt (p := p) (inv := inv) (n := n) (other := oth) (one := one) hp0 ho.lt i
    generalize hR : divTo p inv oth one n i = R at hlR hltR
    have hix : n - 1 - i + oth.length - 1 < R.length := by omega
    have hRx := hltR _ (List.mem_of_getElem? (getD_at hix))
    generalize hF : R.getD (n - 1 - i + oth.length - 1) 0 * inv % p = fac
    have hfac : fac < p := by rw [← hF]; exact Nat.mod_lt _ hp0
    have od1 : OffD zr (gv ++ []) := OffD.app (D := []) trivial (off 3 _ zr rfl (List.mem_singleton_self _) nm)
    have od2 : OffD zf (gv ++ []) := OffD.app (D := []) trivial (off 6 _ zf rfl (List.mem_singleton_self _) nm)
    refine b_set nd 8 (T := tN fac) ((e_mod (e_mul (e_ixLR (r := R) (e_v 3 rfl) (e_sub (e_add (e_v 7 rfl) (e_v 4 rfl)) (e_n 1) (by omega)) (getD_at hix)) (e_v 5 rfl) (.inr (by omega))) (e_v 0 rfl) hp0).cast (by rw [hF])) ?_
    refine b_seti (z := zf) (K := kN fac) 6 rfl h0f ⟨nm, nm, nm, hzz, nm, nm, nm, nm, trivial⟩ od2 (e_v 8 rfl) (e_v 6 rfl) (e_v 7 rfl) (by rw [List.length_map]; omega) ?_
    rw [set_map]
    have hend : ∀ (R' : List Nat), divTo p inv oth one n (i + 1) = R' → ∀ σ H, En tb H0 [some (tN p), some (tRow one), some (tRow oth), some (tL zr (R'.map kN)), some (tN oth.length), some (tN inv), some (tL zf ((z.set (n - 1 - i) fac).map kN)), none, none, none, none, none] (gv ++ []) σ H →
        ∃ z' : List Nat, z'.length = n ∧ En tb H0 [some (tN p), some (tRow one), some (tRow oth), some (tL zr ((divTo p inv oth one n (i + 1)).map kN)), some (tN oth.length), some (tN inv), some (tL zf (z'.map kN)), none, none, none, none, none] (gv ++ []) σ H := fun R' h σ H g => ⟨z.set (n - 1 - i) fac, by rw [List.length_set]; exact hz, by rw [h]; exact g⟩
    have hS : divTo p inv oth one n (i + 1) = if fac = 0 then R else subTo p fac (n - 1 - i) oth R oth.length := by
      show divS p inv oth (divTo p inv oth one n i) (n - 1 - i) = _
      unfold divS
      rw [hR, hF]
    refine b_when (t_ne (e_v 8 rfl) (e_n 0)) (fun h => ?_) (fun h => b_fall fun σ H g => ?_)
    · have hfn : fac ≠ 0 := by simpa using h
      rw [if_neg hfn] at hS
      refine b_for2 nd 9 10 (i_enumT B.enumerate (e_v 2 rfl)) (fun m => kN m) (fun m => kN (oth.getD m 0)) (fun m T h => (enumK_at h).1) (fun m (_ : Unit) => [some (tN p), some (tRow one), some (tRow oth), some (tL zr ((subTo p fac (n - 1 - i) oth R m).map kN)), some (tN oth.length), some (tN inv), some (tL zf ((z.set (n - 1 - i) fac).map kN)), some (tN (n - 1 - i)), some (tN fac), none, none, none]) (fun _ _ => True) () trivial ⟨rfl, rfl, rfl, rfl, rfl, rfl, rfl, rfl, rfl, trivial⟩ ?_ ?_
      · intro gv2 off2 m _ hm _
        rw [enumK_len] at hm
        have od3 : OffD zr (gv2 ++ (gv ++ [])) := OffD.app od1 (off2 3 _ zr rfl (List.mem_singleton_self _) nm)
        have hlm := subTo_len (p := p) (f := fac) (a := n - 1 - i) (other := oth) (rest := R) m
        have hixm : n - 1 - i + m < (subTo p fac (n - 1 - i) oth R m).length := by omega
        refine b_seti (z := zr) (K := kN (subM p ((subTo p fac (n - 1 - i) oth R m).getD (n - 1 - i + m) 0) fac (oth.getD m 0))) 3 rfl h0r ⟨nm, nm, nm, nm, nm, ne1' hzz, nm, nm, nm, nm, trivial⟩ od3 ?_ (e_v 3 rfl) (e_add (e_v 7 rfl) (e_v 9 rfl)) (by rw [List.length_map]; exact hixm) ?_
        · refine (e_modI (e_subI (e_ixLR (e_v 3 rfl) (e_add (e_v 7 rfl) (e_v 9 rfl)) (getD_at hixm)) (e_mul (e_v 8 rfl) (e_v 10 rfl) (.inl (by omega)))) (e_v 0 rfl) (by omega)).cast ?_
          rw [← subM_int hp0]
        · rw [set_map]
          exact b_fall fun _ _ g => ⟨(), trivial, g.wk ⟨rfl, rfl, rfl, rfl, rfl, rfl, rfl, rfl, rfl, trivial⟩⟩
      · intro _ _
        rw [enumK_len]
        exact b_then (b_fall fun σ H g => hend _ hS σ H (g.wk ⟨rfl, rfl, rfl, rfl, rfl, rfl, rfl, trivial⟩))
    · have hfz : fac = 0 := by simpa using h
      rw [if_pos hfz] at hS
      exact hend R hS σ H (g.wk ⟨rfl, rfl, rfl, rfl, rfl, rfl, rfl, trivial⟩)
  · intro z hz
    rw [downK_len]
    refine b_ret (e_tup2L (e_v 6 rfl) ((e_takeL (e_v 3 rfl) (e_sub (e_v 4 rfl) (e_n 1) hsz)).cast ?_)) hD
    rw [← List.map_take]
    unfold restL
    rw [hI, hn]
end
end Tw
end STwQ5
section STwQ6
set_option Elab.async false
set_option linter.all false
set_option maxRecDepth 100000
set_option maxHeartbeats 4000000
/-! Promises: remainder, derivative, common divisor. -/
namespace Tw
open PySem PySem.Spec PyProof.Rows L2
section
variable {P : Program} {w : World} {K : PySem.W.Frag} {mg : Str → Option Value} {base : Heap} {tb : Tb} {Cp Ce : Addr}
theorem sc_pMod : FnScope ["self", "other"] ["self", "other"] (defScope sPMod) := ⟨rfl, rfl, rfl, by decide +kernel, rfl, by decide +kernel, by decide +kernel⟩
def pmMod (Cp : Addr) := pm2 Cp (fun a => PrP a.1 ∧ RowOk a.1 a.2.1 ∧ RowOk a.1 a.2.2 ∧ a.2.2 ≠ [] ∧ Tr a.2.2) fun a => val (kPoly Cp a.1 (remN a.1 a.2.1 a.2.2)).ty
theorem ok_pMod {f : Addr} {fd : FuncData} (B : Tx K mg) (Pc : PolyF K mg Cp) (Fr : DF P w K mg base tb "require_divisor" 2 (pmReqDiv Cp)) (Fd : DF P w K mg base tb "poly_divided" 2 pmPolyDiv) (Fm : DF P w K mg base tb "made" 5 (pmMade Cp)) (F : Fun K "__mod__" "Poly.__mod__" sPMod f fd) : FN P w K mg base tb 6 f fd ["self", "other"] (pmMod Cp) := by
  refine fun_tw F sc_pMod (fun _ => rfl) ?_
  rintro ⟨p, r, u⟩ cdv A outer s H0 E as D ⟨hp, ho, hu, hne, htr⟩ hr ht hD hX
  have hp : PrP p := hp
  have ho : RowOk p r := ho
  have hu : RowOk p u := hu
  have hne : u ≠ [] := hne
  have htr : Tr u := htr
  have hpl := hp.le
  obtain ⟨q3, h3⟩ := Pc.s3
  obtain ⟨q0, h0⟩ := Pc.s0
  show BK tb _ H0 [some (kPoly Cp p r).ty, some (kPoly Cp p u).ty] [] _ _
  refine b_skip (t_not (d := true) (t_val (e_isiC true B.isinstance Pc.sc Pc.si Pc.own (Ts := polyTs p u) (e_v 1 rfl) (e_g (v := .ref Cp) Pc.mg rfl)))) ?_
  refine b_expr (e_call Fr (hr.mono (by decide)) (p, r, u) hne (ea_v (e_v 0 rfl) (ea_v (e_v 1 rfl) ea_nil))) ?_
  exact b_ret (e_call Fm (hr.mono (by decide)) (p, restL p r u) ⟨hp, restL_ok (by omega) ho⟩ (ea_v (e_attr (Ts := polyTs p r) (e_v 0 rfl) Pc.sc h3 rfl) (ea_n (e_ix1L (e_call Fd (hr.mono (by decide)) (p, r, u) ⟨hp, ho, hu, hne, htr hne⟩ (ea_v (e_attr (Ts := polyTs p r) (e_v 0 rfl) Pc.sc h3 rfl) (ea_v (e_attr (Ts := polyTs p r) (e_v 0 rfl) Pc.sc h0 rfl) (ea_v (e_attr (Ts := polyTs p u) (e_v 1 rfl) Pc.sc h0 rfl) ea_nil))))) ea_nil))) hD
theorem sc_residue : FnScope ["prime", "value"] ["prime", "value"] (defScope sResidue) := ⟨rfl, rfl, rfl, by decide +kernel, rfl, by decide +kernel, by decide +kernel⟩
def pmResidue : Prm (Nat × Nat) := ⟨fun a => [ag (tN a.1), ag (tN a.2)], fun a => a.2 < a.1, fun _ => val (tB true)⟩
theorem ok_residue {f : Addr} {fd : FuncData} (B : Tx K mg) (Fw : DF P w K mg base tb "is_whole" 1 pmWhole) (F : Fun K "is_residue_of" "is_residue_of" sResidue f fd) : FN P w K mg base tb 2 f fd ["prime", "value"] pmResidue := by
  refine fun_tw F sc_residue (fun _ => rfl) ?_
  rintro ⟨p, x⟩ cdv A outer s H0 E as D hok hr ht hD hX
  have hok : x < p := hok
  show BK tb _ H0 [some (tN p), some (tN x)] [] _ _
  exact b_ret (e_and (d := true) (d' := true) (e_call Fw hr (x : Int) trivial (ea_v (e_v 1 rfl) ea_nil)) fun _ => e_one ((e_chain op_le op_lt (rr_le (n := 0)) (fun _ => rr_lt) (e_n 0) (e_v 1 rfl) fun _ => e_v 0 rfl).cast (by rw [decide_eq_true hok, decide_eq_true (Nat.zero_le x)]; rfl))) hD
theorem sc_pCall : FnScope ["self", "residue", "found", "entry"] ["self", "residue"] (defScope sPCall) := ⟨rfl, rfl, rfl, by decide +kernel, rfl, by decide +kernel, by decide +kernel⟩
def pmPCall (Cp : Addr) : Prm ((Nat × List Nat) × Nat) := ⟨fun a => [ag (kPoly Cp a.1.1 a.1.2).ty, ag (tN a.2)], fun a => PrP a.1.1 ∧ RowOk a.1.1 a.1.2 ∧ a.2 < a.1.1, fun a => val (tN (evalN a.1.1 a.2 a.1.2))⟩
theorem ok_pCall {f : Addr} {fd : FuncData} (Pc : PolyF K mg Cp) (Fs : DF P w K mg base tb "is_residue_of" 2 pmResidue) (F : Fun K "__call__" "Poly.__call__" sPCall f fd) : FN P w K mg base tb 3 f fd ["self", "residue"] (pmPCall Cp) := by
  refine fun_tw F sc_pCall (fun _ => rfl) ?_
  rintro ⟨⟨p, r⟩, x⟩ cdv A outer s H0 E as D ⟨hp, ho, hx⟩ hr ht hD hX
  have hp : PrP p := hp
  have ho : RowOk p r := ho
  have hx : x < p := hx
  have hpl := hp.le
  have nd := sc_pCall.nd
  obtain ⟨q3, h3⟩ := Pc.s3
  obtain ⟨q0, h0⟩ := Pc.s0
  show BK tb _ H0 [some (kPoly Cp p r).ty, some (tN x), none, none] [] _ _
  refine b_skip (t_not (d := true) (t_val (e_call Fs hr (p, x) hx (ea_v (e_attr (Ts := polyTs p r) (e_v 0 rfl) Pc.sc h3 rfl) (ea_v (e_v 1 rfl) ea_nil))))) ?_
  refine b_set nd 2 (e_n 0) ?_
  refine b_for nd 3 (i_tup (e_revR (e_attr (Ts := polyTs p r) (e_v 0 rfl) Pc.sc h0 rfl))) (fun i (_ : Unit) => [some (kPoly Cp p r).ty, some (tN x), some (tN ((r.reverse.take i).foldl (fun f e => (f * x + e) % p) 0)), none]) (fun _ _ => True) () trivial ⟨rfl, rfl, rfl, trivial⟩ ?_ ?_
  · intro gv off i T z hi hT _
    rw [List.length_map] at hi
    have hT2 : T = kN (r.reverse.getD i 0) := by
      rw [List.getElem?_map, getD_at hi] at hT
      exact (Option.some.inj hT).symm
    subst hT2
    refine b_set nd 2 (e_mod (e_add (e_mul (e_v 2 rfl) (e_v 1 rfl) (.inr (by omega))) (e_v 3 rfl)) (e_attr (Ts := polyTs p r) (e_v 0 rfl) Pc.sc h3 rfl) (by omega)) ?_
    exact b_fall fun _ _ g => ⟨(), trivial, g.wk ⟨rfl, rfl, by rw [foldl_take (fun f e => (f * x + e) % p) 0 r.reverse (getD_at hi)], trivial⟩⟩
  · intro z _
    rw [List.length_map, List.take_length]
    exact b_ret (e_v 2 rfl) hD
theorem sc_pScaled : FnScope ["self", "residue", "entry"] ["self", "residue"] (defScope sPScaled) := ⟨rfl, rfl, rfl, by decide +kernel, rfl, by decide +kernel, by decide +kernel⟩
def pmScaled (Cp : Addr) : Prm ((Nat × List Nat) × Nat) := ⟨fun a => [ag (kPoly Cp a.1.1 a.1.2).ty, ag (tN a.2)], fun a => PrP a.1.1 ∧ RowOk a.1.1 a.1.2 ∧ a.2 < a.1.1, fun a => val (kPoly Cp a.1.1 (trimN (scaN a.1.1 a.2 a.1.2))).ty⟩
theorem ok_pScaled {f : Addr} {fd : FuncData} (Pc : PolyF K mg Cp) (Fs : DF P w K mg base tb "is_residue_of" 2 pmResidue) (Fm : DF P w K mg base tb "made" 5 (pmMade Cp)) (F : Fun K "scaled" "Poly.scaled" sPScaled f fd) : FN P w K mg base tb 6 f fd ["self", "residue"] (pmScaled Cp) := by
  refine fun_tw F sc_pScaled (fun _ => rfl) ?_
  rintro ⟨⟨p, r⟩, x⟩ cdv A outer s H0 E as D ⟨hp, ho, hx⟩ hr ht hD hX
  have hp : PrP p := hp
  have ho : RowOk p r := ho
  have hx : x < p := hx
  have hpl := hp.le
  have hl := ho.len
  have nd := sc_pScaled.nd
  obtain ⟨q3, h3⟩ := Pc.s3
  obtain ⟨q0, h0⟩ := Pc.s0
  show BK tb _ H0 [some (kPoly Cp p r).ty, some (tN x), none] [] _ _
  refine b_skip (t_not (d := true) (t_val (e_call Fs (hr.mono (by decide)) (p, x) hx (ea_v (e_attr (Ts := polyTs p r) (e_v 0 rfl) Pc.sc h3 rfl) (ea_v (e_v 1 rfl) ea_nil))))) ?_
  refine b_ret (e_call Fm hr (p, scaN p x r) ⟨hp, scaN_ok (by omega) ho⟩ (ea_v (e_attr (Ts := polyTs p r) (e_v 0 rfl) Pc.sc h3 rfl) (ea_n (EV.cast (e_lc nd 2 (i_tup (e_attr (Ts := polyTs p r) (e_v 0 rfl) Pc.sc h0 rfl)) (blk_of ["self", "residue", "entry"] (defScope sPScaled)) (fun _ => true) (fun i => kN (x * r.getD i 0 % p)) (fun _ _ _ _ _ _ _ _ _ => ts_nil) ?_ (by rw [List.length_map]; omega)) ?_) ea_nil))) hD
  · intro s H' C cl fp i T hi hT _
    rw [List.length_map] at hi
    have hT2 : T = kN (r.getD i 0) := by
      rw [List.getElem?_map, getD_at hi] at hT
      exact (Option.some.inj hT).symm
    subst hT2
    exact e_mod (e_mul (e_v 1 rfl) (e_v 2 rfl) (.inl (by omega))) (e_attr (Ts := polyTs p r) (e_v 0 rfl) Pc.sc h3 rfl) (by omega)
  · rw [List.length_map, pick_all r (fun e => kN (x * e % p)) _ _ (fun _ _ => rfl) (fun i b hb => by rw [List.getD_eq_getElem?_getD, hb]; rfl)]
    unfold scaN
    rw [List.map_map]
    rfl
theorem sc_pMonic : FnScope ["self"] ["self"] (defScope sPMonic) := ⟨rfl, rfl, rfl, by decide +kernel, rfl, by decide +kernel, by decide +kernel⟩
def pmMonic (Cp : Addr) := pmP Cp (fun a => PrP a.1 ∧ RowOk a.1 a.2 ∧ a.2 ≠ [] ∧ Tr a.2) fun a => val (kPoly Cp a.1 (monN a.1 a.2)).ty
theorem ok_pMonic {f : Addr} {fd : FuncData} (Pc : PolyF K mg Cp) (Fi : DF P w K mg base tb "poly_inverse" 1 pmInv) (Fs : Mth tb P w K mg base Cp "scaled" 6 (pmScaled Cp)) (F : Fun K "monic" "Poly.monic" sPMonic f fd) : FN P w K mg base tb 7 f fd ["self"] (pmMonic Cp) := by
  refine fun_tw F sc_pMonic (fun _ => rfl) ?_
  rintro ⟨p, r⟩ cdv A outer s H0 E as D ⟨hp, ho, hne, htr⟩ hr ht hD hX
  have hp : PrP p := hp
  have ho : RowOk p r := ho
  have hne : r ≠ [] := hne
  have htr : Tr r := htr
  obtain ⟨_, hinv⟩ := inv_ok p hp (lastN r) (htr hne) (lastN_lt ho hne)
  obtain ⟨q3, h3⟩ := Pc.s3
  obtain ⟨q1, h1⟩ := Pc.s1
  obtain ⟨q0, h0⟩ := Pc.s0
  show BK tb _ H0 [some (kPoly Cp p r).ty] [] _ _
  refine b_skip ((t_eqR (r := r) (s := []) hr (e_attr (Ts := polyTs p r) (e_v 0 rfl) Pc.sc h0 rfl) e_nilR).cast (decide_eq_false hne)) ?_
  refine b_ret (e_ife (R := val (kPoly Cp p (monN p r)).ty) (t_eq (n := lastN r) (e_attr (Ts := polyTs p r) (e_v 0 rfl) Pc.sc h1 rfl) (e_n 1)) (fun h => (e_v 0 rfl).cast (by unfold monN; rw [if_pos (of_decide_eq_true h)])) fun h => ?_) hD
  have e1 : monN p r = trimN (scaN p (invN p (lastN r)) r) := by unfold monN; rw [if_neg (of_decide_eq_false h)]
  rw [e1]
  exact e_meth Fs Pc.sc hr ((p, r), invN p (lastN r)) ⟨hp, ho, hinv⟩ (Ts := polyTs p r) (e_v 0 rfl) (ea_v (e_call Fi (hr.mono (by decide)) (p, lastN r) ⟨hp, htr hne, lastN_lt ho hne⟩ (ea_v (e_attr (Ts := polyTs p r) (e_v 0 rfl) Pc.sc h3 rfl) (ea_v (e_attr (Ts := polyTs p r) (e_v 0 rfl) Pc.sc h1 rfl) ea_nil))) ea_nil)
theorem sc_pDer : FnScope ["self", "row", "power", "entry"] ["self"] (defScope sPDer) := ⟨rfl, rfl, rfl, by decide +kernel, rfl, by decide +kernel, by decide +kernel⟩
def pmDer (Cp : Addr) := pmP Cp (fun a => PrP a.1 ∧ RowOk a.1 a.2) fun a => val (kPoly Cp a.1 (derN a.1 a.2)).ty
theorem ok_pDer {f : Addr} {fd : FuncData} (B : Tx K mg) (Pc : PolyF K mg Cp) (Fm : DF P w K mg base tb "made" 5 (pmMade Cp)) (F : Fun K "derivative" "Poly.derivative" sPDer f fd) : FN P w K mg base tb 6 f fd ["self"] (pmDer Cp) := by
  refine fun_tw F sc_pDer (fun _ => rfl) ?_
  rintro ⟨p, r⟩ cdv A outer s H0 E as D ⟨hp, ho⟩ hr ht hD hX
  have hp : PrP p := hp
  have ho : RowOk p r := ho
  have hpl := hp.le
  have hl := ho.len
  have nd := sc_pDer.nd
  obtain ⟨q3, h3⟩ := Pc.s3
  obtain ⟨q0, h0⟩ := Pc.s0
  show BK tb _ H0 [some (kPoly Cp p r).ty, none, none, none] [] _ _
  refine b_newLc2 nd 1 2 3 (i_enumT B.enumerate (e_attr (Ts := polyTs p r) (K := kRow r) (e_v 0 rfl) Pc.sc h0 rfl)) (fun i => kN i) (fun i => kN (r.getD i 0)) (fun i T h => (enumK_at h).1) (blk_of ["self", "row", "power", "entry"] (defScope sPDer)) (fun _ => true) (fun i => kN (i * r.getD i 0 % p)) (fun _ _ _ _ _ _ _ _ _ => ts_nil) ?_ (by rw [enumK_len]; omega) ((derL p r).map kN) (by
    rw [enumK_len]
    unfold derL pick
    rw [List.filter_eq_self.mpr fun _ _ => rfl, List.map_map]
    rfl) ?_
  · intro s H' C cl fp i T hi hT _
    rw [enumK_len] at hi
    have := ho.at (getD_at hi)
    exact e_mod (e_mul (e_v 2 rfl) (e_v 3 rfl) (.inl (by omega))) (e_attr (Ts := polyTs p r) (e_v 0 rfl) Pc.sc h3 rfl) (by omega)
  · intro z hz hof hod
    exact b_ret (e_call Fm hr (p, (derL p r).drop 1) ⟨hp, (derL_ok (by omega) ho).drop⟩ (ea_v (e_attr (Ts := polyTs p r) (e_v 0 rfl) Pc.sc h3 rfl) (ea_n ((e_dropL (e_v 1 rfl) (e_n 1)).cast (by rw [← List.map_drop])) ea_nil))) hD
theorem sc_monOrZero : FnScope ["poly"] ["poly"] (defScope sMonOrZero) := ⟨rfl, rfl, rfl, by decide +kernel, rfl, by decide +kernel, by decide +kernel⟩
theorem ok_monOrZero {f : Addr} {fd : FuncData} (Pc : PolyF K mg Cp) (Fz : Prp tb P w K mg base Cp "is_zero" 1 (pmPZero Cp)) (Fm : Mth tb P w K mg base Cp "monic" 7 (pmMonic Cp)) (F : Fun K "monic_or_zero" "monic_or_zero" sMonOrZero f fd) : FN P w K mg base tb 8 f fd ["poly"] (pmMonic Cp) := by
  refine fun_tw F sc_monOrZero (fun _ => rfl) ?_
  rintro ⟨p, r⟩ cdv A outer s H0 E as D ⟨hp, ho, hne, htr⟩ hr ht hD hX
  have hne : r ≠ [] := hne
  show BK tb _ H0 [some (kPoly Cp p r).ty] [] _ _
  exact b_ret (e_ife (d := false) ((t_val (e_prop Fz Pc.sc (hr.mono (by decide)) (p, r) trivial (Ts := polyTs p r) (R := val (tB (decide (r = [])))) (e_v 0 rfl))).cast (decide_eq_false hne)) (fun h => nomatch h) fun _ => e_meth0 Fm Pc.sc hr (p, r) ⟨hp, ho, hne, htr⟩ (Ts := polyTs p r) (e_v 0 rfl)) hD
end
end Tw
end STwQ6
section STwR
set_option Elab.async false
set_option linter.all false
set_option maxRecDepth 100000
set_option maxHeartbeats 4000000
/-! Parallel assignments of new lists and dicts. -/
namespace Tw
open PySem PySem.Spec PyProof.Rows L2
section
variable {tb : Tb} {X : Cx} {H0 : Hp} {G G' : List (Option Ty)} {D : List (V × Ty)} {a b c e ix : Expr} {es : List Expr} {R R1 R2' R3 : Rs} {T U : Ty} {pos p p' tp : Pos} {n m : Nat} {x y w : Str} {Ts Us : List Im} {K : Im} {st : Stmt} {rest body els : List Stmt} {E : Ends} {ks : List (List Nat)}
theorem b_parR {px py pt : Pos} {kt k2 : Nat} {pt2 : Pos} (nd : X.N.Nodup) (i j : Nat) (ha : EV tb X G a R1) (hb : EV tb X G b R2')
    (k : ∀ (σ : L2.St) (H : Hp) (v : V) (H1 : Hp) (u : V) (H2 : Hp), En tb H0 G D σ H → Ex tb H H1 → R1.is H v H1 → Ex tb H1 H2 → R2'.is H1 u H2 → RB X rest E ((σ.set i (some v)).set j (some u)) H2) (hc : X.calm = true := by rfl) (hij : i ≠ j := by decide) (hi : X.N[i]? = some x := by rfl) (hj : X.N[j]? = some y := by rfl)
    (hx : X.env.scope.names.lookup x = some .local := by rfl) (hy : X.env.scope.names.lookup y = some .local := by rfl) (hw : swappedStores [.Tuple [.Name x px, .Name y py] kt pt] (.Tuple [a, b] k2 pt2) X.env = pure (some [x, y]) := by rfl)
    (hs : swapsWithSole [.Tuple [.Name x px, .Name y py] kt pt] (.Tuple [a, b] k2 pt2) pos.line X.env = pure false := by rfl) (hst : starEach [a, b] X.env = (false, eval a X.env) :: starEach [b] X.env := by rfl) (hst2 : starEach [b] X.env = (false, eval b X.env) :: starEach [] X.env := by rfl) :
    BK tb X H0 G D (.Assign [.Tuple [.Name x px, .Name y py] kt pt] (.Tuple [a, b] k2 pt2) pos :: rest) E :=
  bk_of fun σ H g => toS (ps_par hc nd hi hj hij hx hy (pa_cons pe_RE (pa_cons pe_RE pa_nil hst2) hst) hw hs) (ha σ H g.tab g.fit _ fun v H1 e1 h1 => hb σ H1 (e1.tab g.tab) (g.fit.ex e1) _ fun u H2 e2 h2 => ⟨v, u, rfl, k σ H v H1 u H2 g e1 h1 e2 h2⟩)
theorem off_at {H : Hp} {σ : L2.St} (g : En tb H0 G D σ H) {z : Addr} (hz : H z = none) : Off z G ∧ OffD z D := ⟨off_new (fun o q => by rw [hz] at q; cases q) g.fit, offD_new (fun o q => by rw [hz] at q; cases q) g.more⟩
/-- a, b = new list, value -/
theorem b_parLV {px py pt : Pos} {kt k2 : Nat} {pt2 : Pos} (nd : X.N.Nodup) (i j : Nat) (ha : EV tb X G a (newL Ts)) (hb : EV tb X G b (val U)) (k : ∀ z, H0 z = none → Off z G → OffD z D → BK tb X H0 ((G.set i (some (tL z Ts))).set j (some U)) D rest E) (hc : X.calm = true := by rfl) (hij : i ≠ j := by decide) (hi : X.N[i]? = some x := by rfl) (hj : X.N[j]? = some y := by rfl)
    (hx : X.env.scope.names.lookup x = some .local := by rfl) (hy : X.env.scope.names.lookup y = some .local := by rfl) (hw : swappedStores [.Tuple [.Name x px, .Name y py] kt pt] (.Tuple [a, b] k2 pt2) X.env = pure (some [x, y]) := by rfl)
    (hs : swapsWithSole [.Tuple [.Name x px, .Name y py] kt pt] (.Tuple [a, b] k2 pt2) pos.line X.env = pure false := by rfl) (hst : starEach [a, b] X.env = (false, eval a X.env) :: starEach [b] X.env := by rfl) (hst2 : starEach [b] X.env = (false, eval b X.env) :: starEach [] X.env := by rfl) :
    BK tb X H0 G D (.Assign [.Tuple [.Name x px, .Name y py] kt pt] (.Tuple [a, b] k2 pt2) pos :: rest) E :=
  b_parR nd i j ha hb (fun σ H v H1 u H2 g e1 ⟨z, hz, h1⟩ e2 h2 => k z (g.ex.dom z hz) (off_at g hz).1 (off_at g hz).2 _ _ (((g.step (e1.trans e2)).set ((tL z Ts).ex e2 h1)).set h2)) hc hij hi hj hx hy hw hs hst hst2
/-- a, b = new list, new list -/
theorem b_parLL {px py pt : Pos} {kt k2 : Nat} {pt2 : Pos} (nd : X.N.Nodup) (i j : Nat) (ha : EV tb X G a (newL Ts)) (hb : EV tb X G b (newL Us)) (k : ∀ z z', H0 z = none → Off z G → OffD z D → H0 z' = none → Off z' G → OffD z' D → z' ∉ [z] → BK tb X H0 ((G.set i (some (tL z Ts))).set j (some (tL z' Us))) D rest E) (hc : X.calm = true := by rfl) (hij : i ≠ j := by decide) (hi : X.N[i]? = some x := by rfl) (hj : X.N[j]? = some y := by rfl)
    (hx : X.env.scope.names.lookup x = some .local := by rfl) (hy : X.env.scope.names.lookup y = some .local := by rfl) (hw : swappedStores [.Tuple [.Name x px, .Name y py] kt pt] (.Tuple [a, b] k2 pt2) X.env = pure (some [x, y]) := by rfl)
    (hs : swapsWithSole [.Tuple [.Name x px, .Name y py] kt pt] (.Tuple [a, b] k2 pt2) pos.line X.env = pure false := by rfl) (hst : starEach [a, b] X.env = (false, eval a X.env) :: starEach [b] X.env := by rfl) (hst2 : starEach [b] X.env = (false, eval b X.env) :: starEach [] X.env := by rfl) :
    BK tb X H0 G D (.Assign [.Tuple [.Name x px, .Name y py] kt pt] (.Tuple [a, b] k2 pt2) pos :: rest) E :=
  b_parR nd i j ha hb (fun σ H v H1 u H2 g e1 ⟨z, hz, h1⟩ e2 ⟨z', hz', h2⟩ => k z z' (g.ex.dom z hz) (off_at g hz).1 (off_at g hz).2 ((g.ex.trans e1).dom z' hz') (off_at g (e1.dom z' hz')).1 (off_at g (e1.dom z' hz')).2 (fun q => by
    rw [List.mem_singleton.mp q] at hz'
    obtain ⟨_, xs, h3, _⟩ := h1
    rw [hz'] at h3
    cases h3) _ _ (((g.step (e1.trans e2)).set ((tL z Ts).ex e2 h1)).set h2)) hc hij hi hj hx hy hw hs hst hst2
/-- a, b = new dict, new list -/
theorem b_parDL {px py pt : Pos} {kt k2 : Nat} {pt2 : Pos} (nd : X.N.Nodup) (i j : Nat) (ha : EV tb X G a (newD ks)) (hb : EV tb X G b (newL Us)) (k : ∀ z z', H0 z = none → Off z G → OffD z D → H0 z' = none → Off z' G → OffD z' D → z' ∉ [z] → BK tb X H0 ((G.set i (some (tD z ks))).set j (some (tL z' Us))) D rest E) (hc : X.calm = true := by rfl) (hij : i ≠ j := by decide) (hi : X.N[i]? = some x := by rfl) (hj : X.N[j]? = some y := by rfl)
    (hx : X.env.scope.names.lookup x = some .local := by rfl) (hy : X.env.scope.names.lookup y = some .local := by rfl) (hw : swappedStores [.Tuple [.Name x px, .Name y py] kt pt] (.Tuple [a, b] k2 pt2) X.env = pure (some [x, y]) := by rfl)
    (hs : swapsWithSole [.Tuple [.Name x px, .Name y py] kt pt] (.Tuple [a, b] k2 pt2) pos.line X.env = pure false := by rfl) (hst : starEach [a, b] X.env = (false, eval a X.env) :: starEach [b] X.env := by rfl) (hst2 : starEach [b] X.env = (false, eval b X.env) :: starEach [] X.env := by rfl) :
    BK tb X H0 G D (.Assign [.Tuple [.Name x px, .Name y py] kt pt] (.Tuple [a, b] k2 pt2) pos :: rest) E :=
  b_parR nd i j ha hb (fun σ H v H1 u H2 g e1 ⟨z, hz, h1⟩ e2 ⟨z', hz', h2⟩ => k z z' (g.ex.dom z hz) (off_at g hz).1 (off_at g hz).2 ((g.ex.trans e1).dom z' hz') (off_at g (e1.dom z' hz')).1 (off_at g (e1.dom z' hz')).2 (fun q => by
    rw [List.mem_singleton.mp q] at hz'
    obtain ⟨_, h3⟩ := h1
    rw [hz'] at h3
    cases h3) _ _ (((g.step (e1.trans e2)).set ((tD z ks).ex e2 h1)).set h2)) hc hij hi hj hx hy hw hs hst hst2
/-- a, b, c = new dict, new list, value -/
theorem b_parDLV {px py pz pt : Pos} {kt k2 : Nat} {pt2 : Pos} (nd : X.N.Nodup) (i j l : Nat) (ha : EV tb X G a (newD ks)) (hb : EV tb X G b (newL Us)) (hcv : EV tb X G c (val U)) (k : ∀ z z', H0 z = none → Off z G → OffD z D → H0 z' = none → Off z' G → OffD z' D → z' ∉ [z] → BK tb X H0 (((G.set i (some (tD z ks))).set j (some (tL z' Us))).set l (some U)) D rest E) (hc : X.calm = true := by rfl) (hij : i ≠ j := by decide) (hil : i ≠ l := by decide) (hjl : j ≠ l := by decide) (hi : X.N[i]? = some x := by rfl) (hj : X.N[j]? = some y := by rfl) (hl : X.N[l]? = some w := by rfl)
    (hx : X.env.scope.names.lookup x = some .local := by rfl) (hy : X.env.scope.names.lookup y = some .local := by rfl) (hz : X.env.scope.names.lookup w = some .local := by rfl) (hw : swappedStores [.Tuple [.Name x px, .Name y py, .Name w pz] kt pt] (.Tuple [a, b, c] k2 pt2) X.env = pure (some [x, y, w]) := by rfl)
    (hs : swapsWithSole [.Tuple [.Name x px, .Name y py, .Name w pz] kt pt] (.Tuple [a, b, c] k2 pt2) pos.line X.env = pure false := by rfl) (hst : starEach [a, b, c] X.env = (false, eval a X.env) :: starEach [b, c] X.env := by rfl) (hst2 : starEach [b, c] X.env = (false, eval b X.env) :: starEach [c] X.env := by rfl) (hst3 : starEach [c] X.env = (false, eval c X.env) :: starEach [] X.env := by rfl) :
    BK tb X H0 G D (.Assign [.Tuple [.Name x px, .Name y py, .Name w pz] kt pt] (.Tuple [a, b, c] k2 pt2) pos :: rest) E :=
  bk_of fun σ H g => toS (ps_par3 hc nd hi hj hl hij hil hjl hx hy hz (pa_cons pe_RE (pa_cons pe_RE (pa_cons pe_RE pa_nil hst3) hst2) hst) hw hs) (ha σ H g.tab g.fit _ fun v H1 e1 ⟨z, hz, h1⟩ => hb σ H1 (e1.tab g.tab) (g.fit.ex e1) _ fun u H2 e2 ⟨z', hz', h2⟩ => hcv σ H2 ((e1.trans e2).tab g.tab) (g.fit.ex (e1.trans e2)) _ fun t H3 e3 h3 => ⟨v, u, t, rfl,
    k z z' (g.ex.dom z hz) (off_at g hz).1 (off_at g hz).2 ((g.ex.trans e1).dom z' hz') (off_at g (e1.dom z' hz')).1 (off_at g (e1.dom z' hz')).2 (fun q => by
    rw [List.mem_singleton.mp q] at hz'
    obtain ⟨_, h3⟩ := h1
    rw [hz'] at h3
    cases h3) _ _ ((((g.step ((e1.trans e2).trans e3)).set ((tD z ks).ex (e2.trans e3) h1)).set ((tL z' Us).ex e3 h2)).set h3)⟩)
end
end Tw
end STwR
section STwN3
set_option Elab.async false
set_option linter.all false
set_option maxRecDepth 100000
set_option maxHeartbeats 4000000
/-! More mirrors: digits, orders, shifts. -/
namespace Tw
theorem inv_mul (p : Nat) (hp : p = 3 ∨ p = 5 ∨ p = 7) (n : Nat) (h0 : n ≠ 0) (h1 : n < p) : invN p n * n % p = 1 := by
  have key : ∀ p ∈ [3, 5, 7], ∀ n < p, n ≠ 0 → invN p n * n % p = 1 := by decide +kernel
  exact key p (by rcases hp with rfl | rfl | rfl <;> simp) n h1 h0
theorem trim_ne {l : List Nat} {d : Nat} (h : l[l.length - 1]? = some d) (hd : d ≠ 0) : trimN l = l := by
  have hlt := (List.getElem?_eq_some_iff.mp h).1
  have e : l = l.take (l.length - 1) ++ [d] := by
    have := take_snoc h
    rw [show l.length - 1 + 1 = l.length by omega, List.take_length] at this
    exact this
  rw [e, trimN_snoc hd]
theorem scaN_len {p c : Nat} {r : List Nat} : (scaN p c r).length = r.length := by unfold scaN; rw [List.length_map]
theorem monN_len {p : Nat} (hp : p = 3 ∨ p = 5 ∨ p = 7) {r : List Nat} (ho : RowOk p r) (hne : r ≠ []) (ht : Tr r) : (monN p r).length = r.length := by
  unfold monN
  split
  · rfl
  · have hl : r.length - 1 < r.length := by
      have := List.length_pos_iff.mpr hne
      omega
    have e : (scaN p (invN p (lastN r)) r)[(scaN p (invN p (lastN r)) r).length - 1]? = some 1 := by
      rw [scaN_len]
      unfold scaN
      rw [List.getElem?_map, getD_at' hl]
      exact congrArg some (inv_mul p hp (lastN r) (ht hne) (lastN_lt ho hne))
    rw [trim_ne e (by decide), scaN_len]
/-! ### digits -/
def digF (p : Nat) : Nat → Nat → List Nat
  | 0, _ => []
  | k + 1, n => if n = 0 then [] else n % p :: digF p k (n / p)
theorem digF_fuel {p : Nat} (hp : 2 ≤ p) : ∀ {k k' n : Nat}, n ≤ k → n ≤ k' → digF p k n = digF p k' n
  | 0, 0, _, _, _ => rfl
  | 0, k' + 1, n, h, _ => by
    have : n = 0 := by omega
    unfold digF
    rw [if_pos this]
  | k + 1, 0, n, _, h => by
    have : n = 0 := by omega
    unfold digF
    rw [if_pos this]
  | k + 1, k' + 1, n, h, h' => by
    unfold digF
    by_cases e : n = 0
    · rw [if_pos e, if_pos e]
    · rw [if_neg e, if_neg e]
      have : n / p < n := Nat.div_lt_self (by omega) (by omega)
      rw [digF_fuel hp (k := k) (k' := k') (by omega) (by omega)]
def digN (p n : Nat) : List Nat := digF p n n
theorem digN_step {p n : Nat} (hp : 2 ≤ p) (hn : n ≠ 0) : digN p n = n % p :: digN p (n / p) := by
  obtain ⟨m, rfl⟩ : ∃ m, n = m + 1 := ⟨n - 1, by omega⟩
  show digF p (m + 1) (m + 1) = _
  have : (m + 1) / p < m + 1 := Nat.div_lt_self (by omega) (by omega)
  unfold digF
  rw [if_neg hn, digF_fuel hp (k := m) (k' := (m + 1) / p) (by omega) (Nat.le_refl _)]
  rfl
theorem digN_zero {p : Nat} : digN p 0 = [] := rfl
theorem digN_lt {p : Nat} (hp : 2 ≤ p) (n : Nat) : ∀ x ∈ digN p n, x < p := by
  induction n using Nat.strongRecOn with
  | ind n ih =>
    by_cases hn : n = 0
    · subst hn
      intro x hx
      cases hx
    · rw [digN_step hp hn]
      intro x hx
      rcases List.mem_cons.mp hx with rfl | hx
      · exact Nat.mod_lt _ (by omega)
      · exact ih (n / p) (Nat.div_lt_self (by omega) (by omega)) x hx
theorem digN_len {p : Nat} (hp : 2 ≤ p) : ∀ (m n : Nat), n < p ^ m → (digN p n).length ≤ m
  | 0, n, h => by
    have : n = 0 := by simpa using h
    subst this
    exact Nat.zero_le _
  | m + 1, n, h => by
    by_cases hn : n = 0
    · subst hn
      exact Nat.zero_le _
    · rw [digN_step hp hn, List.length_cons]
      have h2 : n / p < p ^ m := Nat.div_lt_of_lt_mul (by rw [Nat.mul_comm, ← Nat.pow_succ]; exact h)
      have := digN_len hp m (n / p) h2
      omega
/-! ### orders -/
def ordF (p x : Nat) : Nat → Nat → Nat → Nat
  | 0, f, _ => f
  | k + 1, f, w => if w = 1 then f else ordF p x k (f + 1) (w * x % p)
def reachF (p x : Nat) : Nat → Nat → Bool
  | 0, w => decide (w = 1)
  | k + 1, w => decide (w = 1) || reachF p x k (w * x % p)
def ordN (p x : Nat) : Nat := ordF p x p 1 x
theorem reach_ok (p : Nat) (hp : p = 3 ∨ p = 5 ∨ p = 7) (x : Nat) (h0 : 2 ≤ x) (h1 : x < p) : reachF p x p x = true := by
  have key : ∀ p ∈ [3, 5, 7], ∀ x < p, 2 ≤ x → reachF p x p x = true := by decide +kernel
  exact key p (by rcases hp with rfl | rfl | rfl <;> simp) x h1 h0
/-! ### shifts -/
/-- the first i steps of the inner loop, from n - 2 downwards -/
def movTo (p n : Nat) (R : List Nat) : Nat → List Nat
  | 0 => R
  | i + 1 => (movTo p n R i).set (n - 2 - i) (((movTo p n R i).getD (n - 2 - i) 0 + (movTo p n R i).getD (n - 2 - i + 1) 0) % p)
theorem movTo_len {p n : Nat} {R : List Nat} : ∀ i, (movTo p n R i).length = R.length
  | 0 => rfl
  | i + 1 => by unfold movTo; rw [List.length_set, movTo_len i]
theorem movTo_lt {p n : Nat} {R : List Nat} (hp : 0 < p) (h : ∀ x ∈ R, x < p) : ∀ i, ∀ x ∈ movTo p n R i, x < p
  | 0 => h
  | i + 1 => by
    unfold movTo
    exact set_lt (movTo_lt hp h i) (Nat.mod_lt _ hp)
def movOut (p : Nat) (r : List Nat) : Nat → List Nat
  | 0 => r
  | s + 1 => movTo p r.length (movOut p r s) (r.length - 1 - s)
theorem movOut_len {p : Nat} {r : List Nat} : ∀ s, (movOut p r s).length = r.length
  | 0 => rfl
  | s + 1 => by unfold movOut; rw [movTo_len, movOut_len s]
theorem movOut_lt {p : Nat} {r : List Nat} (hp : 0 < p) (h : ∀ x ∈ r, x < p) : ∀ s, ∀ x ∈ movOut p r s, x < p
  | 0 => h
  | s + 1 => by unfold movOut; exact movTo_lt hp (movOut_lt hp h s) _
def movN (p : Nat) (r : List Nat) : List Nat := movOut p r (r.length - 1)
theorem movN_ok {p : Nat} {r : List Nat} (hp : 0 < p) (h : RowOk p r) : RowOk p (movN p r) := ⟨movOut_lt hp h.lt _, by unfold movN; rw [movOut_len]; exact h.len⟩
theorem movN_len {p : Nat} {r : List Nat} : (movN p r).length = r.length := movOut_len _
/-! ### counts -/
def cvN (p g : Nat) : Nat := if g = 0 then (p - 1) * p * p else (p - 1) * (p ^ (2 * g + 2) - p ^ (2 * g))
def chN (p : Nat) : Nat := (p * p - 1) * (p * p - p)
def massN (p g : Nat) : Nat × Nat := if g = 0 then (p, p * p - 1) else (p ^ (2 * g - 1), 1)
def formN (r : List Nat) (g : Nat) : List Nat := r ++ List.replicate (2 * g + 3 - r.length) 0
theorem formN_ok {p g : Nat} {r : List Nat} (hp : 0 < p) (h : RowOk p r) (hg : g ≤ 3) : RowOk p (formN r g) := ⟨fun x hx => by
  rcases List.mem_append.mp hx with hx | hx
  · exact h.lt x hx
  · rw [(List.mem_replicate.mp hx).2]; exact hp, by unfold formN; rw [List.length_append, List.length_replicate]; have := h.len; omega⟩
end Tw
end STwN3
section STwQ7
set_option Elab.async false
set_option linter.all false
set_option maxRecDepth 100000
set_option maxHeartbeats 4000000
/-! Promises: common divisors, digits, counts, orders, shifts. -/
namespace Tw
open PySem PySem.Spec PyProof.Rows L2
section
variable {P : Program} {w : World} {K : PySem.W.Frag} {mg : Str → Option Value} {base : Heap} {tb : Tb} {Cp Ce : Addr}
theorem sc_common : FnScope ["one", "other"] ["one", "other"] (defScope sCommon) := ⟨rfl, rfl, rfl, by decide +kernel, rfl, by decide +kernel, by decide +kernel⟩
structure ComOk (p : Nat) (a b : List Nat) : Prop where
  ra : RowOk p a
  rb : RowOk p b
  ne : a ≠ []
  ta : Tr a
  tb : Tr b
def pmCommon (Cp : Addr) := pm2 Cp (fun a => PrP a.1 ∧ ComOk a.1 a.2.1 a.2.2) fun a => val (kPoly Cp a.1 (monN a.1 (cdN a.1 a.2.1 a.2.2))).ty
theorem ComOk.step {p : Nat} {a b : List Nat} (hp : 0 < p) (h : ComOk p a b) (hb : b ≠ []) : ComOk p b (remN p a b) := ⟨h.rb, remN_ok hp h.ra, hb, h.tb, trim_tr _⟩
theorem ok_common {f : Addr} {fd : FuncData} (Pc : PolyF K mg Cp) (Fz : Prp tb P w K mg base Cp "is_zero" 1 (pmPZero Cp)) (Fr : Mth tb P w K mg base Cp "__mod__" 6 (pmMod Cp)) (Fm : DF P w K mg base tb "monic_or_zero" 8 (pmMonic Cp)) (F : Fun K "common_of" "common_of" sCommon f fd) : FN P w K mg base tb 9 f fd ["one", "other"] (pmCommon Cp) := by
  refine fun_tw F sc_common (fun _ => rfl) ?_
  rintro ⟨p, a, b⟩ cdv A outer s H0 E as D ⟨hp, hok⟩ hr ht hD hX
  have hp : PrP p := hp
  have hok : ComOk p a b := hok
  have hp0 : 0 < p := by have := hp.le; omega
  have nd := sc_common.nd
  show BK tb _ H0 [some (kPoly Cp p a).ty, some (kPoly Cp p b).ty] [] _ _
  refine b_while (ζ := List Nat × List Nat) (fun z => [some (kPoly Cp p z.1).ty, some (kPoly Cp p z.2).ty]) (fun z => ComOk p z.1 z.2 ∧ cdN p z.1 z.2 = cdN p a b) (fun z => z.2.length) (fun z => !decide (z.2 = [])) (a, b) ⟨hok, rfl⟩ (Wk.refl _) ?_ ?_ ?_
  · intro z hz
    exact t_not (t_val (e_prop Fz Pc.sc (hr.mono (by decide)) (p, z.2) trivial (Ts := polyTs p z.2) (R := val (tB (decide (z.2 = [])))) (e_v 1 rfl)))
  · rintro ⟨a', b'⟩ ⟨hz, e⟩ hb
    have hb : b' ≠ [] := by simpa using hb
    have hz : ComOk p a' b' := hz
    refine b_par nd 0 1 (e_v 1 rfl) (e_binO Fr rfl Pc.sf (hr.mono (by decide)) (p, a', b') ⟨hp, hz.ra, hz.rb, hb, hz.tb⟩ (Ts := polyTs p a') (Us := polyTs p b') (R := val (kPoly Cp p (remN p a' b')).ty) (e_v 0 rfl) (e_v 1 rfl)) ?_
    refine b_fall fun σ H g => ⟨(b', remN p a' b'), ⟨hz.step hp0 hb, ?_⟩, ?_, g⟩
    · rw [← e]
      show comN p (remN p a' b').length b' (remN p a' b') = comN p b'.length a' b'
      have hl := remN_len (p := p) (one := a') (other := b')
      have h0 : 0 < b'.length := List.length_pos_iff.mpr hb
      obtain ⟨k, hk⟩ : ∃ k, b'.length = k + 1 := ⟨b'.length - 1, by omega⟩
      rw [hk]
      show _ = comN p (k + 1) a' b'
      rw [show comN p (k + 1) a' b' = comN p k b' (remN p a' b') by
        show (if b' = [] then a' else comN p k b' (remN p a' b')) = _
        rw [if_neg hb]]
      exact comN_fuel (Nat.le_refl _) (by omega)
    · have hl := remN_len (p := p) (one := a') (other := b')
      have h0 : 0 < b'.length := List.length_pos_iff.mpr hb
      show (remN p a' b').length < b'.length
      omega
  · rintro ⟨a', b'⟩ ⟨hz, e⟩ hb
    have hb : b' = [] := by simpa using hb
    have hz : ComOk p a' b' := hz
    have e2 : cdN p a b = a' := by rw [← e, hb]; rfl
    refine b_ret (e_call Fm hr (p, a') ⟨hp, hz.ra, hz.ne, hz.ta⟩ (ea_v (e_v 0 rfl) ea_nil)) ?_
    have hD : ∀ v H', Ex tb H0 H' → (val (kPoly Cp p (monN p (cdN p a b))).ty).is H0 v H' → D.rt v H' := hD
    rw [e2] at hD
    exact hD
theorem com_ok {p : Nat} (hp : 0 < p) : ∀ {k : Nat} {a b : List Nat}, b.length ≤ k → ComOk p a b → RowOk p (comN p k a b) ∧ comN p k a b ≠ [] ∧ Tr (comN p k a b)
  | 0, a, b, _, h => ⟨h.ra, h.ne, h.ta⟩
  | k + 1, a, b, hk, h => by
    unfold comN
    by_cases hb : b = []
    · rw [if_pos hb]; exact ⟨h.ra, h.ne, h.ta⟩
    · rw [if_neg hb]
      have hl := remN_len (p := p) (one := a) (other := b)
      exact com_ok hp (by omega) (h.step hp hb)
theorem sc_sqf : FnScope ["poly"] ["poly"] (defScope sSqf) := ⟨rfl, rfl, rfl, by decide +kernel, rfl, by decide +kernel, by decide +kernel⟩
def pmSqf (Cp : Addr) := pmP Cp (fun a => PrP a.1 ∧ RowOk a.1 a.2 ∧ a.2 ≠ [] ∧ Tr a.2) fun a => val (tB (sqfN a.1 a.2))
theorem ok_sqf {f : Addr} {fd : FuncData} (B : Tx K mg) (Pc : PolyF K mg Cp) (Fp : DF P w K mg base tb "require_poly" 1 (pmReqPoly Cp)) (Fz : Prp tb P w K mg base Cp "is_zero" 1 (pmPZero Cp)) (Fg : Prp tb P w K mg base Cp "degree" 1 (pmPDegree Cp)) (Fd : Mth tb P w K mg base Cp "derivative" 6 (pmDer Cp)) (Fc : DF P w K mg base tb "common_of" 9 (pmCommon Cp)) (F : Fun K "is_square_free" "is_square_free" sSqf f fd) : FN P w K mg base tb 10 f fd ["poly"] (pmSqf Cp) := by
  refine fun_tw F sc_sqf (fun _ => rfl) ?_
  rintro ⟨p, r⟩ cdv A outer s H0 E as D ⟨hp, ho, hne, htr⟩ hr ht hD hX
  have hp : PrP p := hp
  have ho : RowOk p r := ho
  have hne : r ≠ [] := hne
  have htr : Tr r := htr
  have hp0 : 0 < p := by have := hp.le; omega
  have hc : ComOk p r (derN p r) := ⟨ho, derN_ok hp0 ho, hne, htr, trim_tr _⟩
  obtain ⟨c1, c2, c3⟩ : RowOk p (cdN p r (derN p r)) ∧ cdN p r (derN p r) ≠ [] ∧ Tr (cdN p r (derN p r)) := com_ok hp0 (Nat.le_refl _) hc
  show BK tb _ H0 [some (kPoly Cp p r).ty] [] _ _
  refine b_expr (e_call Fp (hr.mono (by decide)) (p, r) trivial (ea_v (e_v 0 rfl) ea_nil)) ?_
  refine b_skip ((t_val (e_prop Fz Pc.sc (hr.mono (by decide)) (p, r) trivial (Ts := polyTs p r) (R := val (tB (decide (r = [])))) (e_v 0 rfl))).cast (decide_eq_false hne)) ?_
  refine b_ret (e_eq (n := (monN p (cdN p r (derN p r))).length - 1) (e_prop Fg Pc.sc (hr.mono (by decide)) (p, monN p (cdN p r (derN p r))) ?_ (Ts := polyTs p (monN p (cdN p r (derN p r)))) (e_call Fc hr (p, r, derN p r) ⟨hp, hc⟩ (ea_v (e_v 0 rfl) (ea_v (e_meth0 Fd Pc.sc (hr.mono (by decide)) (p, r) ⟨hp, ho⟩ (Ts := polyTs p r) (e_v 0 rfl)) ea_nil)))) (e_n 0)) hD
  show 0 < (monN p (cdN p r (derN p r))).length
  rw [monN_len hp c1 c2 c3]
  exact List.length_pos_iff.mpr c2
theorem sc_polyAt : FnScope ["prime", "number", "row", "left"] ["prime", "number"] (defScope sPolyAt) := ⟨rfl, rfl, rfl, by decide +kernel, rfl, by decide +kernel, by decide +kernel⟩
def pmPolyAt (Cp : Addr) : Prm (Nat × Nat) := ⟨fun a => [ag (tN a.1), ag (tN a.2)], fun a => PrP a.1 ∧ a.2 < a.1 ^ 10, fun a => val (kPoly Cp a.1 (trimN (digN a.1 a.2))).ty⟩
theorem ok_polyAt {f : Addr} {fd : FuncData} (B : Tx K mg) (Fq : DF P w K mg base tb "require_prime" 3 pmReqPrime) (Fi : DF P w K mg base tb "is_integer" 2 pmInteger) (Fm : DF P w K mg base tb "made" 5 (pmMade Cp)) (F : Fun K "poly_at" "poly_at" sPolyAt f fd) : FN P w K mg base tb 6 f fd ["prime", "number"] (pmPolyAt Cp) := by
  refine fun_tw F sc_polyAt (fun _ => rfl) ?_
  rintro ⟨p, n⟩ cdv A outer s H0 E as D ⟨hp, hn⟩ hr ht hD hX
  have hp : PrP p := hp
  have hn : n < p ^ 10 := hn
  have hpl := hp.le
  have hn2 : n < 10 ^ 10 := Nat.lt_of_lt_of_le hn (Nat.pow_le_pow_left (by omega) 10)
  have nd := sc_polyAt.nd
  show BK tb _ H0 [some (tN p), some (tN n), none, none] [] _ _
  refine b_expr (e_call Fq (hr.mono (by decide)) p hp.ok (ea_v (e_v 0 rfl) ea_nil)) ?_
  refine b_skip (t_or (d := false) (d' := false) (t_not (d := true) (t_val (e_call Fi (hr.mono (by decide)) (n : Int) ⟨by omega, by omega⟩ (ea_v (e_v 1 rfl) ea_nil)))) fun _ => (t_lt (m := 0) (e_v 1 rfl) (e_n 0)).cast (decide_eq_false (Nat.not_lt_zero n))) ?_
  refine b_parLV nd 2 3 (e_lst em_nil) (e_v 1 rfl) fun z hz _ _ => ?_
  refine b_while (ζ := List Nat × Nat) (fun y => [some (tN p), some (tN n), some (tL z (y.1.map kN)), some (tN y.2)]) (fun y => y.1 ++ digN p y.2 = digN p n ∧ y.1.length + (digN p y.2).length ≤ 20) (fun y => y.2) (fun y => decide (0 < y.2)) ([], n) ⟨rfl, by
    have := digN_len (p := p) (by omega) 10 n hn
    show 0 + (digN p n).length ≤ 20
    omega⟩ (Wk.refl _) ?_ ?_ ?_
  · intro y _
    exact t_gt (e_v 3 rfl) (e_n 0)
  · rintro ⟨acc, m⟩ ⟨e, hl⟩ hm
    have hm : 0 < m := by simpa using hm
    have e : acc ++ digN p m = digN p n := e
    have hl : acc.length + (digN p m).length ≤ 20 := hl
    have hs := digN_step (p := p) (n := m) (by omega) (by omega)
    rw [hs] at e hl
    refine b_app (z := z) (K := kN (m % p)) 2 rfl hz ⟨nm, nm, nm, trivial⟩ trivial (by rw [List.length_map]; omega) (e_v 2 rfl) (e_mod (e_v 3 rfl) (e_v 0 rfl) (by omega)) ?_
    refine b_aug nd 3 (U := tN (m / p)) rfl iop_fdiv (rr_divN (by omega) (by omega)) (e_v 0 rfl) ?_
    refine b_fall fun σ H g => ⟨(acc ++ [m % p], m / p), ⟨by
      show acc ++ [m % p] ++ digN p (m / p) = _
      rw [List.append_assoc]
      exact e, by
      rw [List.length_cons] at hl
      show (acc ++ [m % p]).length + _ ≤ 20
      rw [List.length_append]
      show acc.length + 1 + (digN p (m / p)).length ≤ 20
      omega⟩, Nat.div_lt_self hm (by omega), g.wk ⟨rfl, rfl, by
      show some (tL z ((acc.map kN) ++ [kN (m % p)])) = some (tL z ((acc ++ [m % p]).map kN))
      rw [List.map_append]; rfl, rfl, trivial⟩⟩
  · rintro ⟨acc, m⟩ ⟨e1, hl⟩ hm
    have hm : m = 0 := by simpa using hm
    have e : acc ++ digN p m = digN p n := e1
    rw [hm, digN_zero, List.append_nil] at e
    clear e1 hl
    have ho : RowOk p (digN p n) := ⟨digN_lt (by omega) n, by have := digN_len (p := p) (by omega) 10 n hn; omega⟩
    subst hm
    show BK tb _ H0 [some (tN p), some (tN n), some (tL z (acc.map kN)), some (tN 0)] [] _ _
    rw [e]
    exact b_ret (e_call Fm (hr.mono (by decide)) (p, digN p n) ⟨hp, ho⟩ (ea_v (e_v 0 rfl) (ea_l (e_v 2 rfl) ea_nil))) hD
end
end Tw
end STwQ7
section STwQ8
set_option Elab.async false
set_option linter.all false
set_option maxRecDepth 100000
set_option maxHeartbeats 4000000
/-! Promises: counts, orders, shifts, forms. -/
namespace Tw
open PySem PySem.Spec PyProof.Rows L2
section
variable {tb : Tb} {X : Cx} {G : List (Option Ty)} {a b : Expr} {Ts Us : List Im} {pos p1 p2 : Pos}
/-- ( *t, *xs ) -/
theorem e_star2 {k : Nat} (ha : EV tb X G a (val (tT Ts))) (hb : EV tb X G b (anyL Us)) (hz : Ts.length + Us.length ≤ 1000) (hs : starEach [.Starred a p1, .Starred b p2] X.env = (true, eval a X.env) :: starEach [.Starred b p2] X.env := by rfl)
    (hs2 : starEach [.Starred b p2] X.env = (true, eval b X.env) :: starEach [] X.env := by rfl) : EV tb X G (.Tuple [.Starred a p1, .Starred b p2] k pos) (val (tT (Ts ++ Us))) := fun σ H t f Q q =>
  toE (pe_tup (StX.pa_star pe_RE (StX.pa_star pe_RE pa_nil hs2) hs)) (ha σ H t f _ fun v H1 e1 ⟨y, xs, ev, hx, hA⟩ => ⟨y, xs, ev, .inl (SqT.of hx), hb σ H1 (e1.tab t) (f.ex e1) _ fun u H2 e2 ⟨y', eu, ys, hy, hB⟩ => by
    refine ⟨y', ys, eu, .inr (SqL.of hy), ?_⟩
    have hA2 := hA.ex e2
    have l1 := hA2.length
    have l2 := hB.length
    refine ⟨?_, fun p hp => ?_⟩
    · rw [List.append_nil, List.length_append]
      exact Nat.le_trans (show xs.length + ys.length ≤ 1000 by omega) (by decide)
    · rw [List.append_nil]
      exact q _ _ ((e1.trans e2).trans (Ex.new hp)) ⟨p, _, rfl, upd_same, (hA2.app hB).ex (tb := tb) (Ex.new hp)⟩⟩)
end
section
variable {P : Program} {w : World} {K : PySem.W.Frag} {mg : Str → Option Value} {base : Heap} {tb : Tb} {Cp Ce : Addr}
theorem sc_curvesIn : FnScope ["prime", "genus"] ["prime", "genus"] (defScope sCurvesIn) := ⟨rfl, rfl, rfl, by decide +kernel, rfl, by decide +kernel, by decide +kernel⟩
abbrev aPG : Nat × Nat → List Ag := fun a => [ag (tN a.1), ag (tN a.2)]
def PG (a : Nat × Nat) : Prop := PrOk a.1 ∧ a.2 ≤ 3
def pmCurvesIn : Prm (Nat × Nat) := ⟨aPG, PG, fun a => val (tN (cvN a.1 a.2))⟩
theorem ok_curvesIn {f : Addr} {fd : FuncData} (B : Tx K mg) (Fr : DF P w K mg base tb "raised" 1 pmRaised) (F : Fun K "curves_in" "curves_in" sCurvesIn f fd) : FN P w K mg base tb 2 f fd ["prime", "genus"] pmCurvesIn := by
  refine fun_tw F sc_curvesIn (fun _ => rfl) ?_
  rintro ⟨p, g⟩ cdv A outer s H0 E as D ⟨hp, hg⟩ hr ht hD hX
  have hp : PrOk p := hp
  have hg : g ≤ 3 := hg
  have hpl := hp.le
  have hpp : p - 1 < 2 ^ 64 := by omega
  have hD : ∀ v H', Ex tb H0 H' → (val (tN (cvN p g))).is H0 v H' → D.rt v H' := hD
  show BK tb _ H0 [some (tN p), some (tN g)] [] _ _
  refine b_when (t_eq (e_v 1 rfl) (e_n 0)) (fun h => ?_) fun h => ?_
  · have h := of_decide_eq_true h
    have e0 : cvN p g = (p - 1) * p * p := by unfold cvN; rw [if_pos h]
    rw [e0] at hD
    exact b_ret (e_mul (e_mul (e_sub (e_v 0 rfl) (e_n 1) (by omega)) (e_v 0 rfl) (.inl hpp)) (e_v 0 rfl) (.inr (by omega))) hD
  · have h := of_decide_eq_false h
    have e0 : cvN p g = (p - 1) * (p ^ (2 * g + 2) - p ^ (2 * g)) := by unfold cvN; rw [if_neg h]
    rw [e0] at hD
    refine b_ret (e_mul (e_sub (e_v 0 rfl) (e_n 1) (by omega)) (e_sub (e_call Fr hr (p, 2 * g + 2) ⟨by show p < _; omega, by show 2 * g + 2 < _; omega⟩ (ea_v (e_v 0 rfl) (ea_v (e_add (e_mul (e_n 2) (e_v 1 rfl) (.inl (by decide))) (e_n 2)) ea_nil))) (e_call Fr hr (p, 2 * g) ⟨by show p < _; omega, by show 2 * g < _; omega⟩ (ea_v (e_v 0 rfl) (ea_v (e_mul (e_n 2) (e_v 1 rfl) (.inl (by decide))) ea_nil))) ?_) (.inl hpp)) hD
    exact Nat.pow_le_pow_right (by omega) (by omega)
theorem sc_countCurves : FnScope ["prime", "genus"] ["prime", "genus"] (defScope sCountCurves) := ⟨rfl, rfl, rfl, by decide +kernel, rfl, by decide +kernel, by decide +kernel⟩
theorem ok_countCurves {f : Addr} {fd : FuncData} (B : Tx K mg) (Fq : DF P w K mg base tb "require_prime" 3 pmReqPrime) (Fc : DF P w K mg base tb "require_count" 3 pmReqCount) (Fi : DF P w K mg base tb "curves_in" 2 pmCurvesIn) (F : Fun K "count_curves" "count_curves" sCountCurves f fd) : FN P w K mg base tb 4 f fd ["prime", "genus"] pmCurvesIn := by
  refine fun_tw F sc_countCurves (fun _ => rfl) ?_
  rintro ⟨p, g⟩ cdv A outer s H0 E as D ⟨hp, hg⟩ hr ht hD hX
  have hp : PrOk p := hp
  have hg : g ≤ 3 := hg
  obtain ⟨t, hm⟩ := B.maxGenus
  show BK tb _ H0 [some (tN p), some (tN g)] [] _ _
  refine b_expr (e_call Fq hr p hp (ea_v (e_v 0 rfl) ea_nil)) ?_
  refine b_expr (e_call Fc hr (g, 0, 99) ⟨by show 0 ≤ g; omega, by show g ≤ 99; omega, by show g < 10 ^ 59; omega⟩ (ea_v (e_v 1 rfl) (ea_v (e_n 0) (ea_v (e_g (v := .int 99) hm ⟨_, rfl⟩) ea_nil)))) ?_
  exact b_ret (e_call Fi (hr.mono (by decide)) (p, g) ⟨hp, hg⟩ (ea_v (e_v 0 rfl) (ea_v (e_v 1 rfl) ea_nil))) hD
theorem sc_changesIn : FnScope ["prime"] ["prime"] (defScope sChangesIn) := ⟨rfl, rfl, rfl, by decide +kernel, rfl, by decide +kernel, by decide +kernel⟩
def pmChangesIn : Prm Nat := ⟨fun p => [ag (tN p)], PrP, fun p => val (tN (chN p))⟩
theorem ok_changesIn {f : Addr} {fd : FuncData} (F : Fun K "changes_in" "changes_in" sChangesIn f fd) : FN P w K mg base tb 1 f fd ["prime"] pmChangesIn := by
  refine fun_tw F sc_changesIn (fun _ => rfl) ?_
  intro p cdv A outer s H0 E as D hp hr ht hD hX
  have hpl := hp.le
  have hpp : p < 2 ^ 64 := by omega
  have h1 : p ≤ p * p := Nat.le_mul_self p
  have h2 : p * p ≤ 7 * 7 := Nat.mul_le_mul hpl.2 hpl.2
  show BK tb _ H0 [some (tN p)] [] _ _
  exact b_ret (e_mul (e_sub (e_mul (e_v 0 rfl) (e_v 0 rfl) (.inl hpp)) (e_n 1) (by omega)) (e_sub (e_mul (e_v 0 rfl) (e_v 0 rfl) (.inl hpp)) (e_v 0 rfl) h1) (.inl (by omega))) hD
theorem sc_mass : FnScope ["prime", "genus"] ["prime", "genus"] (defScope sMass) := ⟨rfl, rfl, rfl, by decide +kernel, rfl, by decide +kernel, by decide +kernel⟩
def pmMass : Prm (Nat × Nat) := ⟨aPG, PG, fun a => val (tT [kN (massN a.1 a.2).1, kN (massN a.1 a.2).2])⟩
theorem ok_mass {f : Addr} {fd : FuncData} (B : Tx K mg) (Fq : DF P w K mg base tb "require_prime" 3 pmReqPrime) (Fc : DF P w K mg base tb "require_count" 3 pmReqCount) (Fr : DF P w K mg base tb "raised" 1 pmRaised) (F : Fun K "mass" "mass" sMass f fd) : FN P w K mg base tb 4 f fd ["prime", "genus"] pmMass := by
  refine fun_tw F sc_mass (fun _ => rfl) ?_
  rintro ⟨p, g⟩ cdv A outer s H0 E as D ⟨hp, hg⟩ hr ht hD hX
  have hp : PrOk p := hp
  have hg : g ≤ 3 := hg
  have hpl := hp.le
  have h1 : p ≤ p * p := Nat.le_mul_self p
  obtain ⟨t, hm⟩ := B.maxGenus
  have hD : ∀ v H', Ex tb H0 H' → (val (tT [kN (massN p g).1, kN (massN p g).2])).is H0 v H' → D.rt v H' := hD
  show BK tb _ H0 [some (tN p), some (tN g)] [] _ _
  refine b_expr (e_call Fq hr p hp (ea_v (e_v 0 rfl) ea_nil)) ?_
  refine b_expr (e_call Fc hr (g, 0, 99) ⟨by show 0 ≤ g; omega, by show g ≤ 99; omega, by show g < 10 ^ 59; omega⟩ (ea_v (e_v 1 rfl) (ea_v (e_n 0) (ea_v (e_g (v := .int 99) hm ⟨_, rfl⟩) ea_nil)))) ?_
  refine b_when (t_eq (e_v 1 rfl) (e_n 0)) (fun h => ?_) fun h => ?_
  · have h := of_decide_eq_true h
    have e0 : massN p g = (p, p * p - 1) := by unfold massN; rw [if_pos h]
    rw [e0] at hD
    exact b_ret (e_tup (em_cons (K := kN p) (e_v 0 rfl) (em_cons (K := kN (p * p - 1)) (e_sub (e_mul (e_v 0 rfl) (e_v 0 rfl) (.inl (by omega))) (e_n 1) (by omega)) em_nil))) hD
  · have h := of_decide_eq_false h
    have e0 : massN p g = (p ^ (2 * g - 1), 1) := by unfold massN; rw [if_neg h]
    rw [e0] at hD
    exact b_ret (e_tup (em_cons (K := kN (p ^ (2 * g - 1))) (e_call Fr (hr.mono (by decide)) (p, 2 * g - 1) ⟨by show p < _; omega, by show 2 * g - 1 < _; omega⟩ (ea_v (e_v 0 rfl) (ea_v (e_sub (e_mul (e_n 2) (e_v 1 rfl) (.inl (by decide))) (e_n 1) (by omega)) ea_nil))) (em_cons (K := kN 1) (e_n 1) em_nil))) hD
theorem sc_movedOn : FnScope ["prime", "row", "found", "start", "at"] ["prime", "row"] (defScope sMovedOn) := ⟨rfl, rfl, rfl, by decide +kernel, rfl, by decide +kernel, by decide +kernel⟩
def pmMovedOn : Prm (Nat × List Nat) := ⟨fun a => [ag (tN a.1), ag (tRow a.2)], fun a => PrP a.1 ∧ RowOk a.1 a.2 ∧ 2 ≤ a.2.length, fun a => val (tRow (movN a.1 a.2))⟩
theorem ok_movedOn {f : Addr} {fd : FuncData} (B : Tx K mg) (F : Fun K "moved_on" "moved_on" sMovedOn f fd) : FN P w K mg base tb 1 f fd ["prime", "row"] pmMovedOn := by
  refine fun_tw F sc_movedOn (fun _ => rfl) ?_
  rintro ⟨p, r⟩ cdv A outer s H0 E as D ⟨hp, ho, h2⟩ hr ht hD hX
  have hp : PrP p := hp
  have ho : RowOk p r := ho
  have h2 : 2 ≤ r.length := h2
  have hpl := hp.le
  have hp0 : 0 < p := by omega
  have hl := ho.len
  have nd := sc_movedOn.nd
  show BK tb _ H0 [some (tN p), some (tRow r), none, none, none] [] _ _
  refine b_new nd 2 (e_listT B.list (e_v 1 rfl)) fun z hz _ _ => ?_
  refine b_for nd 3 (i_range1 B.range (e_sub (e_lenR B.len (e_v 1 rfl)) (e_n 1) (by omega)) (by omega)) (fun i (_ : Unit) => [some (tN p), some (tRow r), some (tL z ((movOut p r i).map kN)), none, none]) (fun _ _ => True) () trivial ⟨rfl, rfl, rfl, trivial⟩ ?_ ?_
  · intro gv off i T _ hi hT _
    rw [rangeK_len] at hi
    obtain ⟨rfl, _⟩ := rangeK_at hT
    have od1 : OffD z (gv ++ []) := OffD.app (D := []) trivial (off 2 _ z rfl (List.mem_singleton_self _) nm)
    have hlo := movOut_len (p := p) (r := r) i
    rw [Nat.zero_add]
    refine b_for nd 4 (i_down (n := r.length - 2) (k := r.length - 1 - i) B.range (e_subI (e_lenR B.len (e_v 1 rfl)) (e_i 2)) (e_subI (e_v 3 rfl) (e_i 1)) (e_neg (e_i 1)) (by omega) (by omega) (by omega)) (fun m (_ : Unit) => [some (tN p), some (tRow r), some (tL z ((movTo p r.length (movOut p r i) m).map kN)), some (tN i), none]) (fun _ _ => True) () trivial ⟨rfl, rfl, rfl, rfl, trivial⟩ ?_ ?_
    · intro gv2 off2 m T2 _ hm hT2 _
      rw [downK_len] at hm
      obtain ⟨rfl, _⟩ := downK_at hT2
      have od2 : OffD z (gv2 ++ (gv ++ [])) := OffD.app od1 (off2 2 _ z rfl (List.mem_singleton_self _) nm)
      have hlm := movTo_len (p := p) (n := r.length) (R := movOut p r i) m
      have i1 : r.length - 2 - m < (movTo p r.length (movOut p r i) m).length := by omega
      have i2 : r.length - 2 - m + 1 < (movTo p r.length (movOut p r i) m).length := by omega
      refine b_seti (z := z) (K := kN (((movTo p r.length (movOut p r i) m).getD (r.length - 2 - m) 0 + (movTo p r.length (movOut p r i) m).getD (r.length - 2 - m + 1) 0) % p)) 2 rfl hz ⟨nm, nm, nm, nm, trivial⟩ od2 (e_mod (e_add (e_ixLR (e_v 2 rfl) (e_v 4 rfl) (getD_at i1)) (e_ixLR (e_v 2 rfl) (e_add (e_v 4 rfl) (e_n 1)) (getD_at i2))) (e_v 0 rfl) hp0) (e_v 2 rfl) (e_v 4 rfl) (by rw [List.length_map]; exact i1) ?_
      rw [set_map]
      exact b_fall fun _ _ g => ⟨(), trivial, g.wk ⟨rfl, rfl, rfl, rfl, trivial⟩⟩
    · intro _ _
      rw [downK_len]
      exact b_fall fun _ _ g => ⟨(), trivial, g.wk ⟨rfl, rfl, rfl, trivial⟩⟩
  · intro _ _
    rw [rangeK_len]
    exact b_ret (e_tupL B.tuple (e_v 2 rfl)) hD
theorem sc_formRow : FnScope ["poly", "genus"] ["poly", "genus"] (defScope sFormRow) := ⟨rfl, rfl, rfl, by decide +kernel, rfl, by decide +kernel, by decide +kernel⟩
def pmFormRow (Cp : Addr) : Prm ((Nat × List Nat) × Nat) := ⟨fun a => [ag (kPoly Cp a.1.1 a.1.2).ty, ag (tN a.2)], fun a => a.1.2.length ≤ 2 * a.2 + 3 ∧ a.2 ≤ 3, fun a => val (tRow (formN a.1.2 a.2))⟩
theorem ok_formRow {f : Addr} {fd : FuncData} (B : Tx K mg) (Pc : PolyF K mg Cp) (Fe : Prp tb P w K mg base Cp "entries" 1 (pmPEntries Cp)) (F : Fun K "form_row" "form_row" sFormRow f fd) : FN P w K mg base tb 3 f fd ["poly", "genus"] (pmFormRow Cp) := by
  refine fun_tw F sc_formRow (fun _ => rfl) ?_
  rintro ⟨⟨p, r⟩, g⟩ cdv A outer s H0 E as D ⟨hl, hg⟩ hr ht hD hX
  have hl : r.length ≤ 2 * g + 3 := hl
  have hg : g ≤ 3 := hg
  show BK tb _ H0 [some (kPoly Cp p r).ty, some (tN g)] [] _ _
  refine b_ret (EV.cast (e_star2 (Ts := r.map kN) (e_prop Fe Pc.sc (hr.mono (by decide)) (p, r) trivial (Ts := polyTs p r) (R := val (tRow r)) (e_v 0 rfl)) (EV.any (e_repL (EV.any (e_lst (em_cons (K := kN 0) (e_n 0) em_nil))) (i := ((2 * g + 3 - r.length : Nat) : Int)) (e_sub (e_add (e_mul (e_n 2) (e_v 1 rfl) (.inl (by decide))) (e_n 3)) (e_lenR B.len (e_prop Fe Pc.sc (hr.mono (by decide)) (p, r) trivial (Ts := polyTs p r) (R := val (tRow r)) (e_v 0 rfl))) hl) (by show 1 * _ ≤ _; omega) (by omega))) ?_) ?_) hD
  · rw [List.length_map, List.length_flatten]
    simp
    omega
  · show val (tT _) = val (tT ((formN r g).map kN))
    unfold formN
    rw [List.map_append, List.map_replicate]
    congr 3
    rw [Int.toNat_natCast]
    induction (2 * g + 3 - r.length) with
    | zero => rfl
    | succ m ih => rw [List.replicate_succ, List.flatten_cons, List.replicate_succ, ih]; rfl
end
end Tw
end STwQ8
section STwN4
set_option Elab.async false
set_option linter.all false
set_option maxRecDepth 100000
set_option maxHeartbeats 4000000
/-! Mirrors of curves. -/
namespace Tw
open PySem PySem.Spec PyProof.Rows L2
def sqrtN (p n : Nat) : List Nat := (List.range p).filter fun i => decide (i * i % p = n)
theorem sqrtN_lt {p n : Nat} : ∀ x ∈ sqrtN p n, x < p := fun x hx => List.mem_range.mp (List.mem_filter.mp hx).1
theorem sqrtN_len {p n : Nat} : (sqrtN p n).length ≤ p := by
  have h := List.length_filter_le (fun i => decide (i * i % p = n)) (List.range p)
  rw [List.length_range] at h
  exact h
inductive Kind where
  | one
  | two
  | non
deriving DecidableEq
def Kind.str : Kind → Str
  | .one => "one"
  | .two => "two"
  | .non => "none"
def kindN (p : Nat) (r : List Nat) : Kind := if (r.length - 1) % 2 = 1 then .one else if sqrtN p (lastN r) = [] then .non else .two
theorem kind_str (k m : Kind) : (k.str = m.str) ↔ k = m := by
  cases k <;> cases m <;> simp [Kind.str] <;> decide
abbrev rimK (i : Int) : Im := kT [kC (.str "rim"), kI i]
def rimsK (p : Nat) (r : List Nat) : List Im := if kindN p r = .two then (sqrtN p (lastN r)).map fun n : Nat => rimK (n : Int) else [rimK (if kindN p r = .one then 0 else -1)]
theorem rimsK_len {p : Nat} {r : List Nat} (hp : p ≤ 7) : (rimsK p r).length ≤ 7 := by
  unfold rimsK
  split
  · rw [List.length_map]
    exact Nat.le_trans sqrtN_len hp
  · show 1 ≤ 7
    decide
def ptK (e r : Nat) : Im := kT [kT [kN e, kN 1], if r = 0 then kT [] else kT [kN r]]
/-- the roots above the entry e -/
def rootsAt (p : Nat) (r : List Nat) (e : Nat) : List Nat := sqrtN p (evalN p ((p - e) % p) r)
def ptsTo (p : Nat) (r : List Nat) : Nat → List Im
  | 0 => if kindN p r = .non then [] else rimsK p r
  | n + 1 => ptsTo p r n ++ (rootsAt p r n).map (ptK n)
theorem ptsTo_len {p : Nat} {r : List Nat} (hp : p ≤ 7) : ∀ n, (ptsTo p r n).length ≤ 7 + 7 * n
  | 0 => by
    unfold ptsTo
    split
    · exact Nat.zero_le _
    · exact rimsK_len hp
  | n + 1 => by
    unfold ptsTo
    rw [List.length_append, List.length_map]
    have h1 := ptsTo_len (p := p) (r := r) hp n
    have h2 : (rootsAt p r n).length ≤ p := sqrtN_len
    omega
def ptsN (p : Nat) (r : List Nat) : List Im := ptsTo p r p
end Tw
end STwN4
section STwQ9
set_option Elab.async false
set_option linter.all false
set_option maxRecDepth 100000
set_option maxHeartbeats 4000000
/-! Promises: curves. -/
namespace Tw
open PySem PySem.Spec PyProof.Rows L2
section
variable {tb : Tb} {X : Cx} {G : List (Option Ty)} {a b : Expr} {pos : Pos} {s u : Str}
theorem rr_eqS : RR tb rEq (val (tS s)) (val (tS u)) (val (tB (decide (s = u)))) := fun H x H1 y H2 e1 h1 e2 h2 Q k => by
  have h1 : x = .str s := h1
  have h2 : y = .str u := h2
  subst h1 h2
  refine ⟨rfl, k _ _ Ex.refl ?_⟩
  show V.bl _ = V.bl _
  congr 1
  exact decide_eq_decide.mpr ⟨fun q => V.str.inj q, fun q => by rw [q]⟩
theorem rr_neS : RR tb rNe (val (tS s)) (val (tS u)) (val (tB (!decide (s = u)))) := fun H x H1 y H2 e1 h1 e2 h2 Q k => by
  have h1 : x = .str s := h1
  have h2 : y = .str u := h2
  subst h1 h2
  refine ⟨rfl, k _ _ Ex.refl ?_⟩
  show V.bl _ = V.bl _
  congr 2
  exact decide_eq_decide.mpr ⟨fun q => V.str.inj q, fun q => by rw [q]⟩
theorem t_eqS (ha : EV tb X G a (val (tS s))) (hb : EV tb X G b (val (tS u))) (hm : behindInMarks .Eq b = false := by first | exact nomark _ | rfl) : EVT tb X G (.Compare a [.Eq] [b] pos) (decide (s = u)) := t_cmp op_eq rr_eqS ha hb hm
theorem t_neS (ha : EV tb X G a (val (tS s))) (hb : EV tb X G b (val (tS u))) (hm : behindInMarks .NotEq b = false := by first | exact nomark _ | rfl) : EVT tb X G (.Compare a [.NotEq] [b] pos) (!decide (s = u)) := t_cmp op_ne rr_neS ha hb hm
end
theorem All.listT {H : Hp} {Ts : List Im} {xs : List V} (h : All Ts xs H) : All Ts xs H := h
section
variable {P : Program} {w : World} {K : PySem.W.Frag} {mg : Str → Option Value} {base : Heap} {tb : Tb} {Cp Ce Cc : Addr}
theorem sc_roots : FnScope ["prime", "number", "one"] ["prime", "number"] (defScope sRoots) := ⟨rfl, rfl, rfl, by decide +kernel, rfl, by decide +kernel, by decide +kernel⟩
def pmRoots : Prm (Nat × Nat) := ⟨aPG, fun a => PrP a.1, fun a => newL ((sqrtN a.1 a.2).map kN)⟩
theorem ok_roots {f : Addr} {fd : FuncData} (B : Tx K mg) (F : Fun K "square_roots" "square_roots" sRoots f fd) : FN P w K mg base tb 1 f fd ["prime", "number"] pmRoots := by
  refine fun_tw F sc_roots (fun _ => rfl) ?_
  rintro ⟨p, n⟩ cdv A outer s H0 E as D hp hr ht hD hX
  have hp : PrP p := hp
  have hpl := hp.le
  have nd := sc_roots.nd
  show BK tb _ H0 [some (tN p), some (tN n), none] [] _ _
  refine b_ret (EV.cast (e_lc nd 2 (i_range1 B.range (e_v 0 rfl) (by omega)) (blk_of ["prime", "number", "one"] (defScope sRoots)) (fun i => decide (i * i % p = n)) (fun i => kN i) ?_ ?_ (by rw [rangeK_len]; omega)) ?_) hD
  · intro s H' C cl fp i T hi hT
    obtain ⟨rfl, hi⟩ := rangeK_at hT
    rw [Nat.zero_add]
    exact ts_one (t_eq (e_mod (e_mul (e_v 2 rfl) (e_v 2 rfl) (.inl (by omega))) (e_v 0 rfl) (by omega)) (e_v 1 rfl))
  · intro s H' C cl fp i T hi hT _
    obtain ⟨rfl, hi⟩ := rangeK_at hT
    rw [Nat.zero_add]
    exact e_v 2 rfl
  · rw [rangeK_len]
    rfl
theorem sc_kindIn : FnScope ["poly"] ["poly"] (defScope sKindIn) := ⟨rfl, rfl, rfl, by decide +kernel, rfl, by decide +kernel, by decide +kernel⟩
abbrev aP (Cp : Addr) : Nat × List Nat → List Ag := fun a => [ag (kPoly Cp a.1 a.2).ty]
def pmKindIn (Cp : Addr) := pmP Cp (fun a => PrP a.1 ∧ 0 < a.2.length) fun a => val (tS (kindN a.1 a.2).str)
theorem ok_kindIn {f : Addr} {fd : FuncData} (B : Tx K mg) (Pc : PolyF K mg Cp) (Fg : Prp tb P w K mg base Cp "degree" 1 (pmPDegree Cp)) (Fp : Prp tb P w K mg base Cp "prime" 1 (pmPPrime Cp)) (Fl : Prp tb P w K mg base Cp "lead" 1 (pmPLead Cp)) (Fs : DF P w K mg base tb "square_roots" 1 pmRoots) (F : Fun K "kind_in" "kind_in" sKindIn f fd) : FN P w K mg base tb 3 f fd ["poly"] (pmKindIn Cp) := by
  refine fun_tw F sc_kindIn (fun _ => rfl) ?_
  rintro ⟨p, r⟩ cdv A outer s H0 E as D ⟨hp, hl⟩ hr ht hD hX
  have hp : PrP p := hp
  have hl : 0 < r.length := hl
  obtain ⟨t1, g1⟩ := B.one
  obtain ⟨t2, g2⟩ := B.two
  obtain ⟨t3, g3⟩ := B.none
  have hD : ∀ v H', Ex tb H0 H' → (val (tS (kindN p r).str)).is H0 v H' → D.rt v H' := hD
  show BK tb _ H0 [some (kPoly Cp p r).ty] [] _ _
  refine b_when (t_eq (n := (r.length - 1) % 2) (e_mod (e_prop Fg Pc.sc (hr.mono (by decide)) (p, r) hl (Ts := polyTs p r) (R := val (tN (r.length - 1))) (e_v 0 rfl)) (e_n 2) (by decide)) (e_n 1)) (fun h => ?_) fun h => ?_
  · have e0 : kindN p r = .one := by unfold kindN; rw [if_pos (of_decide_eq_true h)]
    rw [e0] at hD
    exact b_ret (e_g (v := .str "one") g1 ⟨_, rfl⟩) hD
  · refine b_ret (e_ife (R := val (tS (kindN p r).str)) (t_neNums (kk := 0) hr (EV.any (e_call Fs (hr.mono (by decide)) (p, lastN r) hp (R := newL ((sqrtN p (lastN r)).map kN)) (ea_v (e_prop Fp Pc.sc (hr.mono (by decide)) (p, r) trivial (Ts := polyTs p r) (R := val (tN p)) (e_v 0 rfl)) (ea_v (e_prop Fl Pc.sc (hr.mono (by decide)) (p, r) trivial (Ts := polyTs p r) (R := val (tN (lastN r))) (e_v 0 rfl)) ea_nil))))) (fun h' => ?_) fun h' => ?_) hD
    · have h' : ¬ sqrtN p (lastN r) = [] := by simpa using h'
      have e0 : kindN p r = .two := by unfold kindN; rw [if_neg (of_decide_eq_false h), if_neg h']
      rw [e0]
      exact e_g (v := .str "two") g2 ⟨_, rfl⟩
    · have h' : sqrtN p (lastN r) = [] := by simpa using h'
      have e0 : kindN p r = .non := by unfold kindN; rw [if_neg (of_decide_eq_false h), if_pos h']
      rw [e0]
      exact e_g (v := .str "none") g3 ⟨_, rfl⟩
theorem sc_rimsIn : FnScope ["poly", "kind", "root"] ["poly", "kind"] (defScope sRimsIn) := ⟨rfl, rfl, rfl, by decide +kernel, rfl, by decide +kernel, by decide +kernel⟩
def pmRimsIn (Cp : Addr) : Prm (Nat × List Nat) := ⟨fun a => [ag (kPoly Cp a.1 a.2).ty, ag (tS (kindN a.1 a.2).str)], fun a => PrP a.1, fun a => val (tT (rimsK a.1 a.2))⟩
theorem ok_rimsIn {f : Addr} {fd : FuncData} (B : Tx K mg) (Pc : PolyF K mg Cp) (Fp : Prp tb P w K mg base Cp "prime" 1 (pmPPrime Cp)) (Fl : Prp tb P w K mg base Cp "lead" 1 (pmPLead Cp)) (Fs : DF P w K mg base tb "square_roots" 1 pmRoots) (F : Fun K "rims_in" "rims_in" sRimsIn f fd) : FN P w K mg base tb 3 f fd ["poly", "kind"] (pmRimsIn Cp) := by
  refine fun_tw F sc_rimsIn (fun _ => rfl) ?_
  rintro ⟨p, r⟩ cdv A outer s H0 E as D hp hr ht hD hX
  have hp : PrP p := hp
  have hpl := hp.le
  have nd := sc_rimsIn.nd
  obtain ⟨t0', g0⟩ := B.rim
  obtain ⟨t1, g1⟩ := B.one
  obtain ⟨t2, g2⟩ := B.two
  have hD : ∀ v H', Ex tb H0 H' → (val (tT (rimsK p r))).is H0 v H' → D.rt v H' := hD
  have hsl : (sqrtN p (lastN r)).length ≤ p := sqrtN_len
  show BK tb _ H0 [some (kPoly Cp p r).ty, some (tS (kindN p r).str), none] [] _ _
  refine b_when (t_eqS (u := Kind.str .two) (e_v 1 rfl) (e_g (v := .str "two") g2 ⟨_, rfl⟩)) (fun h => ?_) fun h => ?_
  · have h := (kind_str _ _).mp (of_decide_eq_true h)
    have e0 : rimsK p r = (sqrtN p (lastN r)).map fun n : Nat => rimK (n : Int) := by unfold rimsK; rw [if_pos h]
    rw [e0] at hD
    refine b_ret (e_tupN B.tuple (EV.cast (e_lc nd 2 (i_new (e_call Fs (hr.mono (by decide)) (p, lastN r) hp (R := newL ((sqrtN p (lastN r)).map kN)) (ea_v (e_prop Fp Pc.sc (hr.mono (by decide)) (p, r) trivial (Ts := polyTs p r) (R := val (tN p)) (e_v 0 rfl)) (ea_v (e_prop Fl Pc.sc (hr.mono (by decide)) (p, r) trivial (Ts := polyTs p r) (R := val (tN (lastN r))) (e_v 0 rfl)) ea_nil)))) (blk_of ["poly", "kind", "root"] (defScope sRimsIn)) (fun _ => true) (fun i => rimK (((sqrtN p (lastN r)).getD i 0 : Nat) : Int)) (fun _ _ _ _ _ _ _ _ _ => ts_nil) ?_ (by rw [List.length_map]; omega)) ?_)) hD
    · intro s H' C cl fp i T hi hT _
      rw [List.length_map] at hi
      have hT2 : T = kN ((sqrtN p (lastN r)).getD i 0) := by
        rw [List.getElem?_map, getD_at hi] at hT
        exact (Option.some.inj hT).symm
      subst hT2
      exact e_tup (em_cons (K := kC (.str "rim")) (e_g (v := .str "rim") g0 ⟨_, rfl⟩) (em_cons (K := kN ((sqrtN p (lastN r)).getD i 0)) (e_v 2 rfl) em_nil))
    · rw [List.length_map, pick_all (sqrtN p (lastN r)) (fun n : Nat => rimK (n : Int)) _ _ (fun _ _ => rfl) (fun i b hb => by rw [List.getD_eq_getElem?_getD, hb]; rfl)]
  · have h := fun z => (of_decide_eq_false h) ((kind_str _ _).mpr z)
    have e0 : rimsK p r = [rimK (if kindN p r = .one then 0 else -1)] := by unfold rimsK; rw [if_neg h]
    rw [e0] at hD
    refine b_ret (e_tup (em_cons (K := rimK (if kindN p r = .one then 0 else -1)) (e_tup (em_cons (K := kC (.str "rim")) (e_g (v := .str "rim") g0 ⟨_, rfl⟩) (em_cons (K := kI (if kindN p r = .one then 0 else -1)) (e_ife (t_eqS (u := Kind.str .one) (e_v 1 rfl) (e_g (v := .str "one") g1 ⟨_, rfl⟩)) (fun h' => ?_) fun h' => ?_) em_nil))) em_nil)) hD
    · have h' := (kind_str _ _).mp (of_decide_eq_true h')
      rw [if_pos h']
      exact e_i 0
    · have h' := fun z => (of_decide_eq_false h') ((kind_str _ _).mpr z)
      rw [if_neg h']
      exact e_neg (e_i 1)
theorem sc_pointsIn : FnScope ["poly", "rims", "kind", "found", "prime", "entry", "root"] ["poly", "rims", "kind"] (defScope sPointsIn) := ⟨rfl, rfl, rfl, by decide +kernel, rfl, by decide +kernel, by decide +kernel⟩
def pmPointsIn (Cp : Addr) : Prm (Nat × List Nat) := ⟨fun a => [ag (kPoly Cp a.1 a.2).ty, ag (tT (rimsK a.1 a.2)), ag (tS (kindN a.1 a.2).str)], fun a => PrP a.1 ∧ RowOk a.1 a.2, fun a => val (tT (ptsN a.1 a.2))⟩
theorem neg_mod {p e : Nat} (hp : PrP p) (he : e < p) : (-(e : Int)) % (p : Int) = (((p - e) % p : Nat) : Int) := by
  rcases hp with rfl | rfl | rfl <;> omega
theorem ok_pointsIn {f : Addr} {fd : FuncData} (B : Tx K mg) (Pc : PolyF K mg Cp) (Fp : Prp tb P w K mg base Cp "prime" 1 (pmPPrime Cp)) (Fs : DF P w K mg base tb "square_roots" 1 pmRoots) (Fc : Mth tb P w K mg base Cp "__call__" 3 (pmPCall Cp)) (F : Fun K "points_in" "points_in" sPointsIn f fd) : FN P w K mg base tb 4 f fd ["poly", "rims", "kind"] (pmPointsIn Cp) := by
  refine fun_tw F sc_pointsIn (fun _ => rfl) ?_
  rintro ⟨p, r⟩ cdv A outer s H0 E as D ⟨hp, ho⟩ hr ht hD hX
  have hp : PrP p := hp
  have ho : RowOk p r := ho
  have hpl := hp.le
  have nd := sc_pointsIn.nd
  obtain ⟨t3, g3⟩ := B.none
  have hD : ∀ v H', Ex tb H0 H' → (val (tT (ptsN p r))).is H0 v H' → D.rt v H' := hD
  show BK tb _ H0 [some (kPoly Cp p r).ty, some (tT (rimsK p r)), some (tS (kindN p r).str), none, none, none, none] [] _ _
  refine b_parLV (Ts := ptsTo p r 0) nd 3 4 (e_ife (t_neS (u := Kind.str .non) (e_v 2 rfl) (e_g (v := .str "none") g3 ⟨_, rfl⟩)) (fun h => ?_) fun h => ?_) (e_prop Fp Pc.sc (hr.mono (by decide)) (p, r) trivial (Ts := polyTs p r) (R := val (tN p)) (e_v 0 rfl)) fun z hz _ _ => ?_
  · have h : ¬ kindN p r = .non := fun q => by
      rw [q] at h
      simp at h
    unfold ptsTo
    rw [if_neg h]
    exact e_listT B.list (e_v 1 rfl)
  · have h : kindN p r = .non := by
      refine (kind_str _ _).mp ?_
      simpa using h
    unfold ptsTo
    rw [if_pos h]
    exact e_lst em_nil
  refine b_for nd 5 (i_range1 B.range (e_v 4 rfl) (by omega)) (fun i (_ : Unit) => [some (kPoly Cp p r).ty, some (tT (rimsK p r)), some (tS (kindN p r).str), some (tL z (ptsTo p r i)), some (tN p), none, none]) (fun _ _ => True) () trivial ⟨rfl, rfl, rfl, rfl, rfl, trivial⟩ ?_ ?_
  · intro gv off i T _ hi hT _
    rw [rangeK_len] at hi
    obtain ⟨rfl, _⟩ := rangeK_at hT
    have od1 : OffD z (gv ++ []) := OffD.app (D := []) trivial (off 3 _ z rfl (List.mem_singleton_self _) nm)
    rw [Nat.zero_add]
    have hlen := ptsTo_len (p := p) (r := r) hpl.2 i
    have hrl : (rootsAt p r i).length ≤ p := sqrtN_len
    refine b_for nd 6 (i_new (e_call Fs (hr.mono (by decide)) (p, evalN p ((p - i) % p) r) hp (R := newL ((rootsAt p r i).map kN)) (ea_v (e_v 4 rfl) (ea_v (e_callO Fc (hr.mono (by decide)) ((p, r), (p - i) % p) ⟨hp, ho, Nat.mod_lt _ (by omega)⟩ (Ts := polyTs p r) (As := [ag (tN ((p - i) % p))]) (e_v 0 rfl) (ea_v ((e_modI (e_neg (e_v 5 rfl)) (e_v 4 rfl) (by omega)).cast (by rw [neg_mod hp hi])) ea_nil)) ea_nil))))
      (fun m (_ : Unit) => [some (kPoly Cp p r).ty, some (tT (rimsK p r)), some (tS (kindN p r).str), some (tL z (ptsTo p r i ++ ((rootsAt p r i).take m).map (ptK i))), some (tN p), some (tN i), none]) (fun _ _ => True) () trivial ⟨rfl, rfl, rfl, by rw [List.take_zero, List.map_nil, List.append_nil], rfl, rfl, trivial⟩ ?_ ?_
    · intro gv2 off2 m T2 _ hm hT2 _
      rw [List.length_map] at hm
      have hT3 : T2 = kN ((rootsAt p r i).getD m 0) := by
        rw [List.getElem?_map, getD_at hm] at hT2
        exact (Option.some.inj hT2).symm
      subst hT3
      have od2 : OffD z (gv2 ++ (gv ++ [])) := OffD.app od1 (off2 3 _ z rfl (List.mem_singleton_self _) nm)
      refine b_app (z := z) (K := ptK i ((rootsAt p r i).getD m 0)) 3 rfl hz ⟨nm, nm, nm, nm, nm, nm, trivial⟩ od2 (by rw [List.length_append, List.length_map, List.length_take]; omega) (e_v 3 rfl) ?_ ?_
      · refine e_tup (em_cons (K := kT [kN i, kN 1]) (e_tup (em_cons (K := kN i) (e_v 5 rfl) (em_cons (K := kN 1) (e_n 1) em_nil))) (em_cons (K := if (rootsAt p r i).getD m 0 = 0 then kT [] else kT [kN ((rootsAt p r i).getD m 0)]) (e_ife (t_ne (e_v 6 rfl) (e_n 0)) (fun h => ?_) fun h => ?_) em_nil))
        · have h : ¬ (rootsAt p r i).getD m 0 = 0 := by simpa using h
          rw [if_neg h]
          exact e_tup (em_cons (K := kN ((rootsAt p r i).getD m 0)) (e_v 6 rfl) em_nil)
        · have h : (rootsAt p r i).getD m 0 = 0 := by simpa using h
          rw [if_pos h]
          exact e_tup em_nil
      · refine b_fall fun _ _ g => ⟨(), trivial, g.wk ⟨rfl, rfl, rfl, ?_, rfl, rfl, trivial⟩⟩
        rw [take_snoc (getD_at hm), List.map_append, ← List.append_assoc]
        rfl
    · intro _ _
      rw [List.length_map, List.take_length]
      exact b_fall fun _ _ g => ⟨(), trivial, g.wk ⟨rfl, rfl, rfl, rfl, rfl, trivial⟩⟩
  · intro _ _
    rw [rangeK_len]
    exact b_ret (e_tupL B.tuple (e_v 3 rfl)) hD
end
end Tw
end STwQ9
section STwQ10
set_option Elab.async false
set_option linter.all false
set_option maxRecDepth 100000
set_option maxHeartbeats 4000000
/-! Promises: curves made. -/
namespace Tw
open PySem PySem.Spec PyProof.Rows L2
structure CurveF (K : PySem.W.Frag) (mg : Str → Option Value) (Cp C : Addr) : Prop extends ClF K mg "Curve" C where
  s0 : Slo K C "own_f" 0
  s1 : Slo K C "own_genus" 1
  s2 : Slo K C "own_kind" 2
  s3 : Slo K C "own_points" 3
  s4 : Slo K C "own_prime" 4
  s5 : Slo K C "own_rims" 5
  s6 : Slo K C "own_text" 6
  ne : C ≠ Cp
def curveTs (Cp p : Nat) (r : List Nat) : List (Option Im) := [some (kPoly Cp p r), some (kN ((r.length - 1 - 1) / 2)), some (kC (.str (kindN p r).str)), some (kT (ptsN p r)), some (kN p), some (kT (rimsK p r)), some (kS 5000)]
def kCurve (Cp Cc p : Nat) (r : List Nat) : Im := kIns Cc (curveTs Cp p r)
theorem poly_sl {Cp C p : Nat} {r : List Nat} (h : C ≠ Cp) : (kPoly Cp p r).sl C := ⟨h, slI ⟨row_sl, trivial, trivial, trivial, trivial, trivial⟩⟩
theorem rim_sl {C : Nat} {i : Int} : (rimK i).sl C := fun T hT => by
  rcases List.mem_cons.mp hT with rfl | hT
  · trivial
  · rcases List.mem_cons.mp hT with rfl | hT
    · trivial
    · cases hT
theorem rims_sl {C p : Nat} {r : List Nat} : ∀ T ∈ rimsK p r, T.sl C := fun T hT => by
  unfold rimsK at hT
  split at hT
  · obtain ⟨n, _, rfl⟩ := List.mem_map.mp hT
    exact rim_sl
  · rw [List.mem_singleton.mp hT]
    exact rim_sl
theorem nums_sl {C : Nat} (l : List Nat) : (kT (l.map kN)).sl C := row_sl
theorem pt_sl {C e r : Nat} : (ptK e r).sl C := fun T hT => by
  rcases List.mem_cons.mp hT with rfl | hT
  · exact nums_sl [e, 1]
  · rcases List.mem_cons.mp hT with rfl | hT
    · by_cases h : r = 0
      · rw [if_pos h]; exact nums_sl []
      · rw [if_neg h]; exact nums_sl [r]
    · cases hT
theorem pts_sl {C p : Nat} {r : List Nat} : ∀ n, ∀ T ∈ ptsTo p r n, T.sl C
  | 0, T, hT => by
    unfold ptsTo at hT
    split at hT
    · cases hT
    · exact rims_sl T hT
  | n + 1, T, hT => by
    unfold ptsTo at hT
    rcases List.mem_append.mp hT with hT | hT
    · exact pts_sl n T hT
    · obtain ⟨m, _, rfl⟩ := List.mem_map.mp hT
      exact pt_sl
structure CurveOk (p : Nat) (r : List Nat) : Prop where
  hp : PrP p
  row : RowOk p r
  lo : 2 ≤ r.length
  hi : r.length ≤ 9
  tr : Tr r
  sq : sqfN p r = true
section
variable {P : Program} {w : World} {K : PySem.W.Frag} {mg : Str → Option Value} {base : Heap} {tb : Tb} {Cp Ce Cc : Addr}
theorem sc_curveInit : FnScope ["self", "poly"] ["self", "poly"] (defScope sCurveInit) := ⟨rfl, rfl, rfl, by decide +kernel, rfl, by decide +kernel, by decide +kernel⟩
def pmCurveI (Cp Cc : Addr) := pmP Cp (fun a => CurveOk a.1 a.2) fun a => val (kCurve Cp Cc a.1 a.2).ty
theorem ok_curveInit {f : Addr} {fd : FuncData} (B : Tx K mg) (Pc : PolyF K mg Cp) (Cf : CurveF K mg Cp Cc) (Fg : Prp tb P w K mg base Cp "degree" 1 (pmPDegree Cp)) (Fp : Prp tb P w K mg base Cp "prime" 1 (pmPPrime Cp)) (Fs : DF P w K mg base tb "is_square_free" 10 (pmSqf Cp)) (Fk : DF P w K mg base tb "kind_in" 3 (pmKindIn Cp)) (Fr : DF P w K mg base tb "rims_in" 3 (pmRimsIn Cp)) (Ft : DF P w K mg base tb "points_in" 4 (pmPointsIn Cp)) (Fw : Mth tb P w K mg base Cp "__str__" 1 (pmPStr Cp))
    (F : Fun K "__init__" "Curve.__init__" sCurveInit f fd) : FnOk P w K mg base CX0 11 f fd ["self", "poly"] (spI tb (pmCurveI Cp Cc) Cc) := by
  refine fun_init F sc_curveInit (fun _ => rfl) ?_
  rintro ⟨p, r⟩ cdv A outer s H H1 E y dx as D hy hdx hok hr ht hX
  have hok : CurveOk p r := hok
  have hp := hok.hp
  have hpl := hp.le
  have hlo := hok.lo
  have hhi := hok.hi
  have hne : r ≠ [] := fun z => by rw [z] at hlo; simp at hlo
  obtain ⟨q0, h0⟩ := Cf.s0
  obtain ⟨q1, h1⟩ := Cf.s1
  obtain ⟨q2, h2⟩ := Cf.s2
  obtain ⟨q3, h3⟩ := Cf.s3
  obtain ⟨q4, h4⟩ := Cf.s4
  obtain ⟨q5, h5⟩ := Cf.s5
  obtain ⟨q6, h6⟩ := Cf.s6
  obtain ⟨t8, g8⟩ := B.maxDegree
  have ps : (kPoly Cp p r).sl Cc := poly_sl Cf.ne
  have ptl : (kT (ptsN p r)).sl Cc := pts_sl p
  have rl : (kT (rimsK p r)).sl Cc := rims_sl
  show BK tb _ H1 [some (tSelf Cc y dx []), some (kPoly Cp p r).ty] [] _ _
  refine b_skip (t_not (d := true) (t_val (e_isiC true B.isinstance Pc.sc Pc.si Pc.own (Ts := polyTs p r) (e_v 1 rfl) (e_g (v := .ref Cp) Pc.mg rfl)))) ?_
  refine b_skip (t_or (d := false) (d' := false) (t_not (d := true) (EVT.cast (t_chain op_le op_le (rr_le (n := 1) (m := r.length - 1)) (fun _ => rr_le (m := 8)) (e_n 1) (e_prop Fg Pc.sc (hr.mono (by decide)) (p, r) (by show 0 < r.length; omega) (Ts := polyTs p r) (R := val (tN (r.length - 1))) (e_v 1 rfl)) fun _ => e_g (v := .int 8) g8 ⟨_, rfl⟩) (by rw [decide_eq_true (show 1 ≤ r.length - 1 by omega), decide_eq_true (show r.length - 1 ≤ 8 by omega)]; rfl))) fun _ => t_not (d := true) (t_val (e_call Fs hr (p, r) ⟨hp, hok.row, hne, hok.tr⟩ (R := val (tB true)) (ea_v (e_v 1 rfl) ea_nil) (by show val (tB (sqfN p r)) = _; rw [hok.sq])))) ?_
  refine b_slot 0 rfl hy hdx Cf.sc h0 (e_v 1 rfl) (K := kPoly Cp p r) ps ⟨ps, trivial⟩ trivial (slI trivial) ?_ (e_v 0 rfl)
  show BK tb _ H1 [some (tSelf Cc y dx [some (kPoly Cp p r)]), some (kPoly Cp p r).ty] [] _ _
  refine b_slot 0 rfl hy hdx Cf.sc h4 (e_prop Fp Pc.sc (hr.mono (by decide)) (p, r) trivial (Ts := polyTs p r) (e_v 1 rfl)) (K := kN p) trivial ⟨ps, trivial⟩ trivial (slI ⟨ps, trivial⟩) ?_ (e_v 0 rfl)
  show BK tb _ H1 [some (tSelf Cc y dx [some (kPoly Cp p r), none, none, none, some (kN p)]), some (kPoly Cp p r).ty] [] _ _
  refine b_slot 0 rfl hy hdx Cf.sc h2 (e_call Fk (hr.mono (by decide)) (p, r) ⟨hp, by show 0 < r.length; omega⟩ (ea_v (e_v 1 rfl) ea_nil)) (K := kC (.str (kindN p r).str)) trivial ⟨ps, trivial⟩ trivial (slI ⟨ps, trivial, trivial⟩) ?_ (e_v 0 rfl)
  show BK tb _ H1 [some (tSelf Cc y dx [some (kPoly Cp p r), none, some (kC (.str (kindN p r).str)), none, some (kN p)]), some (kPoly Cp p r).ty] [] _ _
  refine b_slot 0 rfl hy hdx Cf.sc h1 (e_div (n := r.length - 1 - 1) (e_sub (e_prop Fg Pc.sc (hr.mono (by decide)) (p, r) (by show 0 < r.length; omega) (Ts := polyTs p r) (R := val (tN (r.length - 1))) (e_v 1 rfl)) (e_n 1) (by omega)) (e_n 2) (by decide) (by decide)) (K := kN ((r.length - 1 - 1) / 2)) trivial ⟨ps, trivial⟩ trivial (slI ⟨ps, trivial, trivial, trivial⟩) ?_ (e_v 0 rfl)
  show BK tb _ H1 [some (tSelf Cc y dx [some (kPoly Cp p r), some (kN ((r.length - 1 - 1) / 2)), some (kC (.str (kindN p r).str)), none, some (kN p)]), some (kPoly Cp p r).ty] [] _ _
  refine b_slot 0 rfl hy hdx Cf.sc h5 (e_call Fr (hr.mono (by decide)) (p, r) hp (ea_v (e_v 1 rfl) (ea_v (e_attrS (K := kC (.str (kindN p r).str)) (e_v 0 rfl) Cf.sc h2 rfl) ea_nil))) (K := kT (rimsK p r)) rl ⟨ps, trivial⟩ trivial (slI ⟨ps, trivial, trivial, trivial, trivial⟩) ?_ (e_v 0 rfl)
  show BK tb _ H1 [some (tSelf Cc y dx [some (kPoly Cp p r), some (kN ((r.length - 1 - 1) / 2)), some (kC (.str (kindN p r).str)), none, some (kN p), some (kT (rimsK p r))]), some (kPoly Cp p r).ty] [] _ _
  refine b_slot 0 rfl hy hdx Cf.sc h3 (e_call Ft (hr.mono (by decide)) (p, r) ⟨hp, hok.row⟩ (ea_v (e_v 1 rfl) (ea_v (e_attrS (K := kT (rimsK p r)) (e_v 0 rfl) Cf.sc h5 rfl) (ea_v (e_attrS (K := kC (.str (kindN p r).str)) (e_v 0 rfl) Cf.sc h2 rfl) ea_nil)))) (K := kT (ptsN p r)) ptl ⟨ps, trivial⟩ trivial (slI ⟨ps, trivial, trivial, trivial, rl, trivial⟩) ?_ (e_v 0 rfl)
  show BK tb _ H1 [some (tSelf Cc y dx [some (kPoly Cp p r), some (kN ((r.length - 1 - 1) / 2)), some (kC (.str (kindN p r).str)), some (kT (ptsN p r)), some (kN p), some (kT (rimsK p r))]), some (kPoly Cp p r).ty] [] _ _
  refine b_slot 0 rfl hy hdx Cf.sc h6 (e_leS (e_join (ej_cons (N := 10) (e_toS e_s (by decide)) (ej_cons (e_fmtO Pc.fm Pc.si.cm Fw (hr.mono (by decide)) (p, r) trivial (Ts := polyTs p r) (e_v 1 rfl)) (ej_cons (N := 10) (e_toS e_s (by decide)) (ej_cons (N := 10) (e_toS (e_fmtN (e_prop Fp Pc.sc (hr.mono (by decide)) (p, r) trivial (Ts := polyTs p r) (R := val (tN p)) (e_v 1 rfl)) (by omega)) (strN_len p (by omega))) ej_nil)))) (by decide)) (by decide)) (K := kS 5000) trivial ⟨ps, trivial⟩ trivial (slI ⟨ps, trivial, trivial, ptl, trivial, rl, trivial⟩) ?_ (e_v 0 rfl)
  show BK tb _ H1 [some (tSelf Cc y dx (curveTs Cp p r)), some (kPoly Cp p r).ty] [] _ _
  exact b_fall fun σ H g => hX σ H g.ex (self_done (Ts := curveTs Cp p r) g 0 rfl ⟨1, kN ((r.length - 1 - 1) / 2), rfl⟩)
abbrev aC (Cp Cc : Addr) (ok : Nat × List Nat → Prop) (res : Nat × List Nat → Rs) : Prm (Nat × List Nat) := ⟨fun a => [ag (kCurve Cp Cc a.1 a.2).ty], ok, res⟩
theorem sc_curveF : FnScope ["self"] ["self"] (defScope sCurveF) := ⟨rfl, rfl, rfl, by decide +kernel, rfl, by decide +kernel, by decide +kernel⟩
def pmCurveF (Cp Cc : Addr) := aC Cp Cc (fun _ => True) fun a => val (kPoly Cp a.1 a.2).ty
theorem ok_curveF {f : Addr} {fd : FuncData} (Cf : CurveF K mg Cp Cc) (F : Fun K "f" "Curve.f" sCurveF f fd) : FN P w K mg base tb 1 f fd ["self"] (pmCurveF Cp Cc) := by
  refine fun_tw F sc_curveF (fun _ => rfl) ?_
  rintro ⟨p, r⟩ cdv A outer s H0 E as D _ hr ht hD hX
  obtain ⟨q, h⟩ := Cf.s0
  show BK tb _ H0 [some (kCurve Cp Cc p r).ty] [] _ _
  exact b_ret (e_attr (Ts := curveTs Cp p r) (e_v 0 rfl) Cf.sc h rfl) hD
theorem sc_curveLen : FnScope ["self"] ["self"] (defScope sCurveLen) := ⟨rfl, rfl, rfl, by decide +kernel, rfl, by decide +kernel, by decide +kernel⟩
def pmCurveLen (Cp Cc : Addr) := aC Cp Cc (fun _ => True) fun a => val (tN (ptsN a.1 a.2).length)
theorem ok_curveLen {f : Addr} {fd : FuncData} (B : Tx K mg) (Cf : CurveF K mg Cp Cc) (F : Fun K "__len__" "Curve.__len__" sCurveLen f fd) : FN P w K mg base tb 1 f fd ["self"] (pmCurveLen Cp Cc) := by
  refine fun_tw F sc_curveLen (fun _ => rfl) ?_
  rintro ⟨p, r⟩ cdv A outer s H0 E as D _ hr ht hD hX
  obtain ⟨q, h⟩ := Cf.s3
  show BK tb _ H0 [some (kCurve Cp Cc p r).ty] [] _ _
  exact b_ret (e_lenT B.len (e_attr (K := kT (ptsN p r)) (Ts := curveTs Cp p r) (e_v 0 rfl) Cf.sc h rfl)) hD
theorem sc_curveOf : FnScope ["prime", "row"] ["prime", "row"] (defScope sCurveOf) := ⟨rfl, rfl, rfl, by decide +kernel, rfl, by decide +kernel, by decide +kernel⟩
def pmCurveOf (Cp Cc : Addr) : Prm (Nat × List Nat) := ⟨fun a => [ag (tN a.1), ag (tRow a.2)], fun a => RowOk a.1 a.2 ∧ CurveOk a.1 (trimN a.2), fun a => val (kCurve Cp Cc a.1 (trimN a.2)).ty⟩
theorem ok_curveOf {f : Addr} {fd : FuncData} (Fm : DF P w K mg base tb "made" 5 (pmMadeT Cp)) (Fc : DefI tb P w K mg base "Curve" Cc 11 (pmCurveI Cp Cc)) (F : Fun K "curve_of" "curve_of" sCurveOf f fd) : FN P w K mg base tb 13 f fd ["prime", "row"] (pmCurveOf Cp Cc) := by
  refine fun_tw F sc_curveOf (fun _ => rfl) ?_
  rintro ⟨p, r⟩ cdv A outer s H0 E as D ⟨ho, hok⟩ hr ht hD hX
  have ho : RowOk p r := ho
  have hok : CurveOk p (trimN r) := hok
  show BK tb _ H0 [some (tN p), some (tRow r)] [] _ _
  exact b_ret (e_make Fc hr (p, trimN r) hok (ea_v (e_call Fm (hr.mono (by decide)) (p, r) ⟨hok.hp, ho⟩ (ea_v (e_v 0 rfl) (ea_v (e_v 1 rfl) ea_nil))) ea_nil)) hD
end
end Tw
end STwQ10
section STwS
set_option Elab.async false
set_option linter.all false
set_option maxRecDepth 100000
set_option maxHeartbeats 4000000
/-! Dicts whose keys are rows. -/
namespace Tw
open PySem PySem.Spec PyProof.Rows L2
/-! ### {t: v} -/
def tDisp1 (tk tv : TE) : TE := fun σ H Q => ∀ p, H p = none → tk σ (upd H p (.dT [])) fun x H1 => tv σ H1 fun y H2 => ∃ (x' y' : V), [(x, y)] = [(x', y')] ∧ H2 p = some (.dT []) ∧ ∃ (b : Addr) (ks : List Key), x' = .ref b ∧ H2 b = some (.tup (ks.map kV)) ∧ Q (.ref p) (upd H2 p (.dT [(ks, y')]))
theorem pe_disp1 {X : Cx} {pos : Pos} {k v : Expr} {tk tv : TE} (hu : X.A.units + 1 < cLine) (hk : PE X k tk) (hv : PE X v tv) : PE X (.Dict [some k] [v] pos) (tDisp1 tk tv) := by
  refine ⟨fun pins s σ H Q I q => ?_⟩
  have hn := I.hok.fresh (Nat.le_refl s.heap.objs.size)
  have I1 := I.laid (a := s.heap.objs.size) (o := .dT []) (h' := s.heap.push { cls := .type "dict", data := .dict #[] }) (t' := s.toks) (fun _ _ q => Heap.get?_push_of_some _ q) (Nat.le_refl _) (dt_empty s.heap I.big)
  have hP : PPs X pos [some k] [v] [(tk, tv)] := pps_cons hk hv pps_nil
  rw [arm_eval_Dict, zip_pairTrees [some k] [v] X.env pos rfl rfl, dictDisplay_pairs (pairTrees [some k] [v] X.env pos) (by simp [pairTrees]) (by simp [pairTrees])]
  refine wpAny_bind (wpAny_standAt (wpAny_bind (wpAny_subDictH (knd := tupleKind (mixKind X.prog X.w)) (Q := fun d s' => wpAny (model X.prog X.w) X.A (pure (Value.ref d)) (EP X pins σ Q) X.xe s') (by show X.A.units < cLine; omega) (by simp [pairTrees]) ?_)))
  refine thn (hP.run pins _ σ _ (fun ps H2 => ∃ (x y : V), ps = [(x, y)] ∧ H2 s.heap.objs.size = some (.dT []) ∧ ∃ (b : Addr) (ks : List Key), x = .ref b ∧ H2 b = some (.tup (ks.map kV)) ∧ Q (.ref s.heap.objs.size) (upd H2 s.heap.objs.size (.dT [(ks, y)]))) I1 (q _ hn)) fun ws s2 ⟨ps, H2, I2, rel, x, y, ep, e, b, ks, ex, eb, q2⟩ => ?_
  subst ep ex
  cases rel with
  | @cons _ bq _ _ r rt =>
    cases rt
    obtain ⟨u1, u2⟩ := bq
    obtain ⟨r1, r2⟩ := r
    have e1 : u1 = Value.ref b := r1
    subst e1
    obtain ⟨z, hd, xs, rel2, dd⟩ := dt_of I2.hok e
    have hxs : xs = [] := by cases rel2; rfl
    subst hxs
    refine ⟨[(ks, b, u2)], ⟨rfl, rfl, key_of I2.hok eb, trivial⟩, dd, fun h' tk' dd' hs => wpAny_pure ⟨.ref s.heap.objs.size, _, ?_, rfl, q2⟩⟩
    obtain ⟨oq, es, ep2, hq, h2, h3, h4, _, h5⟩ := dd'
    refine d_write I2 (by rw [e]; exact True.intro) hs ⟨oq, hq⟩ ⟨by show 1 ≤ _; rw [sizeLine_eq]; omega, hd, [(ks, b, u2)], .cons ⟨rfl, ?_, r2⟩ .nil, oq, es, ep2, hq, h2, h3, h4, h5⟩
    show upd H2 s.heap.objs.size _ b = _
    rw [upd_ne (fun z => by rw [z, e] at eb; cases eb)]
    exact eb
/-! ### d.update(e) -/
def mergeT (kvs more : List (List Key × V)) : List (List Key × V) := more.foldl (fun acc p => putK acc p.1 p.2) kvs
theorem KT_merge {H : Hp} : ∀ {more : List (List Key × V)} {ys : List (List Key × Addr × Value)} {kvs : List (List Key × V)} {xs : List (List Key × Addr × Value)}, KT H more ys → KT H kvs xs → KT H (mergeT kvs more) (storedAllH xs ys)
  | [], [], _, _, .nil, r => r
  | p :: more, q :: ys, kvs, xs, .cons h t, r => by
    obtain ⟨e1, e2, e3⟩ := h
    have r1 : KT H (putK kvs p.1 p.2) (storedH xs q.1 q.2.1 q.2.2) := by
      rw [← e1]
      exact r.put p.1 e2 e3
    exact KT_merge (more := more) (ys := ys) (kvs := putK kvs p.1 p.2) (xs := storedH xs q.1 q.2.1 q.2.2) t r1
theorem mergeT_len : ∀ (more kvs : List (List Key × V)), (mergeT kvs more).length ≤ kvs.length + more.length
  | [], kvs => Nat.le_refl _
  | p :: r, kvs => by
    have h1 := mergeT_len r (putK kvs p.1 p.2)
    have h2 := length_putK kvs p.1 p.2
    show (mergeT (putK kvs p.1 p.2) r).length ≤ _
    rw [List.length_cons]
    omega
/-- all the hashes differ -/
def HashApart (P : Program) (w : World) (ks : List (List Key)) : Prop := (ks.map fun k => (tupleKind (mixKind P w)).hash k).Nodup
def rUpdT (P : Program) (w : World) : V → List V → Hp → VK → Prop := fun x xs H Q => ∃ (a b : Addr) (kvs more : List (List Key × V)), x = .ref a ∧ xs = [.ref b] ∧ a ≠ b ∧ H a = some (.dT kvs) ∧ H b = some (.dT more) ∧ kvs.length + more.length ≤ sizeLine ∧
  (kvs ≠ [] ∨ HashApart P w (more.map (·.1))) ∧ Q .non (upd H a (.dT (mergeT kvs more)))
theorem mt_updT {X : Cx} (hu : X.A.units + 1 < cLine) : MtR X "dict.update" (rUpdT X.prog X.w) := by
  intro pins s σ H x xs v us Q I rx rxs h
  obtain ⟨a, b, kvs, more, rfl, rfl, hab, ha, hb, hsz, hap, q⟩ := h
  cases rx
  cases rxs with
  | cons ry rt =>
    cases rt
    cases ry
    obtain ⟨z1, hd1, xs1, rel1, dd1⟩ := dt_of I.hok ha
    obtain ⟨z2, hd2, xs2, rel2, dd2⟩ := dt_of I.hok hb
    have l1 := Paired.length rel1
    have l2 := Paired.length rel2
    have hm : more.map (·.1) = xs2.map (·.1) := by
      clear q hap hsz hb dd2 z2 l2
      induction rel2 with
      | nil => rfl
      | cons h t ih => rw [List.map_cons, List.map_cons, h.1, ih]
    refine call_update_dictH (knd := tupleKind (mixKind X.prog X.w)) (show (tupleKind (mixKind X.prog X.w)).room X.A.in1 from hu) hab hd2 dd1 dd2 ?_ (by rw [← l1, ← l2]; exact hsz) fun h' dd' _ hs => ?_
    · rcases hap with hk | hk
      · exact .inl fun e => hk (by rw [e] at rel1; cases rel1; rfl)
      · refine .inr ⟨fun y hy => ?_, ?_⟩
        · obtain ⟨oq, _, _, _, _, _, _, his, _⟩ := dd2
          obtain ⟨o1, its, n, g1, g2, _⟩ := his y hy
          exact ⟨o1, g1, g2⟩
        · have e2 := hk
          unfold HashApart at e2
          rw [hm, List.map_map] at e2
          exact e2
    · obtain ⟨oq, es, ep2, hq, h2, h3, h4, _, h5⟩ := dd'
      refine ⟨.non, upd H a (.dT (mergeT kvs more)), d_write I (by rw [ha]; exact True.intro) hs ⟨oq, hq⟩ ⟨Nat.le_trans (mergeT_len more kvs) hsz, hd1, _, (KT_merge rel2 rel1).keeps fun c ys ec => ?_, oq, es, ep2, hq, h2, h3, h4, h5⟩, rfl, q⟩
      rw [upd_ne (fun z => by rw [z, ha] at ec; cases ec)]
      exact ec
end Tw
end STwS
section STwT
set_option Elab.async false
set_option linter.all false
set_option maxRecDepth 100000
set_option maxHeartbeats 4000000
/-! Dicts of rows in the typed layer. -/
namespace Tw
open PySem PySem.Spec PyProof.Rows L2
def putR (ks : List (List Nat)) (r : List Nat) : List (List Nat) := if r ∈ ks then ks else ks ++ [r]
def mergeR (ks ms : List (List Nat)) : List (List Nat) := ms.foldl putR ks
theorem valV_keys (ks : List (List Nat)) (r : List Nat) : (valV (keysN ks) (keyN r)).isSome = decide (r ∈ ks) := by
  induction ks with
  | nil => rfl
  | cons k ks ih =>
    show (valV ((keyN k, V.bl true) :: keysN ks) (keyN r)).isSome = _
    by_cases h : k = r
    · rw [valV_pos (by rw [h]), h]
      simp
    · rw [valV_neg (fun z => h (keyN_inj z)), ih]
      have : (r ∈ k :: ks) ↔ r ∈ ks := by
        rw [List.mem_cons]
        exact ⟨fun q => q.resolve_left (fun e => h e.symm), .inr⟩
      exact decide_eq_decide.mpr this.symm
theorem any_keys (ks : List (List Nat)) (r : List Nat) : ((keysN ks).any fun kv => decide (kv.1 = keyN r)) = decide (r ∈ ks) := by
  induction ks with
  | nil => rfl
  | cons k ks ih =>
    show (decide (keyN k = keyN r) || (keysN ks).any fun kv => decide (kv.1 = keyN r)) = _
    rw [ih]
    by_cases h : k = r
    · simp [h]
    · have h2 : ¬ keyN k = keyN r := fun z => h (keyN_inj z)
      rw [decide_eq_false h2, Bool.false_or]
      have : (r ∈ k :: ks) ↔ r ∈ ks := by
        rw [List.mem_cons]
        exact ⟨fun q => q.resolve_left (fun e => h e.symm), .inr⟩
      exact decide_eq_decide.mpr this.symm
theorem put_keys (ks : List (List Nat)) (r : List Nat) : putK (keysN ks) (keyN r) (V.bl true) = keysN (putR ks r) := by
  unfold putK putR
  rw [any_keys]
  by_cases h : r ∈ ks
  · rw [if_pos (decide_eq_true h), if_pos h]
    unfold keysN
    rw [List.map_map]
    apply List.map_congr_left
    intro a _
    show (if keyN a = keyN r then (keyN a, V.bl true) else (keyN a, V.bl true)) = _
    split <;> rfl
  · rw [if_neg (by simp [h]), if_neg h]
    unfold keysN
    rw [List.map_append]
    rfl
theorem merge_keys (ks : List (List Nat)) : ∀ ms : List (List Nat), mergeT (keysN ks) (keysN ms) = keysN (mergeR ks ms) := by
  intro ms
  induction ms generalizing ks with
  | nil => rfl
  | cons m ms ih =>
    show mergeT (putK (keysN ks) (keyN m) (V.bl true)) (keysN ms) = keysN (mergeR (putR ks m) ms)
    rw [put_keys, ih]
theorem keysN_len (ks : List (List Nat)) : (keysN ks).length = ks.length := by unfold keysN; rw [List.length_map]
theorem putR_len (ks : List (List Nat)) (r : List Nat) : (putR ks r).length ≤ ks.length + 1 := by
  unfold putR
  split
  · omega
  · rw [List.length_append]; simp
/-- a row's tuple as a key -/
theorem row_key {r : List Nat} {v : V} {H : Hp} (h : (kRow r).is v H) : ∃ b, v = .ref b ∧ H b = some (.tup ((keyN r).map kV)) := by
  obtain ⟨e, xs, h1, h2, h3⟩ := h
  exact ⟨e, h1, by rw [keyN_vals, ← h3.nums]; exact h2⟩
section
variable {tb : Tb} {X : Cx} {H0 : Hp} {G G' : List (Option Ty)} {D : List (V × Ty)} {a b e ix : Expr} {es : List Expr} {R : Rs} {pos p apos tp : Pos} {k : Nat} {z z2 : Addr} {ks ms : List (List Nat)} {r : List Nat} {rest : List Stmt} {E : Ends}
theorem e_newD : EV tb X G (.Dict [] [] pos) (newD []) := fun σ H t f Q q => toE pe_dnewT fun p hp => q _ _ (Ex.new hp) ⟨p, hp, rfl, upd_same⟩
theorem e_dict1 {kk : Nat} {p1 : Pos} (hr : Room k X.A) (ha : EV tb X G a (val (tRow r))) : EV tb X G (.Dict [some a] [.Constant (.bool true) kk p1] pos) (newD [r]) := fun σ H t f Q q =>
  toE (pe_disp1 (by have := hr.units; omega) pe_RE pe_RE) fun p hp => by
    have e0 : Ex tb H (upd H p (.dT [])) := Ex.new hp
    refine ha σ _ (e0.tab t) (f.ex e0) _ fun x H1 e1 h1 => e_b σ H1 ((e0.trans e1).tab t) (f.ex (e0.trans e1)) _ fun y H2 e2 h2 => ?_
    obtain ⟨b, ev, hb⟩ := row_key ((kRow r).ex e2 h1)
    have hy : y = .bl true := h2
    have hp2 : H2 p = some (.dT []) := (e1.trans e2).keep p _ upd_same (fun _ z => nomatch z)
    refine ⟨x, y, rfl, hp2, b, keyN r, ev, hb, ?_⟩
    refine q _ _ (((e0.trans e1).trans e2).mut hp fun u z => by rw [hp2] at z; cases z; exact notC_dT) ⟨p, hp, rfl, ?_⟩
    rw [upd_same, hy]
    rfl
theorem t_notinD (hr : Room k X.A) (ha : EV tb X G a (val (tRow r))) (hb : EV tb X G b (val (tD z ks))) (hm : behindInMarks .NotIn b = false := by rfl) : EVT tb X G (.Compare a [.NotIn] [b] pos) (!decide (r ∈ ks)) := fun σ H t f Q q =>
  toT (pt_cmp (pc_dnotin (by have := hr.units; omega) pe_RE pe_RE) hm) (ha σ H t f _ fun v H1 e1 h1 => hb σ H1 (e1.tab t) (f.ex e1) _ fun u H2 e2 h2 => by
    obtain ⟨eu, hd⟩ := h2
    obtain ⟨c, ev, hc⟩ := row_key ((kRow r).ex e2 h1)
    refine ⟨z, valV (keysN ks) (keyN r), eu, by rw [ev]; exact DGet.t hd hc, _, rfl, ?_⟩
    rw [valV_keys]
    exact q H2 (e1.trans e2))
/-- d[row] = True, the dict told by the slot j -/
theorem b_dput {T : List (List Nat) → Ty} (hr : Room k X.A) (j : Nat) (hL : G[j]? = some (some (T ks))) (hT0 : ∀ (v : V) (H : Hp) ks, (T ks).is v H → H z = some (.dT (keysN ks))) (hT1 : ∀ (v : V) (H : Hp) ks ks', (T ks).is v H → (T ks').is v (upd H z (.dT (keysN ks'))))
    (h0 : H0 z = none) (f : Off z (G.set j none)) (fd : OffD z D) (hv : EV tb X G e (val (tB true))) (ho : EV tb X G a (val (tD z ks))) (hi : EV tb X G ix (val (tRow r))) (hlen : ks.length < 16000000) (kk : BK tb X H0 (G.set j (some (T (putR ks r)))) D rest E)
    (hs : swapsWith e (some (.Subscript a ix tp)) pos.line X.env = pure false := by rfl) : BK tb X H0 G D (.Assign [.Subscript a ix tp] e pos :: rest) E :=
  bk_of fun σ H g => toS (ps_dput (by have := hr.units; omega) pe_RE pe_RE pe_RE hs) (hv σ H g.tab g.fit _ fun v H1 e1 h1 => ho σ H1 (e1.tab g.tab) (g.fit.ex e1) _ fun o H2 e2 h2 => hi σ H2 ((e1.trans e2).tab g.tab) (g.fit.ex (e1.trans e2)) _ fun y H3 e3 h3 => by
    have g3 := g.step ((e1.trans e2).trans e3)
    obtain ⟨eo, hd⟩ := (tD z ks).ex e3 h2
    obtain ⟨c, ev, hc⟩ := row_key h3
    have hv : v = .bl true := h1
    subst hv
    refine ⟨z, _, eo, by rw [ev]; exact DPut.t hd hc (by rw [keysN_len, sizeLine_eq]; omega), ?_⟩
    rw [put_keys]
    obtain ⟨v0, q1, q2⟩ := g3.fit.get hL
    refine kk _ _ ?_
    have g4 : En tb H0 (G.set j none) D (σ.set j (some v0)) H3 := ⟨g3.ex, g3.tab, g3.fit.clear j, g3.more⟩
    have g5 := g4.mut (o := .dT (keysN (putR ks r))) h0 hd rfl notC_dT f fd
    have g6 := g5.set (T := T (putR ks r)) (v := v0) (i := j) (hT1 v0 H3 ks _ q2)
    rw [List.set_set, List.set_set, set_same q1] at g6
    exact g6)
theorem b_dputD (hr : Room k X.A) (j : Nat) (hL : G[j]? = some (some (tD z ks))) (h0 : H0 z = none) (f : Off z (G.set j none)) (fd : OffD z D) (hv : EV tb X G e (val (tB true))) (ho : EV tb X G a (val (tD z ks))) (hi : EV tb X G ix (val (tRow r))) (hlen : ks.length < 16000000) (kk : BK tb X H0 (G.set j (some (tD z (putR ks r)))) D rest E)
    (hs : swapsWith e (some (.Subscript a ix tp)) pos.line X.env = pure false := by rfl) : BK tb X H0 G D (.Assign [.Subscript a ix tp] e pos :: rest) E :=
  b_dput (T := tD z) hr j hL (fun _ _ _ h => h.2) (fun _ _ _ _ h => ⟨h.1, upd_same⟩) h0 f fd hv ho hi hlen kk hs
/-- d.update(d2), d in slot j -/
theorem b_upd (hr : Room k X.A) (j : Nat) (hL : G[j]? = some (some (tD z ks))) (h0 : H0 z = none) (f : Off z (G.set j none)) (fd : OffD z D) (ha : EV tb X G a (val (tD z ks))) (hv : EV tb X G e (val (tD z2 ms))) (hne : z ∉ [z2]) (hlen : ks.length + ms.length ≤ 16000000) (hap : ks ≠ [] ∨ HashApart X.prog X.w (ms.map keyN)) (kk : BK tb X H0 (G.set j (some (tD z (mergeR ks ms)))) D rest E)
    (hpe : ∀ {to : TE} {t : TA}, PE X a to → PA X [e] t → PE X (.Call (.Attribute a "update" apos) [e] [] p) (tBM X.K "dict" (rUpdT X.prog X.w) to t) := by exact fun h1 h2 => pe_bm PySem.F.plainAttrs_dict PySem.F.slot_dict_update PySem.F.type_dict_update (mt_updT (by have := hr.units; omega)) h1 h2)
    (hs : swapsWith (.Call (.Attribute a "update" apos) [e] [] p) none pos.line X.env = pure false := by rfl) (hst : starEach [e] X.env = (false, eval e X.env) :: starEach [] X.env := by rfl) : BK tb X H0 G D (.Expr (.Call (.Attribute a "update" apos) [e] [] p) pos :: rest) E :=
  bk_of fun σ H g => toS (ps_expr (hpe pe_RE (pa_cons pe_RE pa_nil hst)) hs) (ha σ H g.tab g.fit _ fun o H1 e1 h1 => by
    refine ⟨by obtain ⟨eo, hd⟩ := _root_.id h1; rw [eo]; exact .inr (.inr (.inl ⟨rfl, .inr ⟨_, hd⟩⟩)), hv σ H1 (e1.tab g.tab) (g.fit.ex e1) _ fun v H2 e2 h2 => ?_⟩
    have g3 := g.step (e1.trans e2)
    obtain ⟨eo, hd⟩ := (tD z ks).ex e2 h1
    obtain ⟨eo2, hd2⟩ := h2
    subst eo2
    refine ⟨z, z2, keysN ks, keysN ms, eo, rfl, fun q => hne (by rw [q]; exact List.mem_singleton_self _), hd, hd2, by rw [keysN_len, keysN_len, sizeLine_eq]; omega, ?_, ?_⟩
    · rcases hap with q | q
      · exact .inl fun w => q (by
          cases ks with
          | nil => rfl
          | cons _ _ => cases w)
      · refine .inr ?_
        have e2 : (keysN ms).map (·.1) = ms.map keyN := by unfold keysN; rw [List.map_map]; rfl
        rw [e2]
        exact q
    · rw [merge_keys]
      obtain ⟨v0, q1, q2⟩ := g3.fit.get hL
      refine kk _ _ ?_
      have g4 : En tb H0 (G.set j none) D (σ.set j (some v0)) H2 := ⟨g3.ex, g3.tab, g3.fit.clear j, g3.more⟩
      have g5 := g4.mut (o := .dT (keysN (mergeR ks ms))) h0 hd rfl notC_dT f fd
      have g6 := g5.set (T := tD z (mergeR ks ms)) (v := v0) (i := j) ⟨q2.1, upd_same⟩
      rw [List.set_set, List.set_set, set_same q1] at g6
      exact g6)
/-- list(d) -/
theorem keys_all {H : Hp} : ∀ {ks : List (List Nat)} {bs : List Addr}, IsKeys H (keysN ks) bs → All (ks.map kRow) (bs.map V.ref) H
  | [], [], _ => trivial
  | k :: ks, b :: bs, .cons h t => ⟨⟨b, k.map vn, rfl, by rw [← keyN_vals]; exact h, All.of_nums k⟩, keys_all (ks := ks) t⟩
theorem e_listD (hc : X.calm = true) (hm : X.mg "list" = none) (ha : EV tb X G a (val (tD z ks))) (hg : Gl X "list" := by rfl) (hs : starEach [a] X.env = (false, eval a X.env) :: starEach [] X.env := by rfl) : EV tb X G (.Call (.Name "list" p) [a] [] pos) (newL (ks.map kRow)) :=
  e_callT (call_list_dT hc) hm (by decide +kernel) (As := [fun _ => tD z ks]) (fun H vs H1 e1 hf Q q => by
    match vs, hf with
    | [v], ⟨⟨_, ev, hd⟩, _⟩ =>
      refine ⟨z, keysN ks, by rw [ev], .inl hd, fun y bs hy hk => q _ _ (Ex.new hy) ⟨y, e1.dom y hy, rfl, bs.map V.ref, upd_same, (keys_all hk).ex (tb := tb) (Ex.new hy)⟩⟩) (ea_cons ha (fun _ _ _ q => ⟨0, q⟩) ea_nil hs) hg (by decide) (by decide) hs
theorem e_lenD (hm : X.mg "len" = none) (ha : EV tb X G a (val (tD z ks))) (hg : Gl X "len" := by rfl) (hs : starEach [a] X.env = (false, eval a X.env) :: starEach [] X.env := by rfl) : EV tb X G (.Call (.Name "len" p) [a] [] pos) (val (tN ks.length)) :=
  e_callB call_len_dT hm PySem.boot_len (As := [fun _ => tD z ks]) (fun H vs H1 e1 hf Q q => by
    match vs, hf with
    | [v], ⟨⟨_, ev, hd⟩, _⟩ => exact ⟨z, keysN ks, by rw [ev], hd, q _ _ Ex.refl (by show V.int _ = V.int _; rw [keysN_len])⟩) (ea_cons ha (fun _ _ _ q => ⟨0, q⟩) ea_nil hs) hg (by decide) (by decide) hs
end
end Tw
end STwT
section STwN5
set_option Elab.async false
set_option linter.all false
set_option maxRecDepth 100000
set_option maxHeartbeats 4000000
/-! Mirrors of the law's own functions. -/
namespace Tw
theorem subM_zero {p x e : Nat} (h : x < p) : subM p x 0 e = x := by
  unfold subM
  rw [Nat.zero_mul]
  show (((x : Int) - 0) % (p : Int)).toNat = x
  rw [Int.sub_zero, Int.emod_eq_of_lt (by omega) (by omega)]
  rfl
theorem set_getD_self {l : List Nat} {k : Nat} (h : k < l.length) : l.set k (l.getD k 0) = l := by
  apply List.ext_getElem?
  intro n
  by_cases hn : n = k
  · subst hn
    rw [List.getElem?_set_self h, getD_at' h]
  · rw [List.getElem?_set_ne (Ne.symm hn)]
theorem subTo_zero {p a : Nat} {other rest : List Nat} (h : ∀ x ∈ rest, x < p) (hl : a + other.length ≤ rest.length) : ∀ i, i ≤ other.length → subTo p 0 a other rest i = rest
  | 0, _ => rfl
  | i + 1, hi => by
    unfold subTo
    rw [subTo_zero h hl i (by omega)]
    have hk : a + i < rest.length := by omega
    rw [subM_zero (h _ (List.mem_of_getElem? (getD_at' hk))), set_getD_self hk]
/-- without the test whether the factor is zero -/
theorem divS_all {p inv at_ : Nat} {other rest : List Nat} (h : ∀ x ∈ rest, x < p) (hl : at_ + other.length ≤ rest.length) : divS p inv other rest at_ = subTo p (rest.getD (at_ + other.length - 1) 0 * inv % p) at_ other rest other.length := by
  unfold divS
  split
  · rename_i z
    rw [z, subTo_zero h hl _ (Nat.le_refl _)]
  · rfl
def monL (p : Nat) (r : List Nat) : List Nat := r.map fun e => e * invN p (lastN r) % p
def freeN (p : Nat) (r : List Nat) : Bool := !decide (derN p r = []) && decide (monL p (cdN p r (derN p r)) = [1])
/-- the monic rows of a degree -/
def monsN (p : Nat) : Nat → List (List Nat)
  | 0 => [[1]]
  | d + 1 => (monsN p d).flatMap fun row => (List.range p).map fun e => e :: row
def timN (p : Nat) (r : List Nat) (c : Nat) : List Nat := trimN (r.map fun e => e * c % p)
def mkIt (p one : Nat) : Nat → Nat × Nat
  | 0 => (one, 1)
  | i + 1 => if (mkIt p one i).1 = 1 then mkIt p one i else ((mkIt p one i).1 * one % p, (mkIt p one i).2 + 1)
def mkOk (p one : Nat) : Bool := decide ((mkIt p one p).2 = p - 1)
def makF (p : Nat) : Nat → Nat → Nat
  | 0, _ => 1
  | k + 1, one => if mkOk p one = true then one else makF p k (one + 1)
def makN (p : Nat) : Nat := makF p (p - 2) 2
def powsN (p one n : Nat) : List Nat := (List.range n).map fun i => one ^ i % p
def zipM (p : Nat) (r s : List Nat) : List Nat := (List.range r.length).map fun i => r.getD i 0 * s.getD i 0 % p
def sclR (p c : Nat) (r : List Nat) : List Nat := r.map fun e => e * c % p
/-- the neighbours of a form -/
def nxtL (p one n : Nat) (r : List Nat) : List (List Nat) := [movN p r, zipM p r (powsN p one n), r.reverse] ++ [sclR p (one * one % p) r]
def clanTo (p one n : Nat) (form : List Nat) : Nat → List (List Nat)
  | 0 => [form]
  | i + 1 => if i < (clanTo p one n form i).length then mergeR (clanTo p one n form i) (nxtL p one n ((clanTo p one n form i).getD i [])) else clanTo p one n form i
theorem clan_stop {p one n : Nat} {form : List Nat} {i : Nat} (h : (clanTo p one n form i).length ≤ i) : ∀ k, clanTo p one n form (i + k) = clanTo p one n form i
  | 0 => rfl
  | k + 1 => by
    have ih := clan_stop h k
    show (if i + k < (clanTo p one n form (i + k)).length then _ else clanTo p one n form (i + k)) = _
    rw [ih, if_neg (by omega)]
def genN (r : List Nat) : Nat := (r.length - 2) / 2
def szN (r : List Nat) : Nat := 2 * genN r + 3
def padN (r : List Nat) : List Nat := r ++ List.replicate (szN r - r.length) 0
def clanN (p : Nat) (r : List Nat) : List (List Nat) := clanTo p (makN p) (szN r) (padN r) 5000
def lotN (p : Nat) (r : List Nat) : List (List Nat) := (clanN p r).map trimN
def mcN (p : Nat) : Nat := p * (p * p - 1) * (p - 1)
def degN (g : Nat) : List Nat := if g = 0 then [1, 2] else [2 * g + 1, 2 * g + 2]
/-- the square-free rows of a degree, each with all its leads -/
def sheetD (p d : Nat) : List (List Nat) := (monsN p d).flatMap fun m => if freeN p m = true then (List.range (p - 1)).map fun i => timN p m (1 + i) else []
def sheetAll (p g : Nat) : List (List Nat) := (degN g).flatMap fun d => sheetD p d
end Tw
end STwN5
section STwW1
set_option Elab.async false
set_option linter.all false
set_option maxRecDepth 100000
set_option maxHeartbeats 4000000
/-! Promises of the law's own defs (1). -/
namespace Tw
open PySem PySem.Spec PyProof.Rows L2
section
variable {P : Program} {w : World} {K : PySem.W.Frag} {mg : Str → Option Value} {base : Heap} {tb : Tb}
theorem sc_lRaised : FnScope ["_law_base", "_law_times_here", "_law_found", "_law_turn"] ["_law_base", "_law_times_here"] (defScope sLRaised) := ⟨rfl, rfl, rfl, by decide +kernel, rfl, by decide +kernel, by decide +kernel⟩
theorem ok_lRaised {f : Addr} {fd : FuncData} (B : Tx K mg) (F : Fun K "_law_raised" "_law_raised" sLRaised f fd) : FN P w K mg base tb 1 f fd ["_law_base", "_law_times_here"] pmRaised := by
  refine fun_tw F sc_lRaised (fun _ => rfl) ?_
  rintro ⟨n, e⟩ cdv A outer s H0 E as D ⟨h1, h2⟩ hr ht hD hX
  have nd := sc_lRaised.nd
  show BK tb _ H0 [some (tN n), some (tN e), none, none] [] _ _
  refine b_set nd 2 (e_n 1) ?_
  refine b_for nd 3 (i_range1 B.range (e_v 1 rfl) h2) (fun i (_ : Unit) => [some (tN n), some (tN e), some (tN (n ^ i)), none]) (fun _ _ => True) () trivial ⟨rfl, rfl, rfl, trivial⟩ ?_ ?_
  · intro gv off i T z hi hT _
    obtain ⟨rfl, hi⟩ := rangeK_at hT
    refine b_set nd 2 (e_mul (e_v 2 rfl) (e_v 0 rfl) (.inr h1)) ?_
    exact b_fall fun _ _ g => ⟨(), trivial, g.wk ⟨rfl, rfl, by rw [Nat.pow_succ], trivial⟩⟩
  · intro z _
    rw [rangeK_len]
    exact b_ret (e_v 2 rfl) hD
theorem sc_lTrim : FnScope ["_law_row", "_law_size"] ["_law_row"] (defScope sLTrim) := ⟨rfl, rfl, rfl, by decide +kernel, rfl, by decide +kernel, by decide +kernel⟩
theorem ok_lTrim {f : Addr} {fd : FuncData} (B : Tx K mg) (F : Fun K "_law_trim" "_law_trim" sLTrim f fd) : FN P w K mg base tb 1 f fd ["_law_row"] pmPolyRow := by
  refine fun_tw F sc_lTrim (fun _ => rfl) ?_
  intro r cdv A outer s H0 E as D hok hr ht hD hX
  have nd := sc_lTrim.nd
  show BK tb _ H0 [some (tL (as 0) (r.map kN)), none] [] _ _
  refine b_set nd 1 (e_lenLR B.len (e_v 0 rfl)) ?_
  refine b_while (fun k => [some (tL (as 0) (r.map kN)), some (tN k)]) (fun k => k ≤ r.length ∧ trimN (r.take k) = trimN r) (fun k => k) (trimT r) r.length ⟨Nat.le_refl _, by rw [List.take_length]⟩ (Wk.refl _) ?_ ?_ ?_
  · intro k ⟨hk, _⟩
    refine t_and (t_gt (e_v 1 rfl) (e_n 0)) fun h => ?_
    have h := of_decide_eq_true h
    exact t_eq (e_ixLR (e_v 0 rfl) (e_sub (e_v 1 rfl) (e_n 1) h) (getD_at (by omega))) (e_n 0)
  · intro k ⟨hk, e⟩ h
    obtain ⟨h1, h2⟩ := trimT_yes hk e h
    refine b_set nd 1 (e_sub (e_v 1 rfl) (e_n 1) h1) ?_
    exact b_fall fun _ _ g => ⟨k - 1, ⟨by omega, h2⟩, by show k - 1 < k; omega, g⟩
  · intro k ⟨hk, e⟩ h
    refine b_ret (e_tupN B.tuple (e_takeL (e_v 0 rfl) (e_v 1 rfl))) ?_
    rw [← List.map_take, trimT_no hk e h]
    exact hD
theorem ok_lTrimT {f : Addr} {fd : FuncData} (B : Tx K mg) (F : Fun K "_law_trim" "_law_trim" sLTrim f fd) : FN P w K mg base tb 1 f fd ["_law_row"] pmPolyRowT := by
  refine fun_tw F sc_lTrim (fun _ => rfl) ?_
  intro r cdv A outer s H0 E as D hok hr ht hD hX
  have nd := sc_lTrim.nd
  show BK tb _ H0 [some (tRow r), none] [] _ _
  refine b_set nd 1 (e_lenR B.len (e_v 0 rfl)) ?_
  refine b_while (fun k => [some (tRow r), some (tN k)]) (fun k => k ≤ r.length ∧ trimN (r.take k) = trimN r) (fun k => k) (trimT r) r.length ⟨Nat.le_refl _, by rw [List.take_length]⟩ (Wk.refl _) ?_ ?_ ?_
  · intro k ⟨hk, _⟩
    refine t_and (t_gt (e_v 1 rfl) (e_n 0)) fun h => ?_
    have h := of_decide_eq_true h
    exact t_eq (e_ixR (e_v 0 rfl) (e_sub (e_v 1 rfl) (e_n 1) h) (getD_at (by omega))) (e_n 0)
  · intro k ⟨hk, e⟩ h
    obtain ⟨h1, h2⟩ := trimT_yes hk e h
    refine b_set nd 1 (e_sub (e_v 1 rfl) (e_n 1) h1) ?_
    exact b_fall fun _ _ g => ⟨k - 1, ⟨by omega, h2⟩, by show k - 1 < k; omega, g⟩
  · intro k ⟨hk, e⟩ h
    refine b_ret (e_tupT B.tuple (e_takeT (e_v 0 rfl) (e_v 1 rfl))) ?_
    rw [← List.map_take, trimT_no hk e h]
    exact hD
theorem sc_lInv : FnScope ["_law_prime", "_law_number_here", "_law_one"] ["_law_prime", "_law_number_here"] (defScope sLInv) := ⟨rfl, rfl, rfl, by decide +kernel, rfl, by decide +kernel, by decide +kernel⟩
theorem ok_lInv {f : Addr} {fd : FuncData} (B : Tx K mg) (F : Fun K "_law_inverse" "_law_inverse" sLInv f fd) : FN P w K mg base tb 1 f fd ["_law_prime", "_law_number_here"] pmInv := by
  refine fun_tw F sc_lInv (fun _ => rfl) ?_
  rintro ⟨p, n⟩ cdv A outer s H0 E as D ⟨hp, hn0, hn⟩ hr ht hD hX
  have hp : PrP p := hp
  have hn0 : n ≠ 0 := hn0
  have hn : n < p := hn
  have hpl := hp.le
  have nd := sc_lInv.nd
  obtain ⟨hi, _⟩ := inv_ok p hp n hn0 hn
  show BK tb _ H0 [some (tN p), some (tN n), none] [] _ _
  refine b_ret (e_ixN (k := 0) (e_lc nd 2 (i_range2 B.range (e_n 1) (e_v 0 rfl) (by omega)) (blk_of ["_law_prime", "_law_number_here", "_law_one"] (defScope sLInv)) (fun i => decide ((1 + i) * n % p = 1)) (fun i => kN (1 + i)) ?_ ?_ (by rw [rangeK_len]; omega)) (e_n 0) ?_) hD
  · intro s H' C cl fp i T hi hT
    obtain ⟨rfl, hi⟩ := rangeK_at hT
    exact ts_one (t_eq (e_mod (e_int B.int (e_mul (e_v 2 rfl) (e_v 1 rfl) (.inr (by omega)))) (e_v 0 rfl) (by omega)) (e_n 1))
  · intro s H' C cl fp i T hi hT _
    obtain ⟨rfl, hi⟩ := rangeK_at hT
    exact e_v 2 rfl
  · rw [rangeK_len]
    unfold pick
    have e1 : ((List.range (p - 1)).filter fun i => decide ((1 + i) * n % p = 1)).map (fun i => kN (1 + i)) = (invL p n).map kN := by
      unfold invL
      rw [List.map_map]
      rfl
    rw [e1]
    exact nums_at hi
theorem sc_lMonic : FnScope ["_law_prime", "_law_row", "_law_lead", "_law_entry"] ["_law_prime", "_law_row"] (defScope sLMonic) := ⟨rfl, rfl, rfl, by decide +kernel, rfl, by decide +kernel, by decide +kernel⟩
abbrev aPR : Nat × List Nat → List Ag := fun a => [ag (tN a.1), ag (tRow a.2)]
def pmLMonic : Prm (Nat × List Nat) := ⟨aPR, fun a => PrP a.1 ∧ RowOk a.1 a.2 ∧ a.2 ≠ [] ∧ Tr a.2, fun a => val (tRow (monL a.1 a.2))⟩
theorem ok_lMonic {f : Addr} {fd : FuncData} (B : Tx K mg) (Fi : DF P w K mg base tb "_law_inverse" 1 pmInv) (F : Fun K "_law_monic" "_law_monic" sLMonic f fd) : FN P w K mg base tb 2 f fd ["_law_prime", "_law_row"] pmLMonic := by
  refine fun_tw F sc_lMonic (fun _ => rfl) ?_
  rintro ⟨p, r⟩ cdv A outer s H0 E as D ⟨hp, ho, hne, htr⟩ hr ht hD hX
  have hp : PrP p := hp
  have ho : RowOk p r := ho
  have hne : r ≠ [] := hne
  have htr : Tr r := htr
  have hpl := hp.le
  have hl := ho.len
  have nd := sc_lMonic.nd
  obtain ⟨_, hinv⟩ := inv_ok p hp (lastN r) (htr hne) (lastN_lt ho hne)
  show BK tb _ H0 [some (tN p), some (tRow r), none, none] [] _ _
  refine b_set nd 2 (T := tN (invN p (lastN r))) (e_call Fi hr (p, lastN r) ⟨hp, htr hne, lastN_lt ho hne⟩ (ea_v (e_v 0 rfl) (ea_v (e_lastR (e_v 1 rfl) (getD_at (by have := List.length_pos_iff.mpr hne; omega))) ea_nil))) ?_
  refine b_ret (e_tupN B.tuple (EV.cast (e_lc nd 3 (i_tup (e_v 1 rfl)) (blk_of ["_law_prime", "_law_row", "_law_lead", "_law_entry"] (defScope sLMonic)) (fun _ => true) (fun i => kN (r.getD i 0 * invN p (lastN r) % p)) (fun _ _ _ _ _ _ _ _ _ => ts_nil) ?_ (by rw [List.length_map]; omega)) ?_)) hD
  · intro s H' C cl fp i T hi hT _
    rw [List.length_map] at hi
    have hT2 : T = kN (r.getD i 0) := by
      rw [List.getElem?_map, getD_at hi] at hT
      exact (Option.some.inj hT).symm
    subst hT2
    exact e_mod (e_int B.int (e_mul (e_v 3 rfl) (e_v 2 rfl) (.inr (by omega)))) (e_v 0 rfl) (by omega)
  · rw [List.length_map, pick_all r (fun e => kN (e * invN p (lastN r) % p)) _ _ (fun _ _ => rfl) (fun i b hb => by rw [List.getD_eq_getElem?_getD, hb]; rfl)]
    unfold monL
    rw [List.map_map]
    rfl
theorem sc_lSlope : FnScope ["_law_prime", "_law_row", "_law_at", "_law_entry"] ["_law_prime", "_law_row"] (defScope sLSlope) := ⟨rfl, rfl, rfl, by decide +kernel, rfl, by decide +kernel, by decide +kernel⟩
def pmLSlope : Prm (Nat × List Nat) := ⟨aPR, fun a => PrP a.1 ∧ RowOk a.1 a.2, fun a => val (tRow (derN a.1 a.2))⟩
theorem ok_lSlope {f : Addr} {fd : FuncData} (B : Tx K mg) (Ft : DF P w K mg base tb "_law_trim" 1 pmPolyRow) (F : Fun K "_law_slope" "_law_slope" sLSlope f fd) : FN P w K mg base tb 2 f fd ["_law_prime", "_law_row"] pmLSlope := by
  refine fun_tw F sc_lSlope (fun _ => rfl) ?_
  rintro ⟨p, r⟩ cdv A outer s H0 E as D ⟨hp, ho⟩ hr ht hD hX
  have hp : PrP p := hp
  have ho : RowOk p r := ho
  have hpl := hp.le
  have hl := ho.len
  have nd := sc_lSlope.nd
  have hdl := (derL_ok (p := p) (by omega) ho).len
  show BK tb _ H0 [some (tN p), some (tRow r), none, none] [] _ _
  refine b_ret (e_call Ft hr ((derL p r).drop 1) (by show ((derL p r).drop 1).length ≤ 1000; rw [List.length_drop]; omega) (ea_n ((e_dropN (EV.cast (R1 := newL ((derL p r).map kN)) (e_lc2 nd 2 3 (i_enumT B.enumerate (e_v 1 rfl)) (fun i => kN i) (fun i => kN (r.getD i 0)) (fun i T h => (enumK_at h).1) (blk_of ["_law_prime", "_law_row", "_law_at", "_law_entry"] (defScope sLSlope)) (fun _ => true) (fun i => kN (i * r.getD i 0 % p)) (fun _ _ _ _ _ _ _ _ _ => ts_nil) ?_ (by rw [enumK_len]; omega)) ?_) (e_n 1)).cast (by rw [← List.map_drop])) ea_nil)) hD
  · intro s H' C cl fp i T hi hT _
    rw [enumK_len] at hi
    have := ho.at (getD_at hi)
    exact e_mod (e_int B.int (e_mul (e_v 2 rfl) (e_v 3 rfl) (.inl (by omega)))) (e_v 0 rfl) (by omega)
  · rw [enumK_len]
    unfold derL pick
    rw [List.filter_eq_self.mpr fun _ _ => rfl, List.map_map]
    rfl
theorem sc_lGenus : FnScope ["_law_row"] ["_law_row"] (defScope sLGenus) := ⟨rfl, rfl, rfl, by decide +kernel, rfl, by decide +kernel, by decide +kernel⟩
def pmLGenus : Prm (List Nat) := ⟨fun r => [ag (tRow r)], fun r => 2 ≤ r.length, fun r => val (tN (genN r))⟩
theorem ok_lGenus {f : Addr} {fd : FuncData} (B : Tx K mg) (F : Fun K "_law_genus" "_law_genus" sLGenus f fd) : FN P w K mg base tb 1 f fd ["_law_row"] pmLGenus := by
  refine fun_tw F sc_lGenus (fun _ => rfl) ?_
  intro r cdv A outer s H0 E as D h2 hr ht hD hX
  show BK tb _ H0 [some (tRow r)] [] _ _
  exact b_ret (e_div (e_sub (e_lenR B.len (e_v 0 rfl)) (e_n 2) h2) (e_n 2) (by decide) (by decide)) hD
theorem sc_lNumber : FnScope ["_law_prime", "_law_row", "_law_found", "_law_entry"] ["_law_prime", "_law_row"] (defScope sLNumber) := ⟨rfl, rfl, rfl, by decide +kernel, rfl, by decide +kernel, by decide +kernel⟩
theorem ok_lNumber {f : Addr} {fd : FuncData} (B : Tx K mg) (F : Fun K "_law_number" "_law_number" sLNumber f fd) : FN P w K mg base tb 1 f fd ["_law_prime", "_law_row"] pmPolyNumber := by
  refine fun_tw F sc_lNumber (fun _ => rfl) ?_
  rintro ⟨p, r⟩ cdv A outer s H0 E as D hok hr ht hD hX
  have hok : p ≤ 31 := hok
  have nd := sc_lNumber.nd
  show BK tb _ H0 [some (tN p), some (tRow r), none, none] [] _ _
  refine b_set nd 2 (e_n 0) ?_
  refine b_for nd 3 (i_tup (e_revR (e_v 1 rfl))) (fun i (_ : Unit) => [some (tN p), some (tRow r), some (tN ((r.reverse.take i).foldl (numStep p) 0)), none]) (fun _ _ => True) () trivial ⟨rfl, rfl, rfl, trivial⟩ ?_ ?_
  · intro gv off i T z hi hT _
    rw [List.length_map] at hi
    have hT2 : T = kN (r.reverse.getD i 0) := by
      rw [List.getElem?_map, getD_at hi] at hT
      exact (Option.some.inj hT).symm
    subst hT2
    refine b_set nd 2 (e_add (e_mul (e_v 2 rfl) (e_v 0 rfl) (.inr (by omega))) (e_v 3 rfl)) ?_
    exact b_fall fun _ _ g => ⟨(), trivial, g.wk ⟨rfl, rfl, by rw [foldl_take _ _ _ (getD_at hi)]; rfl, trivial⟩⟩
  · intro z _
    rw [List.length_map, List.take_length, numR_fold]
    exact b_ret (e_v 2 rfl) hD
theorem sc_lMany : FnScope ["_law_prime"] ["_law_prime"] (defScope sLMany) := ⟨rfl, rfl, rfl, by decide +kernel, rfl, by decide +kernel, by decide +kernel⟩
def pmLMany : Prm Nat := ⟨fun p => [ag (tN p)], PrP, fun p => val (tN (mcN p))⟩
theorem ok_lMany {f : Addr} {fd : FuncData} (F : Fun K "_law_many_changes" "_law_many_changes" sLMany f fd) : FN P w K mg base tb 1 f fd ["_law_prime"] pmLMany := by
  refine fun_tw F sc_lMany (fun _ => rfl) ?_
  intro p cdv A outer s H0 E as D hp hr ht hD hX
  have hpl := hp.le
  have h1 : p ≤ p * p := Nat.le_mul_self p
  show BK tb _ H0 [some (tN p)] [] _ _
  exact b_ret (e_mul (e_mul (e_v 0 rfl) (e_sub (e_mul (e_v 0 rfl) (e_v 0 rfl) (.inl (by omega))) (e_n 1) (by omega)) (.inl (by omega))) (e_sub (e_v 0 rfl) (e_n 1) (by omega)) (.inr (by omega))) hD
theorem sc_lShift : FnScope ["_law_prime", "_law_form", "_law_found", "_law_start", "_law_at"] ["_law_prime", "_law_form"] (defScope sLShift) := ⟨rfl, rfl, rfl, by decide +kernel, rfl, by decide +kernel, by decide +kernel⟩
theorem ok_lShift {f : Addr} {fd : FuncData} (B : Tx K mg) (F : Fun K "_law_shifted" "_law_shifted" sLShift f fd) : FN P w K mg base tb 1 f fd ["_law_prime", "_law_form"] pmMovedOn := by
  refine fun_tw F sc_lShift (fun _ => rfl) ?_
  rintro ⟨p, r⟩ cdv A outer s H0 E as D ⟨hp, ho, h2⟩ hr ht hD hX
  have hp : PrP p := hp
  have ho : RowOk p r := ho
  have h2 : 2 ≤ r.length := h2
  have hpl := hp.le
  have hp0 : 0 < p := by omega
  have hl := ho.len
  have nd := sc_lShift.nd
  show BK tb _ H0 [some (tN p), some (tRow r), none, none, none] [] _ _
  refine b_new nd 2 (e_listT B.list (e_v 1 rfl)) fun z hz _ _ => ?_
  refine b_for nd 3 (i_range1 B.range (e_sub (e_lenR B.len (e_v 1 rfl)) (e_n 1) (by omega)) (by omega)) (fun i (_ : Unit) => [some (tN p), some (tRow r), some (tL z ((movOut p r i).map kN)), none, none]) (fun _ _ => True) () trivial ⟨rfl, rfl, rfl, trivial⟩ ?_ ?_
  · intro gv off i T _ hi hT _
    rw [rangeK_len] at hi
    obtain ⟨rfl, _⟩ := rangeK_at hT
    have od1 : OffD z (gv ++ []) := OffD.app (D := []) trivial (off 2 _ z rfl (List.mem_singleton_self _) nm)
    have hlo := movOut_len (p := p) (r := r) i
    rw [Nat.zero_add]
    refine b_for nd 4 (i_down (n := r.length - 2) (k := r.length - 1 - i) B.range (e_subI (e_lenR B.len (e_v 1 rfl)) (e_i 2)) (e_subI (e_v 3 rfl) (e_i 1)) (e_neg (e_i 1)) (by omega) (by omega) (by omega)) (fun m (_ : Unit) => [some (tN p), some (tRow r), some (tL z ((movTo p r.length (movOut p r i) m).map kN)), some (tN i), none]) (fun _ _ => True) () trivial ⟨rfl, rfl, rfl, rfl, trivial⟩ ?_ ?_
    · intro gv2 off2 m T2 _ hm hT2 _
      rw [downK_len] at hm
      obtain ⟨rfl, _⟩ := downK_at hT2
      have od2 : OffD z (gv2 ++ (gv ++ [])) := OffD.app od1 (off2 2 _ z rfl (List.mem_singleton_self _) nm)
      have hlm := movTo_len (p := p) (n := r.length) (R := movOut p r i) m
      have i1 : r.length - 2 - m < (movTo p r.length (movOut p r i) m).length := by omega
      have i2 : r.length - 2 - m + 1 < (movTo p r.length (movOut p r i) m).length := by omega
      refine b_seti (z := z) (K := kN (((movTo p r.length (movOut p r i) m).getD (r.length - 2 - m) 0 + (movTo p r.length (movOut p r i) m).getD (r.length - 2 - m + 1) 0) % p)) 2 rfl hz ⟨nm, nm, nm, nm, trivial⟩ od2 (e_mod (e_int B.int (e_add (e_ixLR (e_v 2 rfl) (e_v 4 rfl) (getD_at i1)) (e_ixLR (e_v 2 rfl) (e_add (e_v 4 rfl) (e_n 1)) (getD_at i2)))) (e_v 0 rfl) hp0) (e_v 2 rfl) (e_v 4 rfl) (by rw [List.length_map]; exact i1) ?_
      rw [set_map]
      exact b_fall fun _ _ g => ⟨(), trivial, g.wk ⟨rfl, rfl, rfl, rfl, trivial⟩⟩
    · intro _ _
      rw [downK_len]
      exact b_fall fun _ _ g => ⟨(), trivial, g.wk ⟨rfl, rfl, rfl, trivial⟩⟩
  · intro _ _
    rw [rangeK_len]
    exact b_ret (e_tupL B.tuple (e_v 2 rfl)) hD
end
end Tw
end STwW1
section STwW2
set_option Elab.async false
set_option linter.all false
set_option maxRecDepth 100000
set_option maxHeartbeats 4000000
/-! Promises of the law's own defs (2): division, common divisors. -/
namespace Tw
open PySem PySem.Spec PyProof.Rows L2
/-- a pair of rows, the second told -/
def dvS (r : List Nat) : Rs := ⟨fun _ v H => ∃ q : List Nat, (kT [kRow q, kRow r]).is v H, fun _ ⟨q, h⟩ e => ⟨q, (kT [kRow q, kRow r]).ex e h⟩⟩
section
variable {tb : Tb} {X : Cx} {G : List (Option Ty)} {a : Expr} {pos : Pos} {r : List Nat}
theorem e_ix1S {k : Nat} {p1 : Pos} (ha : EV tb X G a (dvS r)) (hs : PlainIx (.Constant (.int 1) k p1) := by exact fun _ _ => rfl) : EV tb X G (.Subscript a (.Constant (.int 1) k p1) pos) (val (tRow r)) :=
  e_ixr ix_tup (fun H x H1 y H2 e1 (h : (dvS r).is H x H1) e2 (h5 : (val (tI 1)).is H1 y H2) Q q => by
    obtain ⟨c, h⟩ := h
    obtain ⟨e, xs, ev, hx, hA⟩ := (kT [kRow c, kRow r]).ex e2 h
    cases h5
    match xs, hA with
    | [u, v], ⟨_, h2, _⟩ => exact ⟨e, [u, v], 1, v, ev, rfl, SqT.of hx, rfl, q _ _ Ex.refl h2⟩) ha (e_i 1) hs
end
section
variable {P : Program} {w : World} {K : PySem.W.Frag} {mg : Str → Option Value} {base : Heap} {tb : Tb}
abbrev nLDiv : List Str := ["_law_prime", "_law_one", "_law_other", "_law_left", "_law_lead", "_law_found", "_law_place", "_law_factor", "_law_at", "_law_entry", "_law_taken"]
theorem sc_lDiv : FnScope nLDiv ["_law_prime", "_law_one", "_law_other"] (defScope sLDiv) := ⟨rfl, rfl, rfl, by decide +kernel, rfl, by decide +kernel, by decide +kernel⟩
def pmLDiv : Prm (Nat × List Nat × List Nat) := ⟨fun a => [ag (tN a.1), ag (tRow a.2.1), ag (tRow a.2.2)], fun a => PrP a.1 ∧ RowOk a.1 a.2.1 ∧ RowOk a.1 a.2.2 ∧ a.2.2 ≠ [] ∧ lastN a.2.2 ≠ 0, fun a => dvS (remN a.1 a.2.1 a.2.2)⟩
theorem ok_lDiv {f : Addr} {fd : FuncData} (B : Tx K mg) (Fi : DF P w K mg base tb "_law_inverse" 1 pmInv) (Ft : DF P w K mg base tb "_law_trim" 1 pmPolyRow) (F : Fun K "_law_divided" "_law_divided" sLDiv f fd) : FN P w K mg base tb 2 f fd ["_law_prime", "_law_one", "_law_other"] pmLDiv := by
  refine fun_tw F sc_lDiv (fun _ => rfl) ?_
  rintro ⟨p, one, oth⟩ cdv A outer s H0 E as D ⟨hp, ho, hu, hne, hl0⟩ hr ht hD hX
  have hp : PrP p := hp
  have ho : RowOk p one := ho
  have hu : RowOk p oth := hu
  have hne : oth ≠ [] := hne
  have hl0 : lastN oth ≠ 0 := hl0
  have hpl := hp.le
  have hp0 : 0 < p := by omega
  have nd := sc_lDiv.nd
  have hlen1 := ho.len
  have hlen2 := hu.len
  have hsz : 0 < oth.length := List.length_pos_iff.mpr hne
  have hlm : lastN oth % p = lastN oth := Nat.mod_eq_of_lt (lastN_lt hu hne)
  obtain ⟨_, hinv⟩ := inv_ok p hp (lastN oth) hl0 (lastN_lt hu hne)
  generalize hI : invN p (lastN oth) = inv at hinv
  generalize hn : one.length + 1 - oth.length = n
  have hD : ∀ v H', Ex tb H0 H' → (dvS (remN p one oth)).is H0 v H' → D.rt v H' := hD
  show BK tb _ H0 [some (tN p), some (tRow one), some (tRow oth), none, none, none, none, none, none, none, none] [] _ _
  refine b_parLV (U := tN (invN p (lastN oth))) nd 3 4 (e_listT B.list (e_v 1 rfl)) (e_call Fi hr (p, lastN oth) ⟨hp, hl0, lastN_lt hu hne⟩ (ea_v (e_v 0 rfl) (ea_v ((e_mod (e_int B.int (e_lastR (e_v 2 rfl) (getD_at (by omega)))) (e_v 0 rfl) hp0).cast (by show val (tN (lastN oth % p)) = _; rw [hlm])) ea_nil))) fun zr h0r hor _ => ?_
  rw [hI]
  refine b_new nd 5 (Ts := (List.replicate n 0).map kN) (EV.cast (e_repL (EV.any (e_lst (em_cons (K := kN 0) (e_n 0) em_nil))) (i := (n : Int)) ((e_max rfl B.max (e_i 0) (e_addI (e_subI (e_lenR B.len (e_v 1 rfl)) (e_lenR B.len (e_v 2 rfl))) (e_i 1))).cast (val_eq (by congr 1; split <;> omega))) (by show 1 * _ ≤ _; omega) (by omega)) ?_) fun zf h0f hoff hodf => ?_
  · rw [Int.toNat_natCast]
    congr 1
    clear hn
    induction n with
    | zero => rfl
    | succ m ih => rw [List.replicate_succ, List.flatten_cons, List.replicate_succ, List.map_cons, ih]; rfl
  have hzz : zf ∉ [zr] := hoff.at (i := 3) rfl
  refine b_for (ζ := List Nat) nd 6 (i_down (n := n - 1) (k := n) B.range (e_subI (e_lenR B.len (e_v 1 rfl)) (e_lenR B.len (e_v 2 rfl))) (e_neg (e_i 1)) (e_neg (e_i 1)) (by omega) (by omega) (by omega))
    (fun i z => [some (tN p), some (tRow one), some (tRow oth), some (tL zr ((divTo p inv oth one n i).map kN)), some (tN inv), some (tL zf (z.map kN)), none, none, none, none, none]) (fun _ z => z.length = n) (List.replicate n 0) (by rw [List.length_replicate]) ⟨rfl, rfl, rfl, rfl, rfl, rfl, trivial⟩ ?_ ?_
  · intro gv off i T z hi hT hz
    rw [downK_len] at hi
    obtain ⟨rfl, _⟩ := downK_at hT
    have hlR := divTo_len (p := p) (inv := inv) (n := n) (other := oth) (one := one) i
    have hltR := divTo_lt (p := p) (inv := inv) (n := n) (other := oth) (one := one) hp0 ho.lt i
    have hS : divTo p inv oth one n (i + 1) = subTo p ((divTo p inv oth one n i).getD (n - 1 - i + oth.length - 1) 0 * inv % p) (n - 1 - i) oth (divTo p inv oth one n i) oth.length := divS_all hltR (by omega)
    generalize hR : divTo p inv oth one n i = R at hlR hltR hS
    have hix : n - 1 - i + oth.length - 1 < R.length := by omega
    have hRx := hltR _ (List.mem_of_getElem? (getD_at hix))
    generalize hF : R.getD (n - 1 - i + oth.length - 1) 0 * inv % p = fac at hS
    have hfac : fac < p := by rw [← hF]; exact Nat.mod_lt _ hp0
    have od1 : OffD zr (gv ++ []) := OffD.app (D := []) trivial (off 3 _ zr rfl (List.mem_singleton_self _) nm)
    have od2 : OffD zf (gv ++ []) := OffD.app (D := []) trivial (off 5 _ zf rfl (List.mem_singleton_self _) nm)
    refine b_set nd 7 (T := tN fac) ((e_mod (e_int B.int (e_mul (e_ixLR (r := R) (e_v 3 rfl) (e_sub (e_add (e_v 6 rfl) (e_lenR B.len (e_v 2 rfl))) (e_n 1) (by omega)) (getD_at hix)) (e_v 4 rfl) (.inr (by omega)))) (e_v 0 rfl) hp0).cast (by rw [hF])) ?_
    refine b_seti (z := zf) (K := kN fac) 5 rfl h0f ⟨nm, nm, nm, hzz, nm, nm, nm, trivial⟩ od2 (e_v 7 rfl) (e_v 5 rfl) (e_v 6 rfl) (by rw [List.length_map]; omega) ?_
    rw [set_map]
    refine b_for2 nd 8 9 (i_enumT B.enumerate (e_v 2 rfl)) (fun m => kN m) (fun m => kN (oth.getD m 0)) (fun m T h => (enumK_at h).1) (fun m (_ : Unit) => [some (tN p), some (tRow one), some (tRow oth), some (tL zr ((subTo p fac (n - 1 - i) oth R m).map kN)), some (tN inv), some (tL zf ((z.set (n - 1 - i) fac).map kN)), some (tN (n - 1 - i)), some (tN fac), none, none, none]) (fun _ _ => True) () trivial ⟨rfl, rfl, rfl, rfl, rfl, rfl, rfl, rfl, trivial⟩ ?_ ?_
    · intro gv2 off2 m _ hm _
      rw [enumK_len] at hm
      have od3 : OffD zr (gv2 ++ (gv ++ [])) := OffD.app od1 (off2 3 _ zr rfl (List.mem_singleton_self _) nm)
      have hlm := subTo_len (p := p) (f := fac) (a := n - 1 - i) (other := oth) (rest := R) m
      have hixm : n - 1 - i + m < (subTo p fac (n - 1 - i) oth R m).length := by omega
      refine b_set nd 10 (e_int B.int (e_subI (e_ixLR (e_v 3 rfl) (e_add (e_v 6 rfl) (e_v 8 rfl)) (getD_at hixm)) (e_mul (e_v 7 rfl) (e_v 9 rfl) (.inl (by omega))))) ?_
      refine b_seti (z := zr) (K := kN (subM p ((subTo p fac (n - 1 - i) oth R m).getD (n - 1 - i + m) 0) fac (oth.getD m 0))) 3 rfl h0r ⟨nm, nm, nm, nm, ne1' hzz, nm, nm, nm, nm, nm, trivial⟩ od3 ?_ (e_v 3 rfl) (e_add (e_v 6 rfl) (e_v 8 rfl)) (by rw [List.length_map]; exact hixm) ?_
      · refine (e_modI (e_v 10 rfl) (e_v 0 rfl) (by omega)).cast ?_
        rw [← subM_int hp0]
      · rw [set_map]
        exact b_fall fun _ _ g => ⟨(), trivial, g.wk ⟨rfl, rfl, rfl, rfl, rfl, rfl, rfl, rfl, trivial⟩⟩
    · intro _ _
      rw [enumK_len]
      exact b_fall fun σ H g => ⟨z.set (n - 1 - i) fac, by rw [List.length_set]; exact hz, by rw [hS]; exact g.wk ⟨rfl, rfl, rfl, rfl, rfl, rfl, trivial⟩⟩
  · intro z hz
    rw [downK_len]
    refine b_ret (R := dvS (remN p one oth)) (EV.imp (e_tup (Ts := [kRow (trimN z), kRow (remN p one oth)]) (em_cons (K := kRow (trimN z)) (e_call Ft hr z (by show z.length ≤ 1000; omega) (ea_l (e_v 5 rfl) ea_nil)) (em_cons (K := kRow (remN p one oth)) (e_call Ft hr (restL p one oth) (by show (restL p one oth).length ≤ 1000; have := (restL_ok (other := oth) hp0 ho).len; omega) (ea_n ((e_takeL (e_v 3 rfl) (e_sub (e_lenR B.len (e_v 2 rfl)) (e_n 1) hsz)).cast ?_) ea_nil)) em_nil))) fun _ v _ h => ⟨trimN z, h⟩) hD
    rw [← List.map_take]
    unfold restL
    rw [hI, hn]
theorem sc_lRest : FnScope ["_law_prime", "_law_one", "_law_other"] ["_law_prime", "_law_one", "_law_other"] (defScope sLRest) := ⟨rfl, rfl, rfl, by decide +kernel, rfl, by decide +kernel, by decide +kernel⟩
def pmLRest : Prm (Nat × List Nat × List Nat) := ⟨fun a => [ag (tN a.1), ag (tRow a.2.1), ag (tRow a.2.2)], fun a => PrP a.1 ∧ RowOk a.1 a.2.1 ∧ RowOk a.1 a.2.2 ∧ a.2.2 ≠ [] ∧ lastN a.2.2 ≠ 0, fun a => val (tRow (remN a.1 a.2.1 a.2.2))⟩
theorem ok_lRest {f : Addr} {fd : FuncData} (Fd : DF P w K mg base tb "_law_divided" 2 pmLDiv) (F : Fun K "_law_rest" "_law_rest" sLRest f fd) : FN P w K mg base tb 3 f fd ["_law_prime", "_law_one", "_law_other"] pmLRest := by
  refine fun_tw F sc_lRest (fun _ => rfl) ?_
  rintro ⟨p, one, oth⟩ cdv A outer s H0 E as D hok hr ht hD hX
  show BK tb _ H0 [some (tN p), some (tRow one), some (tRow oth)] [] _ _
  exact b_ret (e_ix1S (e_call Fd hr (p, one, oth) hok (ea_v (e_v 0 rfl) (ea_v (e_v 1 rfl) (ea_v (e_v 2 rfl) ea_nil))))) hD
theorem sc_lCommon : FnScope ["_law_prime", "_law_one", "_law_other", "_law_turn"] ["_law_prime", "_law_one", "_law_other"] (defScope sLCommon) := ⟨rfl, rfl, rfl, by decide +kernel, rfl, by decide +kernel, by decide +kernel⟩
def pmLCommon : Prm (Nat × List Nat × List Nat) := ⟨fun a => [ag (tN a.1), ag (tRow a.2.1), ag (tRow a.2.2)], fun a => PrP a.1 ∧ ComOk a.1 a.2.1 a.2.2, fun a => val (tRow (monL a.1 (cdN a.1 a.2.1 a.2.2)))⟩
theorem ok_lCommon {f : Addr} {fd : FuncData} (B : Tx K mg) (Fr : DF P w K mg base tb "_law_rest" 3 pmLRest) (Fm : DF P w K mg base tb "_law_monic" 2 pmLMonic) (F : Fun K "_law_common" "_law_common" sLCommon f fd) : FN P w K mg base tb 4 f fd ["_law_prime", "_law_one", "_law_other"] pmLCommon := by
  refine fun_tw F sc_lCommon (fun _ => rfl) ?_
  rintro ⟨p, a, b⟩ cdv A outer s H0 E as D ⟨hp, hok⟩ hr ht hD hX
  have hp : PrP p := hp
  have hok : ComOk p a b := hok
  have hp0 : 0 < p := by have := hp.le; omega
  have nd := sc_lCommon.nd
  have hla := hok.ra.len
  have hlb := hok.rb.len
  have hD : ∀ v H', Ex tb H0 H' → (val (tRow (monL p (cdN p a b)))).is H0 v H' → D.rt v H' := hD
  show BK tb _ H0 [some (tN p), some (tRow a), some (tRow b), none] [] _ _
  refine b_for (ζ := List Nat × List Nat) nd 3 (i_range1 B.range (e_add (e_add (e_lenR B.len (e_v 1 rfl)) (e_lenR B.len (e_v 2 rfl))) (e_n 1)) (by omega)) (fun i z => [some (tN p), some (tRow z.1), some (tRow z.2), none]) (fun i z => ComOk p z.1 z.2 ∧ cdN p z.1 z.2 = cdN p a b ∧ (z.2 = [] ∨ z.2.length + i ≤ b.length)) (a, b) ⟨hok, rfl, .inr (by show b.length + 0 ≤ _; omega)⟩ ⟨rfl, rfl, rfl, trivial⟩ ?_ ?_
  · rintro gv off i T ⟨a', b'⟩ hi hT ⟨hz, e, hl⟩
    have hz : ComOk p a' b' := hz
    have e : cdN p a' b' = cdN p a b := e
    refine b_when (t_eqR (r := b') (s := []) hr (e_v 2 rfl) e_nilR) (fun h => b_break fun σ H g => ?_) fun h => ?_
    · have hb : b' = [] := of_decide_eq_true h
      have e2 : cdN p a b = a' := by rw [← e, hb]; rfl
      rw [e2] at hD
      refine b_ret (R := val (tRow (monL p a'))) ?_ hD σ H g
      exact e_call Fm (hr.mono (by decide)) (p, a') ⟨hp, hz.ra, hz.ne, hz.ta⟩ (ea_v (e_v 0 rfl) (ea_v (e_v 1 rfl) ea_nil))
    · have hb : b' ≠ [] := of_decide_eq_false h
      have hl : b' = [] ∨ b'.length + i ≤ b.length := hl
      refine b_par nd 1 2 (e_v 2 rfl) (e_call Fr hr (p, a', b') ⟨hp, hz.ra, hz.rb, hb, hz.tb hb⟩ (R := val (tRow (remN p a' b'))) (ea_v (e_v 0 rfl) (ea_v (e_v 1 rfl) (ea_v (e_v 2 rfl) ea_nil)))) ?_
      have hrl := remN_len (p := p) (one := a') (other := b')
      have h0 : 0 < b'.length := List.length_pos_iff.mpr hb
      refine b_fall fun σ H g => ⟨(b', remN p a' b'), ⟨hz.step hp0 hb, ?_, .inr ?_⟩, g.wk ⟨rfl, rfl, rfl, trivial⟩⟩
      · rw [← e]
        show comN p (remN p a' b').length b' (remN p a' b') = comN p b'.length a' b'
        obtain ⟨k, hk⟩ : ∃ k, b'.length = k + 1 := ⟨b'.length - 1, by omega⟩
        rw [hk]
        rw [show comN p (k + 1) a' b' = comN p k b' (remN p a' b') by
          show (if b' = [] then a' else comN p k b' (remN p a' b')) = _
          rw [if_neg hb]]
        exact comN_fuel (Nat.le_refl _) (by omega)
      · show (remN p a' b').length + (i + 1) ≤ b.length
        have := hl.resolve_left hb
        omega
  · rintro ⟨a', b'⟩ ⟨hz, e, hl⟩
    rw [rangeK_len] at hl
    have hz : ComOk p a' b' := hz
    have e : cdN p a' b' = cdN p a b := e
    have hl : b' = [] ∨ b'.length + (a.length + b.length + 1) ≤ b.length := hl
    have hb : b' = [] := hl.resolve_right (by omega)
    have e2 : cdN p a b = a' := by rw [← e, hb]; rfl
    rw [e2] at hD
    exact b_ret (e_call Fm (hr.mono (by decide)) (p, a') ⟨hp, hz.ra, hz.ne, hz.ta⟩ (ea_v (e_v 0 rfl) (ea_v (e_v 1 rfl) ea_nil))) hD
theorem sc_lFree : FnScope ["_law_prime", "_law_row", "_law_slope_here"] ["_law_prime", "_law_row"] (defScope sLFree) := ⟨rfl, rfl, rfl, by decide +kernel, rfl, by decide +kernel, by decide +kernel⟩
def pmLFree : Prm (Nat × List Nat) := ⟨aPR, fun a => PrP a.1 ∧ RowOk a.1 a.2 ∧ a.2 ≠ [] ∧ Tr a.2, fun a => val (tB (freeN a.1 a.2))⟩
theorem ok_lFree {f : Addr} {fd : FuncData} (Fs : DF P w K mg base tb "_law_slope" 2 pmLSlope) (Fc : DF P w K mg base tb "_law_common" 4 pmLCommon) (F : Fun K "_law_is_free" "_law_is_free" sLFree f fd) : FN P w K mg base tb 5 f fd ["_law_prime", "_law_row"] pmLFree := by
  refine fun_tw F sc_lFree (fun _ => rfl) ?_
  rintro ⟨p, r⟩ cdv A outer s H0 E as D ⟨hp, ho, hne, htr⟩ hr ht hD hX
  have hp : PrP p := hp
  have ho : RowOk p r := ho
  have hne : r ≠ [] := hne
  have htr : Tr r := htr
  have hp0 : 0 < p := by have := hp.le; omega
  have nd := sc_lFree.nd
  have hc : ComOk p r (derN p r) := ⟨ho, derN_ok hp0 ho, hne, htr, trim_tr _⟩
  show BK tb _ H0 [some (tN p), some (tRow r), none] [] _ _
  refine b_set nd 2 (T := tRow (derN p r)) (e_call Fs (hr.mono (by decide)) (p, r) ⟨hp, ho⟩ (ea_v (e_v 0 rfl) (ea_v (e_v 1 rfl) ea_nil))) ?_
  exact b_ret (e_and (e_neR hr (e_v 2 rfl) e_nilR) fun _ => e_one (e_eqR (s := [1]) hr (e_call Fc hr (p, r, derN p r) ⟨hp, hc⟩ (R := val (tRow (monL p (cdN p r (derN p r))))) (ea_v (e_v 0 rfl) (ea_v (e_v 1 rfl) (ea_v (e_v 2 rfl) ea_nil)))) (e_tup (em_cons (K := kN 1) (e_n 1) em_nil)))) hD
end
end Tw
end STwW2
section STwW3
set_option Elab.async false
set_option linter.all false
set_option maxRecDepth 100000
set_option maxHeartbeats 4000000
/-! Promises of the law's own defs (3): maker, times, monics. -/
namespace Tw
open PySem PySem.Spec PyProof.Rows L2
section
variable {P : Program} {w : World} {K : PySem.W.Frag} {mg : Str → Option Value} {base : Heap} {tb : Tb}
abbrev nLMaker : List Str := ["_law_prime", "_law_one", "_law_here", "_law_many", "_law_turn"]
theorem sc_lMaker : FnScope nLMaker ["_law_prime"] (defScope sLMaker) := ⟨rfl, rfl, rfl, by decide +kernel, rfl, by decide +kernel, by decide +kernel⟩
def pmLMaker : Prm Nat := ⟨fun p => [ag (tN p)], PrP, fun p => val (tN (makN p))⟩
theorem mkIt_lt {p one : Nat} (hp : 0 < p) (h : one < p) : ∀ m, (mkIt p one m).1 < p
  | 0 => h
  | m + 1 => by
    show (if (mkIt p one m).1 = 1 then mkIt p one m else _).1 < p
    split
    · exact mkIt_lt hp h m
    · exact Nat.mod_lt _ hp
theorem ok_lMaker {f : Addr} {fd : FuncData} (B : Tx K mg) (F : Fun K "_law_maker" "_law_maker" sLMaker f fd) : FN P w K mg base tb 1 f fd ["_law_prime"] pmLMaker := by
  refine fun_tw F sc_lMaker (fun _ => rfl) ?_
  rintro p cdv A outer s H0 E as D hp hr ht hD hX
  have hp : PrP p := hp
  have hpl := hp.le
  have hp0 : 0 < p := by omega
  have hp2 : 2 ≤ p := by rcases hp with h | h | h <;> omega
  have nd := sc_lMaker.nd
  have hD : ∀ v H', Ex tb H0 H' → (val (tN (makN p))).is H0 v H' → D.rt v H' := hD
  show BK tb _ H0 [some (tN p), none, none, none, none] [] _ _
  refine b_for nd 1 (i_range2 B.range (e_n 2) (e_v 0 rfl) (by omega)) (fun i (_ : Unit) => [some (tN p), none, none, none, none]) (fun i _ => makF p (p - 2 - i) (2 + i) = makN p) () rfl ⟨rfl, trivial⟩ ?_ ?_
  · intro gv off i T z hi hT hz
    rw [rangeK_len] at hi
    obtain ⟨rfl, _⟩ := rangeK_at hT
    have hz : makF p (p - 2 - i) (2 + i) = makN p := hz
    refine b_par (T := tN (2 + i)) (U := tN 1) nd 2 3 (e_v 1 rfl) (e_n 1) ?_
    refine b_for nd 4 (i_range1 B.range (e_v 0 rfl) (by omega)) (fun m (_ : Unit) => [some (tN p), some (tN (2 + i)), some (tN (mkIt p (2 + i) m).1), some (tN (mkIt p (2 + i) m).2), none]) (fun _ _ => True) () trivial ⟨rfl, rfl, rfl, rfl, trivial⟩ ?_ ?_
    · intro gv2 off2 m T2 _ hm hT2 _
      obtain ⟨rfl, _⟩ := rangeK_at hT2
      refine b_when (t_ne (e_v 2 rfl) (e_n 1)) (fun h => ?_) fun h => ?_
      · have h : ¬ (mkIt p (2 + i) m).1 = 1 := by simpa using h
        have hlt := mkIt_lt hp0 (show 2 + i < p by omega) m
        refine b_par nd 2 3 (e_mod (e_int B.int (e_mul (e_v 2 rfl) (e_v 1 rfl) (.inl (by omega)))) (e_v 0 rfl) hp0) (e_add (e_v 3 rfl) (e_n 1)) ?_
        have e1 : mkIt p (2 + i) (m + 1) = ((mkIt p (2 + i) m).1 * (2 + i) % p, (mkIt p (2 + i) m).2 + 1) := by
          show (if (mkIt p (2 + i) m).1 = 1 then mkIt p (2 + i) m else _) = _
          rw [if_neg h]
        exact b_then (b_fall fun _ _ g => ⟨(), trivial, g.wk ⟨rfl, rfl, by rw [e1], by rw [e1], trivial⟩⟩)
      · have h : (mkIt p (2 + i) m).1 = 1 := by simpa using h
        have e1 : mkIt p (2 + i) (m + 1) = mkIt p (2 + i) m := by
          show (if (mkIt p (2 + i) m).1 = 1 then mkIt p (2 + i) m else _) = _
          rw [if_pos h]
        exact b_fall fun _ _ g => ⟨(), trivial, g.wk ⟨rfl, rfl, by rw [e1], by rw [e1], trivial⟩⟩
    · intro _ _
      rw [rangeK_len]
      obtain ⟨k, hk⟩ : ∃ k, p - 2 - i = k + 1 := ⟨p - 2 - i - 1, by omega⟩
      rw [hk] at hz
      have hz : (if mkOk p (2 + i) = true then 2 + i else makF p k (2 + i + 1)) = makN p := hz
      refine b_when (t_eq (e_v 3 rfl) (e_sub (e_v 0 rfl) (e_n 1) (by omega))) (fun h => ?_) fun h => ?_
      · have h : mkOk p (2 + i) = true := h
        rw [if_pos h] at hz
        rw [← hz] at hD
        exact b_ret (R := val (tN (2 + i))) (e_v 1 rfl) hD
      · have h : mkOk p (2 + i) = false := h
        rw [h, if_neg (by decide)] at hz
        refine b_fall fun _ _ g => ⟨(), ?_, g.wk ⟨rfl, trivial⟩⟩
        rw [show p - 2 - (i + 1) = k by omega]
        exact hz
  · rintro z hz
    rw [rangeK_len] at hz
    have hz : makF p (p - 2 - (p - 2)) (2 + (p - 2)) = makN p := hz
    rw [Nat.sub_self] at hz
    have hz : 1 = makN p := hz
    rw [← hz] at hD
    exact b_ret (R := val (tN 1)) (e_n 1) hD

abbrev nLTimes : List Str := ["_law_prime", "_law_one", "_law_other", "_law_found", "_law_at", "_law_entry", "_law_to", "_law_factor"]
theorem sc_lTimes : FnScope nLTimes ["_law_prime", "_law_one", "_law_other"] (defScope sLTimes) := ⟨rfl, rfl, rfl, by decide +kernel, rfl, by decide +kernel, by decide +kernel⟩
def pmLTimes : Prm (Nat × List Nat × Nat) := ⟨fun a => [ag (tN a.1), ag (tRow a.2.1), ag (tRow [a.2.2])], fun a => PrP a.1 ∧ RowOk a.1 a.2.1 ∧ a.2.1 ≠ [], fun a => val (tRow (timN a.1 a.2.1 a.2.2))⟩
def tmTo (p : Nat) (r : List Nat) (c : Nat) : Nat → List Nat
  | 0 => List.replicate r.length 0
  | i + 1 => (tmTo p r c i).set i (((tmTo p r c i).getD i 0 + r.getD i 0 * c) % p)
theorem tmTo_len {p c : Nat} {r : List Nat} : ∀ i, (tmTo p r c i).length = r.length
  | 0 => by unfold tmTo; rw [List.length_replicate]
  | i + 1 => by unfold tmTo; rw [List.length_set, tmTo_len i]
theorem tmTo_at {p c : Nat} {r : List Nat} : ∀ i k, k < r.length → (tmTo p r c i)[k]? = some (if k < i then r.getD k 0 * c % p else 0)
  | 0, k, h => by
    unfold tmTo
    rw [List.getElem?_replicate, if_pos h, if_neg (by omega)]
  | i + 1, k, h => by
    unfold tmTo
    by_cases hk : k = i
    · subst hk
      rw [List.getElem?_set_self (by rw [tmTo_len]; exact h), List.getD_eq_getElem?_getD, tmTo_at k k h, if_neg (by omega), if_pos (by omega)]
      show some ((0 + _) % p) = _
      rw [Nat.zero_add]
    · rw [List.getElem?_set_ne (Ne.symm hk), tmTo_at i k h]
      by_cases h2 : k < i
      · rw [if_pos h2, if_pos (by omega)]
      · rw [if_neg h2, if_neg (by omega)]
theorem tmTo_all {p c : Nat} {r : List Nat} : tmTo p r c r.length = r.map fun e => e * c % p := by
  apply List.ext_getElem?
  intro k
  by_cases h : k < r.length
  · rw [tmTo_at _ _ h, if_pos h, List.getElem?_map, getD_at h]
    rfl
  · rw [List.getElem?_eq_none (by rw [tmTo_len]; omega), List.getElem?_eq_none (by rw [List.length_map]; omega)]
theorem ok_lTimes {f : Addr} {fd : FuncData} (B : Tx K mg) (Ft : DF P w K mg base tb "_law_trim" 1 pmPolyRow) (F : Fun K "_law_times" "_law_times" sLTimes f fd) : FN P w K mg base tb 2 f fd ["_law_prime", "_law_one", "_law_other"] pmLTimes := by
  refine fun_tw F sc_lTimes (fun _ => rfl) ?_
  rintro ⟨p, r, c⟩ cdv A outer s H0 E as D ⟨hp, ho, hne⟩ hr ht hD hX
  have hp : PrP p := hp
  have ho : RowOk p r := ho
  have hne : r ≠ [] := hne
  have hpl := hp.le
  have hp0 : 0 < p := by omega
  have hl := ho.len
  have hl0 : 0 < r.length := List.length_pos_iff.mpr hne
  have nd := sc_lTimes.nd
  have hD : ∀ v H', Ex tb H0 H' → (val (tRow (timN p r c))).is H0 v H' → D.rt v H' := hD
  show BK tb _ H0 [some (tN p), some (tRow r), some (tRow [c]), none, none, none, none, none] [] _ _
  refine b_skip (EVT.cast (t_or (t_eqR (r := r) (s := []) hr (e_v 1 rfl) e_nilR) fun _ => t_eqR (r := [c]) (s := []) hr (e_v 2 rfl) e_nilR) (by rw [decide_eq_false hne]; rfl)) ?_
  refine b_new nd 3 (Ts := (List.replicate r.length 0).map kN) (EV.cast (e_repL (EV.any (e_lst (em_cons (K := kN 0) (e_n 0) em_nil))) (i := ((r.length + 1 - 1 : Nat) : Int)) (e_sub (e_add (e_lenR B.len (e_v 1 rfl)) (e_lenR (r := [c]) B.len (e_v 2 rfl))) (e_n 1) (by show 1 ≤ r.length + 1; omega)) (by show 1 * _ ≤ _; omega) (by omega)) ?_) fun z h0 hof _ => ?_
  · rw [Int.toNat_natCast, Nat.add_sub_cancel]
    congr 1
    generalize r.length = n
    induction n with
    | zero => rfl
    | succ m ih => rw [List.replicate_succ, List.flatten_cons, List.replicate_succ, List.map_cons, ih]; rfl
  refine b_for2 nd 4 5 (i_enumT B.enumerate (e_v 1 rfl)) (fun m => kN m) (fun m => kN (r.getD m 0)) (fun m T h => (enumK_at h).1) (fun i (_ : Unit) => [some (tN p), some (tRow r), some (tRow [c]), some (tL z ((tmTo p r c i).map kN)), none, none, none, none]) (fun _ _ => True) () trivial ⟨rfl, rfl, rfl, rfl, trivial⟩ ?_ ?_
  · intro gv off i _ hi _
    rw [enumK_len] at hi
    have od1 : OffD z (gv ++ []) := OffD.app (D := []) trivial (off 3 _ z rfl (List.mem_singleton_self _) nm)
    refine b_for2 nd 6 7 (i_enumT B.enumerate (e_v 2 rfl)) (fun m => kN m) (fun m => kN ([c].getD m 0)) (fun m T h => (enumK_at h).1) (fun m (_ : Unit) => [some (tN p), some (tRow r), some (tRow [c]), some (tL z ((tmTo p r c (i + m)).map kN)), some (tN i), some (tN (r.getD i 0)), none, none]) (fun _ _ => True) () trivial ⟨rfl, rfl, rfl, rfl, rfl, rfl, trivial⟩ ?_ ?_
    · intro gv2 off2 m _ hm _
      have hm : m < 1 := by rw [enumK_len] at hm; exact hm
      obtain rfl : m = 0 := by omega
      have od2 : OffD z (gv2 ++ (gv ++ [])) := OffD.app od1 (off2 3 _ z rfl (List.mem_singleton_self _) nm)
      have hil : i + 0 < (tmTo p r c (i + 0)).length := by rw [tmTo_len]; exact hi
      have hri := ho.at (getD_at hi)
      refine b_seti (z := z) (K := kN (((tmTo p r c i).getD i 0 + r.getD i 0 * c) % p)) 3 rfl h0 ⟨nm, nm, nm, nm, nm, nm, nm, trivial⟩ od2 (e_mod (e_int B.int (e_add (e_ixLR (e_v 3 rfl) (e_add (e_v 4 rfl) (e_v 6 rfl)) (getD_at hil)) (e_mul (e_v 5 rfl) (e_v 7 rfl) (.inl (by omega))))) (e_v 0 rfl) hp0) (e_v 3 rfl) (e_add (e_v 4 rfl) (e_v 6 rfl)) (by rw [List.length_map]; exact hil) ?_
      rw [set_map]
      exact b_fall fun _ _ g => ⟨(), trivial, g.wk ⟨rfl, rfl, rfl, rfl, rfl, rfl, trivial⟩⟩
    · intro _ _
      exact b_fall fun _ _ g => ⟨(), trivial, g.wk ⟨rfl, rfl, rfl, rfl, trivial⟩⟩
  · intro _ _
    rw [enumK_len, tmTo_all]
    exact b_ret (e_call Ft hr (r.map fun e => e * c % p) (by show (r.map fun e => e * c % p).length ≤ 1000; rw [List.length_map]; omega) (ea_l (e_v 3 rfl) ea_nil)) hD

/-! monics -/
def prsL (p : Nat) (l : List (List Nat)) : List (List Nat × Nat) := l.flatMap fun row => (List.range p).map fun e => (row, e)
theorem prsL_len {p : Nat} : ∀ l : List (List Nat), (prsL p l).length = l.length * p
  | [] => by rw [List.length_nil, Nat.zero_mul]; rfl
  | a :: l => by
    show (((List.range p).map fun e => (a, e)) ++ prsL p l).length = _
    rw [List.length_append, List.length_map, List.length_range, prsL_len l, List.length_cons, Nat.succ_mul, Nat.add_comm]
theorem monsN_prs {p d : Nat} : monsN p (d + 1) = (prsL p (monsN p d)).map fun q => q.2 :: q.1 := by
  show (monsN p d).flatMap _ = _
  unfold prsL
  rw [List.map_flatMap]
  congr 1
  funext row
  rw [List.map_map]
  rfl
theorem monsN_len {p : Nat} : ∀ d, (monsN p d).length = p ^ d
  | 0 => rfl
  | d + 1 => by rw [monsN_prs, List.length_map, prsL_len, monsN_len d, Nat.pow_succ]
theorem monsN_ok {p : Nat} (hp : 2 ≤ p) : ∀ d, ∀ r ∈ monsN p d, (∀ x ∈ r, x < p) ∧ r.length = d + 1 ∧ lastN r = 1
  | 0, r, h => by
    rw [List.mem_singleton.mp h]
    exact ⟨fun x hx => by rw [List.mem_singleton.mp hx]; omega, rfl, rfl⟩
  | d + 1, r, h => by
    obtain ⟨row, h1, h2⟩ := List.mem_flatMap.mp h
    obtain ⟨e, h3, rfl⟩ := List.mem_map.mp h2
    obtain ⟨q1, q2, q3⟩ := monsN_ok hp d row h1
    refine ⟨fun x hx => ?_, by rw [List.length_cons, q2], ?_⟩
    · rcases List.mem_cons.mp hx with rfl | hx
      · exact List.mem_range.mp h3
      · exact q1 x hx
    · rw [← q3]
      unfold lastN
      rw [List.length_cons, q2]
      rfl
theorem prs_snoc {p k : Nat} {l : List (List Nat)} {row : List Nat} (h : l[k]? = some row) : prsL p (l.take (k + 1)) = prsL p (l.take k) ++ (List.range p).map fun e => (row, e) := by
  unfold prsL
  rw [List.take_add_one, h, List.flatMap_append]
  simp
abbrev nLMonics : List Str := ["_law_prime", "_law_degree", "_law_found", "_law_turn", "_law_longer", "_law_row", "_law_entry"]
theorem sc_lMonics : FnScope nLMonics ["_law_prime", "_law_degree"] (defScope sLMonics) := ⟨rfl, rfl, rfl, by decide +kernel, rfl, by decide +kernel, by decide +kernel⟩
def pmLMonics : Prm (Nat × Nat) := ⟨fun a => [ag (tN a.1), ag (tN a.2)], fun a => PrP a.1 ∧ a.2 ≤ 10 ∧ a.1 ^ a.2 ≤ 100000, fun a => newL ((monsN a.1 a.2).map kRow)⟩
theorem rows_at {l : List (List Nat)} {i : Nat} {T : Im} (h : (l.map kRow)[i]? = some T) : T = kRow (l.getD i []) ∧ l[i]? = some (l.getD i []) := by
  rw [List.getElem?_map] at h
  cases q : l[i]? with
  | none => rw [q] at h; cases h
  | some r =>
    rw [q] at h
    have e : l.getD i [] = r := by rw [List.getD_eq_getElem?_getD, q]; rfl
    rw [e]
    exact ⟨(Option.some.inj h).symm, rfl⟩
theorem pairs_at {l : List (List Nat × Nat)} {i : Nat} {T : Im} (h : (l.map kPair)[i]? = some T) : T = kT [kRow (l.getD i ([], 0)).1, kN (l.getD i ([], 0)).2] ∧ l[i]? = some (l.getD i ([], 0)) := by
  rw [List.getElem?_map] at h
  cases q : l[i]? with
  | none => rw [q] at h; cases h
  | some r =>
    rw [q] at h
    have e : l.getD i ([], 0) = r := by rw [List.getD_eq_getElem?_getD, q]; rfl
    rw [e]
    exact ⟨(Option.some.inj h).symm, rfl⟩
theorem pick_range {n : Nat} (g : Nat → Im) : pick n (fun _ => true) g = (List.range n).map g := by
  unfold pick
  rw [List.filter_eq_self.mpr fun _ _ => rfl]
theorem ok_lMonics {f : Addr} {fd : FuncData} (B : Tx K mg) (F : Fun K "_law_monics" "_law_monics" sLMonics f fd) : FN P w K mg base tb 1 f fd ["_law_prime", "_law_degree"] pmLMonics := by
  refine fun_tw F sc_lMonics (fun _ => rfl) ?_
  rintro ⟨p, d⟩ cdv A outer s H0 E as D ⟨hp, hd, hsz⟩ hr ht hD hX
  have hp : PrP p := hp
  have hd : d ≤ 10 := hd
  have hsz : p ^ d ≤ 100000 := hsz
  have hpl := hp.le
  have hp0 : 0 < p := by have := hp; rcases this with h | h | h <;> omega
  have nd := sc_lMonics.nd
  show BK tb _ H0 [some (tN p), some (tN d), none, none, none, none, none] [] _ _
  refine b_new nd 2 (Ts := [[1]].map kRow) (e_lst (em_cons (K := kRow [1]) (e_tup (em_cons (K := kN 1) (e_n 1) em_nil)) em_nil)) fun z hz0 _ _ => ?_
  refine b_for (ζ := Addr) nd 3 (i_range1 B.range (e_v 1 rfl) (by omega)) (fun i z => [some (tN p), some (tN d), some (tL z ((monsN p i).map kRow)), none, none, none, none]) (fun _ z => H0 z = none) z hz0 ⟨rfl, rfl, rfl, trivial⟩ ?_ ?_
  · intro gv off i T z hi hT _
    rw [rangeK_len] at hi
    have hpw : (monsN p i).length * p ≤ 100000 := by
      rw [monsN_len, ← Nat.pow_succ]
      exact Nat.le_trans (Nat.pow_le_pow_right hp0 hi) hsz
    refine b_new nd 4 (Ts := (prsL p ((monsN p i).take 0)).map kPair) (e_lst em_nil) fun z2 _ _ _ => ?_
    refine b_for (ζ := Addr) nd 5 (i_list (e_v 2 rfl)) (fun k z2 => [some (tN p), some (tN d), some (tL z ((monsN p i).map kRow)), none, some (tL z2 ((prsL p ((monsN p i).take k)).map kPair)), none, none]) (fun _ _ => True) z2 trivial ⟨rfl, rfl, rfl, rfl, trivial⟩ ?_ ?_
    · intro gv2 off2 k T2 z2 hk hT2 _
      obtain ⟨rfl, hk2⟩ := rows_at hT2
      rw [List.length_map] at hk
      refine b_new nd 4 (Ts := (prsL p ((monsN p i).take (k + 1))).map kPair) (EV.cast (e_catL (Us := (((List.range p).map fun e => ((monsN p i).getD k [], e))).map kPair) (EV.anyL (e_v 4 rfl)) (EV.any (EV.cast (e_lc nd 6 (i_range1 B.range (e_v 0 rfl) (by omega)) (blk_of nLMonics (defScope sLMonics)) (fun _ => true) (fun e => kPair ((monsN p i).getD k [], e)) (fun _ _ _ _ _ _ _ _ _ => ts_nil) ?_ (by rw [rangeK_len]; omega)) ?_)) ?_) ?_) fun z3 _ _ _ => ?_
      · intro s H' C cl fp e T3 he hT3 _
        obtain ⟨rfl, _⟩ := rangeK_at hT3
        rw [Nat.zero_add]
        exact e_tup (em_cons (K := kRow ((monsN p i).getD k [])) (e_v 5 rfl) (em_cons (K := kN e) (e_v 6 rfl) em_nil))
      · rw [rangeK_len, pick_range, List.map_map]
        rfl
      · rw [List.length_map, List.length_map, List.length_map, List.length_range, prsL_len]
        have : ((monsN p i).take k).length ≤ (monsN p i).length := by rw [List.length_take]; omega
        have := Nat.mul_le_mul_right p this
        omega
      · rw [prs_snoc hk2, List.map_append]
      · exact b_fall fun _ _ g => ⟨z3, trivial, g.wk ⟨rfl, rfl, rfl, rfl, trivial⟩⟩
    · intro z2 _
      rw [List.length_map, List.take_length]
      refine b_newLc2 nd 2 5 6 (i_list (e_v 4 rfl)) (fun k => kRow ((prsL p (monsN p i)).getD k ([], 0)).1) (fun k => kN ((prsL p (monsN p i)).getD k ([], 0)).2) (fun k T h => (pairs_at h).1) (blk_of nLMonics (defScope sLMonics)) (fun _ => true) (fun k => kRow (((prsL p (monsN p i)).getD k ([], 0)).2 :: ((prsL p (monsN p i)).getD k ([], 0)).1)) (fun _ _ _ _ _ _ _ _ _ => ts_nil) ?_ (by rw [List.length_map, prsL_len]; omega) ((monsN p (i + 1)).map kRow) ?_ fun z3 hz3 _ _ => ?_
      · intro s H' C cl fp k T3 hk hT3 _
        obtain ⟨_, hq⟩ := pairs_at hT3
        generalize hQ : (prsL p (monsN p i)).getD k ([], 0) = q at hq
        obtain ⟨row, e⟩ := q
        have hm : (row, e) ∈ prsL p (monsN p i) := List.mem_of_getElem? hq
        obtain ⟨row', hm1, hm2⟩ := List.mem_flatMap.mp hm
        obtain ⟨e', _, hm3⟩ := List.mem_map.mp hm2
        have hrw : row' = row := congrArg Prod.fst hm3
        subst hrw
        have hle := (monsN_ok (by rcases hp with h | h | h <;> omega) i row' hm1).2.1
        exact EV.cast (e_catT (Ts := [kN e]) (Us := row'.map kN) (e_tup (em_cons (K := kN e) (e_v 6 rfl) em_nil)) (e_v 5 rfl) (by show 1 + (row'.map kN).length ≤ 1000; rw [List.length_map]; omega)) rfl
      · rw [List.length_map, monsN_prs, pick_all (prsL p (monsN p i)) (fun q => kRow (q.2 :: q.1)) _ _ (fun _ _ => rfl) (fun i b hb => by rw [List.getD_eq_getElem?_getD, hb]; rfl), List.map_map]
        rfl
      · exact b_fall fun _ _ g => ⟨z3, hz3, g.wk ⟨rfl, rfl, rfl, trivial⟩⟩
  · intro z hz
    rw [rangeK_len]
    exact b_ret (e_v 2 rfl) fun v H' e h => hD v H' e ⟨z, hz, h⟩
end
end Tw
end STwW3
section STwW4
set_option Elab.async false
set_option linter.all false
set_option maxRecDepth 100000
set_option maxHeartbeats 4000000
/-! Promises of the law's own defs (4): the clan of a row. -/
namespace Tw
open PySem PySem.Spec PyProof.Rows L2
/-- the rows of a clan: all of the one length -/
def Cl (p n : Nat) (ks : List (List Nat)) : Prop := ∀ r ∈ ks, RowOk p r ∧ r.length = n
theorem cl_put {p n : Nat} {ks : List (List Nat)} {r : List Nat} (h : Cl p n ks) (hr : RowOk p r ∧ r.length = n) : Cl p n (putR ks r) := fun x hx => by
  unfold putR at hx
  split at hx
  · exact h x hx
  · rcases List.mem_append.mp hx with hx | hx
    · exact h x hx
    · rw [List.mem_singleton.mp hx]; exact hr
theorem cl_merge {p n : Nat} : ∀ {ms ks : List (List Nat)}, Cl p n ks → Cl p n ms → Cl p n (mergeR ks ms)
  | [], ks, h, _ => h
  | m :: ms, ks, h, h2 => cl_merge (ms := ms) (cl_put h (h2 m List.mem_cons_self)) fun x hx => h2 x (List.mem_cons_of_mem _ hx)
theorem zipM_ok {p : Nat} {r s : List Nat} (hp : 0 < p) (h : RowOk p r) : RowOk p (zipM p r s) ∧ (zipM p r s).length = r.length := by
  refine ⟨⟨fun x hx => ?_, ?_⟩, ?_⟩
  · obtain ⟨i, _, rfl⟩ := List.mem_map.mp hx
    exact Nat.mod_lt _ hp
  · unfold zipM; rw [List.length_map, List.length_range]; exact h.len
  · unfold zipM; rw [List.length_map, List.length_range]
theorem sclR_ok {p c : Nat} {r : List Nat} (hp : 0 < p) (h : RowOk p r) : RowOk p (sclR p c r) ∧ (sclR p c r).length = r.length := by
  refine ⟨⟨fun x hx => ?_, ?_⟩, ?_⟩
  · obtain ⟨i, _, rfl⟩ := List.mem_map.mp hx
    exact Nat.mod_lt _ hp
  · unfold sclR; rw [List.length_map]; exact h.len
  · unfold sclR; rw [List.length_map]
theorem rev_ok {p : Nat} {r : List Nat} (h : RowOk p r) : RowOk p r.reverse ∧ r.reverse.length = r.length := ⟨⟨fun x hx => h.lt x (List.mem_reverse.mp hx), by rw [List.length_reverse]; exact h.len⟩, List.length_reverse⟩
theorem nxtL_ok {p one n : Nat} {r : List Nat} (hp : 0 < p) (h : RowOk p r) (hl : r.length = n) : Cl p n (nxtL p one n r) := fun x hx => by
  have hx : x = movN p r ∨ x = zipM p r (powsN p one n) ∨ x = r.reverse ∨ x = sclR p (one * one % p) r := by
    simpa [nxtL] using hx
  rcases hx with rfl | rfl | rfl | rfl
  · exact ⟨movN_ok hp h, by rw [movN_len, hl]⟩
  · exact ⟨(zipM_ok hp h).1, by rw [(zipM_ok hp h).2, hl]⟩
  · exact ⟨(rev_ok h).1, by rw [(rev_ok h).2, hl]⟩
  · exact ⟨(sclR_ok hp h).1, by rw [(sclR_ok hp h).2, hl]⟩
theorem mergeR_len {ks : List (List Nat)} : ∀ ms : List (List Nat), (mergeR ks ms).length ≤ ks.length + ms.length := by
  intro ms
  induction ms generalizing ks with
  | nil => exact Nat.le_refl _
  | cons m ms ih =>
    have h1 := ih (ks := putR ks m)
    have h2 := putR_len ks m
    show (mergeR (putR ks m) ms).length ≤ _
    rw [List.length_cons]
    omega
theorem clanTo_ok {p one n : Nat} {form : List Nat} (hp : 0 < p) (h : RowOk p form) (hl : form.length = n) : ∀ i, Cl p n (clanTo p one n form i)
  | 0 => fun x hx => by rw [List.mem_singleton.mp hx]; exact ⟨h, hl⟩
  | i + 1 => by
    unfold clanTo
    split
    · rename_i hi
      have ih := clanTo_ok (one := one) hp h hl i
      obtain ⟨q1, q2⟩ := ih _ (List.mem_of_getElem? (show (clanTo p one n form i)[i]? = some ((clanTo p one n form i).getD i []) by
        rw [List.getD_eq_getElem?_getD, List.getElem?_eq_getElem hi]; rfl))
      exact cl_merge ih (nxtL_ok hp q1 q2)
    · exact clanTo_ok hp h hl i
theorem clanTo_len {p one n : Nat} {form : List Nat} : ∀ i, (clanTo p one n form i).length ≤ 1 + 4 * i
  | 0 => Nat.le_refl _
  | i + 1 => by
    have ih := clanTo_len (p := p) (one := one) (n := n) (form := form) i
    unfold clanTo
    split
    · have := mergeR_len (ks := clanTo p one n form i) (nxtL p one n ((clanTo p one n form i).getD i []))
      have e : (nxtL p one n ((clanTo p one n form i).getD i [])).length = 4 := rfl
      omega
    · omega
theorem putR_map {ks : List (List Nat)} {r : List Nat} (h : ¬ r ∈ ks) : ks.map kRow ++ [kRow r] = (putR ks r).map kRow := by
  unfold putR
  rw [if_neg h, List.map_append]
  rfl
theorem merge_snoc {ks ms : List (List Nat)} {k : Nat} {r : List Nat} (h : ms[k]? = some r) : mergeR ks (ms.take (k + 1)) = putR (mergeR ks (ms.take k)) r := by
  unfold mergeR
  rw [List.take_add_one, h, List.foldl_append]
  rfl
theorem padN_ok {p : Nat} {r : List Nat} (hp : 0 < p) (h : RowOk p r) (h2 : 2 ≤ r.length) (h9 : r.length ≤ 9) : RowOk p (padN r) ∧ (padN r).length = szN r := by
  have e : (padN r).length = szN r := by
    unfold padN szN genN
    rw [List.length_append, List.length_replicate]
    omega
  refine ⟨⟨fun x hx => ?_, ?_⟩, e⟩
  · rcases List.mem_append.mp hx with hx | hx
    · exact h.lt x hx
    · rw [(List.mem_replicate.mp hx).2]; exact hp
  · rw [e]; unfold szN genN; omega
theorem pow_le7 {a i p : Nat} (h : a < p) (hp : p ≤ 7) (hi : i ≤ 11) : a ^ i < 2 ^ 64 := by
  have h1 : a ^ i ≤ 7 ^ i := Nat.pow_le_pow_left (by omega) i
  have h2 : 7 ^ i ≤ 7 ^ 11 := Nat.pow_le_pow_right (by decide) hi
  have : 7 ^ 11 < 2 ^ 64 := by decide
  omega
theorem makN_lt (p : Nat) (hp : PrP p) : makN p < p := by
  rcases hp with rfl | rfl | rfl <;> decide +kernel
section
variable {P : Program} {w : World} {K : PySem.W.Frag} {mg : Str → Option Value} {base : Heap} {tb : Tb}
abbrev nLClan : List Str := ["_law_prime", "_law_row", "_law_one", "_law_size", "_law_powers", "_law_at", "_law_square", "_law_form", "_law_known", "_law_found", "_law_turn", "_law_here", "_law_steps", "_law_a", "_law_b", "_law_later", "_law_entry"]
theorem sc_lClan : FnScope nLClan ["_law_prime", "_law_row"] (defScope sLClan) := ⟨rfl, rfl, rfl, by decide +kernel, rfl, by decide +kernel, by decide +kernel⟩
def pmLClan : Prm (Nat × List Nat) := ⟨aPR, fun a => PrP a.1 ∧ RowOk a.1 a.2 ∧ 2 ≤ a.2.length ∧ a.2.length ≤ 9, fun a => newL ((lotN a.1 a.2).map kRow)⟩
theorem ok_lClan {f : Addr} {fd : FuncData} (B : Tx K mg) (Fm : DF P w K mg base tb "_law_maker" 1 pmLMaker) (Fg : DF P w K mg base tb "_law_genus" 1 pmLGenus) (Fr : DF P w K mg base tb "_law_raised" 1 pmRaised) (Fs : DF P w K mg base tb "_law_shifted" 1 pmMovedOn) (Ft : DF P w K mg base tb "_law_trim" 1 pmPolyRowT) (F : Fun K "_law_clan" "_law_clan" sLClan f fd) : FN P w K mg base tb 2 f fd ["_law_prime", "_law_row"] pmLClan := by
  refine fun_tw F sc_lClan (fun _ => rfl) ?_
  rintro ⟨p, r⟩ cdv A outer s H0 E as D ⟨hp, ho, h2, h9⟩ hr ht hD hX
  have hp : PrP p := hp
  have ho : RowOk p r := ho
  have h2 : 2 ≤ r.length := h2
  have h9 : r.length ≤ 9 := h9
  have hpl := hp.le
  have hp0 : 0 < p := by omega
  have nd := sc_lClan.nd
  obtain ⟨hf1, hf2⟩ := padN_ok hp0 ho h2 h9
  have hmk := makN_lt p hp
  have hsz : szN r ≤ 11 := by unfold szN genN; omega
  have hsz2 : r.length ≤ szN r := by unfold szN genN; omega
  have hsz3 : 3 ≤ szN r := by unfold szN; omega
  have hD : ∀ v H', Ex tb H0 H' → (newL ((lotN p r).map kRow)).is H0 v H' → D.rt v H' := hD
  show BK tb _ H0 [some (tN p), some (tRow r), none, none, none, none, none, none, none, none, none, none, none, none, none, none, none] [] _ _
  refine b_pair (K1 := kN (makN p)) (K2 := kN (szN r)) nd 2 3 (e_tup (em_cons (K := kN (makN p)) (e_call Fm hr p hp (ea_v (e_v 0 rfl) ea_nil)) (em_cons (K := kN (szN r)) (e_add (e_mul (n := 2) (e_n 2) (e_call Fg hr r h2 (R := val (tN (genN r))) (ea_v (e_v 1 rfl) ea_nil)) (.inl (by decide))) (e_n 3)) em_nil))) ?_
  generalize hone : makN p = one at hmk
  refine b_newLc nd 4 5 (i_range1 B.range (e_v 3 rfl) (by omega)) (blk_of nLClan (defScope sLClan)) (fun _ => true) (fun i => kN (one ^ i % p)) (fun _ _ _ _ _ _ _ _ _ => ts_nil) ?_ (by rw [rangeK_len]; omega) ((powsN p one (szN r)).map kN) (by rw [rangeK_len, pick_range]; unfold powsN; rw [List.map_map]; rfl) fun zp _ _ _ => ?_
  · intro s H' C cl fp i T hi hT _
    rw [rangeK_len] at hi
    obtain ⟨rfl, _⟩ := rangeK_at hT
    rw [Nat.zero_add]
    exact e_mod (e_int B.int (e_call Fr hr (one, i) ⟨by omega, by show i < 2 ^ 62; omega⟩ (R := val (tN (one ^ i))) (ea_v (e_v 2 rfl) (ea_v (e_v 5 rfl) ea_nil)))) (e_v 0 rfl) hp0
  refine b_pair (K1 := kN (one * one % p)) (K2 := kRow (padN r)) nd 6 7 (e_tup (em_cons (K := kN (one * one % p)) (e_mod (e_int B.int (e_mul (e_v 2 rfl) (e_v 2 rfl) (.inl (by omega)))) (e_v 0 rfl) hp0) (em_cons (K := kRow (padN r)) (EV.cast (e_catT (Ts := r.map kN) (Us := (List.replicate (szN r - r.length) [kN 0]).flatten) (e_v 1 rfl) (e_repT01 (n := szN r - r.length) (e_tup (em_cons (K := kN 0) (e_n 0) em_nil)) (e_sub (e_v 3 rfl) (e_lenR B.len (e_v 1 rfl)) hsz2) (by unfold szN genN; omega) (by simp)) ?_) ?_) em_nil))) ?_
  · rw [List.length_map, List.length_flatten, List.map_replicate, List.sum_replicate_nat]
    show r.length + (szN r - r.length) * 1 ≤ 1000
    omega
  · show val (tT (r.map kN ++ _)) = val (tT ((r ++ List.replicate (szN r - r.length) 0).map kN))
    rw [List.map_append]
    congr 3
    generalize szN r - r.length = n
    induction n with
    | zero => rfl
    | succ m ih => rw [List.replicate_succ, List.flatten_cons, List.replicate_succ, List.map_cons, ih]; rfl
  refine b_parDL (ks := [padN r]) (Us := [kRow (padN r)]) nd 8 9 (e_dict1 (kk := 0) hr (e_v 7 rfl)) (e_lst (em_cons (K := kRow (padN r)) (e_v 7 rfl) em_nil)) fun zk zf hk0 hko _ hf0 hfo _ hne => ?_
  have hne2 : zk ∉ [zf] := fun q => hne (by rw [List.mem_singleton.mp q]; exact List.mem_singleton_self _)
  refine b_for nd 10 (i_range1 B.range (e_n 5000) (by decide)) (fun i (_ : Unit) => [some (tN p), some (tRow r), some (tN one), some (tN (szN r)), some (tL zp ((powsN p one (szN r)).map kN)), none, some (tN (one * one % p)), none, some (tD zk (clanTo p one (szN r) (padN r) i)), some (tL zf ((clanTo p one (szN r) (padN r) i).map kRow)), none, none, none, none, none, none, none]) (fun _ _ => True) () trivial ⟨rfl, rfl, rfl, rfl, rfl, rfl, rfl, rfl, trivial⟩ ?_ ?_
  · intro gv off i T _ hi hT _
    rw [rangeK_len] at hi
    obtain ⟨rfl, _⟩ := rangeK_at hT
    rw [Nat.zero_add]
    have hcl := clanTo_ok (one := one) hp0 hf1 hf2 i
    have hcn := clanTo_len (p := p) (one := one) (n := szN r) (form := padN r) i
    have hstp : ∀ c, clanTo p one (szN r) (padN r) i = c → clanTo p one (szN r) (padN r) (i + 1) = if i < c.length then mergeR c (nxtL p one (szN r) (c.getD i [])) else c := fun c h => by rw [← h]; rfl
    have hstop : (clanTo p one (szN r) (padN r) i).length ≤ i → clanTo p one (szN r) (padN r) i = clanN p r := fun h => by
      have := clan_stop h (5000 - i)
      rw [show i + (5000 - i) = 5000 by omega] at this
      unfold clanN
      rw [hone]
      exact this.symm
    generalize hC : clanTo p one (szN r) (padN r) i = c at hcl hcn hstop
    refine b_when (t_ge (e_v 10 rfl) (EV.cast (e_lenL B.len (e_v 9 rfl)) (by rw [List.length_map]))) (fun h => b_break fun σ H g => ?_) fun h => ?_
    · have h : c.length ≤ i := of_decide_eq_true h
      have hc := hstop h
      refine b_ret (R := newL ((lotN p r).map kRow)) ?_ hD σ H g
      refine EV.cast (e_lc nd 7 (i_list (e_v 9 rfl)) (blk_of nLClan (defScope sLClan)) (fun _ => true) (fun k => kRow (trimN (c.getD k []))) (fun _ _ _ _ _ _ _ _ _ => ts_nil) ?_ (by rw [List.length_map]; omega)) ?_
      · intro s H' C cl fp k T hk hT _
        obtain ⟨rfl, hk2⟩ := rows_at hT
        have hrk := (hcl _ (List.mem_of_getElem? hk2)).1.len
        exact e_call Ft hr (c.getD k []) (by show (c.getD k []).length ≤ 1000; omega) (ea_v (e_v 7 rfl) ea_nil)
      · rw [List.length_map, pick_all c (fun x => kRow (trimN x)) _ _ (fun _ _ => rfl) (fun i b hb => by rw [List.getD_eq_getElem?_getD, hb]; rfl)]
        unfold lotN
        rw [← hc, List.map_map]
        rfl
    · have h : i < c.length := by have := of_decide_eq_false h; omega
      have hci : c[i]? = some (c.getD i []) := by rw [List.getD_eq_getElem?_getD, List.getElem?_eq_getElem h]; rfl
      obtain ⟨hR1, hR2⟩ := hcl _ (List.mem_of_getElem? hci)
      have hstp := hstp c hC
      rw [if_pos h] at hstp
      generalize hRr : c.getD i [] = R at hR1 hR2 hci hstp
      refine b_set nd 11 (T := tRow R) (e_ixL (K := kRow R) (e_v 9 rfl) (e_v 10 rfl) (by rw [List.getElem?_map, hci]; rfl)) ?_
      refine b_new nd 12 (Ts := [kRow (movN p R), kRow (zipM p R (powsN p one (szN r))), kRow R.reverse]) (e_lst (em_cons (K := kRow (movN p R)) (e_call Fs hr (p, R) ⟨hp, hR1, by show 2 ≤ R.length; omega⟩ (ea_v (e_v 0 rfl) (ea_v (e_v 11 rfl) ea_nil))) (em_cons (K := kRow (zipM p R (powsN p one (szN r)))) (e_tupN B.tuple (EV.cast (R1 := newL ((zipM p R (powsN p one (szN r))).map kN)) (e_lc2 nd 13 14 (i_zipTL B.zip (r := R) (s := powsN p one (szN r)) (e_v 11 rfl) (e_v 4 rfl) ?_) (fun k => kN (R.getD k 0)) (fun k => kN ((powsN p one (szN r)).getD k 0)) (fun k T h => (zipK_at h).1) (blk_of nLClan (defScope sLClan)) (fun _ => true) (fun k => kN (R.getD k 0 * (powsN p one (szN r)).getD k 0 % p)) (fun _ _ _ _ _ _ _ _ _ => ts_nil) ?_ (by rw [zipK_len]; omega)) ?_)) (em_cons (K := kRow R.reverse) (e_revR (e_v 11 rfl)) em_nil)))) fun zs hs0 _ _ => ?_
      · unfold powsN; rw [List.length_map, List.length_range, hR2]
      · intro s H' C cl fp k T hk hT _
        rw [zipK_len] at hk
        have := hR1.at (getD_at hk)
        exact e_mod (e_int B.int (e_mul (e_v 13 rfl) (e_v 14 rfl) (.inl (by omega)))) (e_v 0 rfl) hp0
      · rw [zipK_len, pick_range]
        unfold zipM
        rw [List.map_map]
        rfl
      refine b_for nd 15 (i_new (Ts := (nxtL p one (szN r) R).map kRow) (EV.cast (e_catL (Ts := [kRow (movN p R), kRow (zipM p R (powsN p one (szN r))), kRow R.reverse]) (Us := [kRow (sclR p (one * one % p) R)]) (EV.anyL (e_v 12 rfl)) (EV.any (e_lst (em_cons (K := kRow (sclR p (one * one % p) R)) (e_tupN B.tuple (EV.cast (R1 := newL ((sclR p (one * one % p) R).map kN)) (e_lc nd 16 (i_tup (e_v 11 rfl)) (blk_of nLClan (defScope sLClan)) (fun _ => true) (fun k => kN (R.getD k 0 * (one * one % p) % p)) (fun _ _ _ _ _ _ _ _ _ => ts_nil) ?_ (by rw [List.length_map]; omega)) ?_)) em_nil))) (by show 3 + 1 ≤ 16000000; decide)) rfl))
        (fun m (_ : Unit) => [some (tN p), some (tRow r), some (tN one), some (tN (szN r)), some (tL zp ((powsN p one (szN r)).map kN)), none, some (tN (one * one % p)), none, some (tD zk (mergeR c ((nxtL p one (szN r) R).take m))), some (tL zf ((mergeR c ((nxtL p one (szN r) R).take m)).map kRow)), none, none, none, none, none, none, none]) (fun _ _ => True) () trivial ⟨rfl, rfl, rfl, rfl, rfl, rfl, rfl, rfl, trivial⟩ ?_ ?_
      · intro s H' C cl fp k T hk hT _
        rw [List.length_map] at hk
        have hT2 : T = kN (R.getD k 0) := by
          rw [List.getElem?_map, getD_at hk] at hT
          exact (Option.some.inj hT).symm
        subst hT2
        have := hR1.at (getD_at hk)
        exact e_mod (e_int B.int (e_mul (e_v 16 rfl) (e_v 6 rfl) (.inl (by omega)))) (e_v 0 rfl) hp0
      · rw [List.length_map, pick_all R (fun e => kN (e * (one * one % p) % p)) _ _ (fun _ _ => rfl) (fun i b hb => by rw [List.getD_eq_getElem?_getD, hb]; rfl)]
        unfold sclR
        rw [List.map_map]
        rfl
      · intro gv2 off2 m T2 _ hm hT2 _
        obtain ⟨rfl, hm2⟩ := rows_at hT2
        rw [List.length_map] at hm
        have hm : m < 4 := hm
        generalize hL : (nxtL p one (szN r) R).getD m [] = L at hm2
        have hml := mergeR_len (ks := c) ((nxtL p one (szN r) R).take m)
        have htk : ((nxtL p one (szN r) R).take m).length ≤ 4 := by rw [List.length_take]; show min m 4 ≤ 4; omega
        have hsn := merge_snoc (ks := c) hm2
        generalize hM : mergeR c ((nxtL p one (szN r) R).take m) = M at hml hsn
        have od1 : OffD zk (gv2 ++ (gv ++ [])) := OffD.app (OffD.app (D := []) trivial (off 8 _ zk rfl (List.mem_singleton_self _) nm)) (off2 8 _ zk rfl (List.mem_singleton_self _) nm)
        have od2 : OffD zf (gv2 ++ (gv ++ [])) := OffD.app (OffD.app (D := []) trivial (off 9 _ zf rfl (List.mem_singleton_self _) nm)) (off2 9 _ zf rfl (List.mem_singleton_self _) nm)
        refine b_when (t_notinD hr (e_v 15 rfl) (e_v 8 rfl)) (fun h => ?_) fun h => ?_
        · have h : ¬ L ∈ M := by simpa using h
          refine b_dputD hr 8 rfl hk0 ⟨nm, nm, nm, nm, hko.at (i := 4) rfl, nm, hne2, nm, trivial⟩ od1 e_b (e_v 8 rfl) (e_v 15 rfl) (by omega) ?_
          refine b_app (K := kRow L) 9 rfl hf0 ⟨nm, nm, nm, nm, hfo.at (i := 4) rfl, nm, hne, nm, trivial⟩ od2 (by rw [List.length_map]; omega) (e_v 9 rfl) (e_v 15 rfl) ?_
          rw [putR_map h]
          exact b_then (b_fall fun _ _ g => ⟨(), trivial, g.wk ⟨rfl, rfl, rfl, rfl, rfl, rfl, by rw [hsn], by rw [hsn], trivial⟩⟩)
        · have h : L ∈ M := by simpa using h
          have e1 : putR M L = M := by unfold putR; rw [if_pos h]
          rw [e1] at hsn
          exact b_fall fun _ _ g => ⟨(), trivial, g.wk ⟨rfl, rfl, rfl, rfl, rfl, rfl, by rw [hsn], by rw [hsn], trivial⟩⟩
      · intro _ _
        rw [List.length_map, List.take_length]
        exact b_fall fun _ _ g => ⟨(), trivial, g.wk ⟨rfl, rfl, rfl, rfl, rfl, rfl, by rw [hstp], by rw [hstp], trivial⟩⟩
  · intro _ _
    rw [rangeK_len]
    have hc : clanTo p one (szN r) (padN r) 5000 = clanN p r := by unfold clanN; rw [hone]
    have hcl := clanTo_ok (one := one) hp0 hf1 hf2 5000
    have hcn := clanTo_len (p := p) (one := one) (n := szN r) (form := padN r) 5000
    generalize hC : clanTo p one (szN r) (padN r) 5000 = c at hcl hcn hc
    refine b_ret (R := newL ((lotN p r).map kRow)) ?_ hD
    refine EV.cast (e_lc nd 7 (i_list (e_v 9 rfl)) (blk_of nLClan (defScope sLClan)) (fun _ => true) (fun k => kRow (trimN (c.getD k []))) (fun _ _ _ _ _ _ _ _ _ => ts_nil) ?_ (by rw [List.length_map]; omega)) ?_
    · intro s H' C cl fp k T hk hT _
      obtain ⟨rfl, hk2⟩ := rows_at hT
      have hrk := (hcl _ (List.mem_of_getElem? hk2)).1.len
      exact e_call Ft hr (c.getD k []) (by show (c.getD k []).length ≤ 1000; omega) (ea_v (e_v 7 rfl) ea_nil)
    · rw [List.length_map, pick_all c (fun x => kRow (trimN x)) _ _ (fun _ _ => rfl) (fun i b hb => by rw [List.getD_eq_getElem?_getD, hb]; rfl)]
      unfold lotN
      rw [← hc, List.map_map]
      rfl
end
end Tw
end STwW4
section STwW5
set_option Elab.async false
set_option linter.all false
set_option maxRecDepth 100000
set_option maxHeartbeats 4000000
/-! sorted(..) of numbered rows; promises of the law's own defs (5): all sheets. -/
namespace Tw
open PySem PySem.Spec PyProof.Rows L2
/-- a number and a row -/
abbrev kNR (q : Nat × List Nat) : Im := kT [kN q.1, kRow q.2]
def encNR (q : Nat × List Nat) : PyData := .tuple [.int (q.1 : Int), rowD q.2]
def sortNR (bs : List (Nat × List Nat)) : List (Nat × List Nat) := bs.mergeSort (PySem.W.dataLe false encNR)
theorem alike_row (r s : List Nat) : PySem.W.alike (rowD r) (rowD s) = true := by
  have h : ∀ r s : List Nat, PySem.W.alikeAll (r.map fun n : Nat => PyData.int (n : Int)) (s.map fun n : Nat => PyData.int (n : Int)) = true := by
    intro r
    induction r with
    | nil => intro s; simp [PySem.W.alikeAll]
    | cons x xs ih =>
      intro s
      cases s with
      | nil => simp [PySem.W.alikeAll]
      | cons y ys =>
        show PySem.W.alikeAll (.int x :: xs.map _) (.int y :: ys.map _) = true
        rw [PySem.W.alikeAll, ih ys]
        simp [PySem.W.alike]
  unfold rowD
  rw [PySem.W.alike]
  exact h r s
theorem alike_NR (a b : Nat × List Nat) : PySem.W.alike (encNR a) (encNR b) = true := by
  unfold encNR
  rw [PySem.W.alike, PySem.W.alikeAll, PySem.W.alikeAll, alike_row]
  simp [PySem.W.alike, PySem.W.alikeAll]
theorem depth_NR (a : Nat × List Nat) : (encNR a).depth ≤ 2 := by
  unfold encNR
  have := depth_row a.2
  simp only [PyData.depth, PyData.depthAll]
  omega
theorem dpI_NR {X : Cx} (a : Nat × List Nat) : DpI X (kNR a) (encNR a) := dpI_t (.cons (dpI_n _) (.cons (dpI_row _) .nil))
theorem le_fst {a b : Nat × List Nat} (h : PySem.W.dataLe false encNR a b = true) : a.1 ≤ b.1 := by
  rw [PySem.W.dataLe_eq] at h
  have h : (!PySem.W.dataLt (encNR b) (encNR a)) = true := h
  unfold encNR at h
  rw [PySem.W.dataLt_pair (by simp [PySem.W.alike]) (alike_row _ _), PySem.W.dataLt_int] at h
  simp only [PyData.eqv, beq_iff_eq] at h
  by_cases e : (b.1 : Int) = a.1
  · omega
  · rw [if_neg e] at h
    simp at h
    omega
theorem pw_inj {l : List (Nat × List Nat)} (h : l.Pairwise fun a b => a.1 < b.1) : ∀ a ∈ l, ∀ b ∈ l, a.1 = b.1 → a = b := by
  induction l with
  | nil => intro a ha; cases ha
  | cons c l ih =>
    obtain ⟨h1, h2⟩ := List.pairwise_cons.mp h
    intro a ha b hb e
    rcases List.mem_cons.mp ha with ha' | ha'
    · rcases List.mem_cons.mp hb with hb' | hb'
      · rw [ha', hb']
      · have := h1 b hb'; rw [ha'] at e; omega
    · rcases List.mem_cons.mp hb with hb' | hb'
      · have := h1 a ha'; rw [hb'] at e; omega
      · exact ih h2 a ha' b hb' e
/-- the one order that there is -/
theorem sortNR_eq {bs ys : List (Nat × List Nat)} (hp : ys.Perm bs) (hs : ys.Pairwise fun a b => a.1 < b.1) : sortNR bs = ys := by
  have hm : (sortNR bs).Perm bs := List.mergeSort_perm _ _
  refine List.Perm.eq_of_pairwise (le := fun a b => a.1 ≤ b.1) (fun a b ha hb h1 h2 => ?_) ((PySem.W.sort_pairwise (PySem.W.sortLe_total _ false _) bs).imp fun h => le_fst h) (hs.imp fun h => Nat.le_of_lt h) (hm.trans hp.symm)
  exact pw_inj hs a ((hm.trans hp.symm).mem_iff.mp ha) b hb (by omega)
section
variable {X : Cx} {H : Hp}
theorem each_all : ∀ {bs : List (Nat × List Nat)} {xs : List V} {us : List Value}, Vals xs us → All (bs.map kNR) xs H → PySem.W.EachIs (fun v b => ∃ x, RelV x v ∧ (kNR b).is x H) us bs
  | [], [], _, .nil, _ => .nil
  | _ :: _, _ :: _, _ :: _, .cons r t, h => .cons ⟨_, r, h.1⟩ (each_all t h.2)
  | _ :: _, [], _, _, h => h.elim
  | [], _ :: _, _, _, h => h.elim
theorem all_each : ∀ {bs : List (Nat × List Nat)} {us : List Value}, PySem.W.EachIs (fun v b => ∃ x, RelV x v ∧ (kNR b).is x H) us bs → ∃ xs, Vals xs us ∧ All (bs.map kNR) xs H
  | _, _, .nil => ⟨[], .nil, trivial⟩
  | _, _, .cons ⟨x, r, h⟩ t => by
    obtain ⟨xs, h1, h2⟩ := all_each t
    exact ⟨x :: xs, .cons r h1, h, h2⟩
def rSortNR (bs : List (Nat × List Nat)) : List V → Hp → VK → Prop := fun vs H Q => ∃ (a : Addr) (xs : List V), vs = [V.ref a] ∧ H a = some (.lst xs) ∧ All (bs.map kNR) xs H ∧
  ∀ (ys : List V) (p : Addr), All ((sortNR bs).map kNR) ys H → H p = none → Q (.ref p) (upd H p (.lst ys))
theorem cr_sortedNR {bs : List (Nat × List Nat)} (hu : X.A.units + 64 < cLine) (hL : bs.length ≤ 16000000) : CallR X (.builtin "sorted") (rSortNR bs) := by
  intro pins s σ H vs us Q I r h
  obtain ⟨a, xs, rfl, hs, hA, q⟩ := h
  obtain ⟨its, rv, hl, hz⟩ := I.list (SqL.of hs)
  rw [Vals.ref1 r]
  have e := each_all rv hA
  refine PySem.W.sorted_data (R := fun v b => ∃ x, RelV x v ∧ (kNR b).is x H) (enc := encNR) (bs := bs) hl.isList e (e.mono fun v b ⟨x, hr, hi⟩ => Dp.reads I (encNR b) x v ((dpI_NR b).2 x H hi) hr) (PySem.W.AllAlike.of alike_NR) (PySem.W.Sortable.tuples fun b => ⟨_, _, rfl⟩) (by rw [sizeLine_eq]; omega) (fun b _ => by have := depth_NR b; omega) fun out h1 h2 => ?_
  obtain ⟨ys, v1, v2⟩ := all_each h2
  obtain ⟨ep, he'⟩ := PyProof.Rows.sortedAll_at s.heap its out.toArray
  exact ⟨.ref _, upd H (s.heap.objs.size + 1) (.lst ys), I.laid (t' := s.toks) (fun _ _ => PyProof.Rows.sortedAll_old) (Nat.le_succ _) ⟨by rw [v1.length, h1, sizeLine_eq]; omega, out, ep, v1, he'⟩, rfl, q ys _ v2 (I.hok.fresh (Nat.le_succ _))⟩
end
section
variable {tb : Tb} {X : Cx} {G : List (Option Ty)} {a : Expr} {pos p : Pos} {k : Nat}
theorem e_sortedNR {bs : List (Nat × List Nat)} (hr : Room k X.A) (hL : bs.length ≤ 16000000) (hm : X.mg "sorted" = none) (ha : EV tb X G a (anyL (bs.map kNR))) (hg : Gl X "sorted" := by rfl) (hs : starEach [a] X.env = (false, eval a X.env) :: starEach [] X.env := by rfl) : EV tb X G (.Call (.Name "sorted" p) [a] [] pos) (newL ((sortNR bs).map kNR)) :=
  e_callB (cr_sortedNR (bs := bs) hr.units hL) hm (by decide +kernel) (fun H vs H1 e1 hf Q k => by
    match vs, hf with
    | [u], ⟨⟨y, h1⟩, _⟩ =>
      obtain ⟨ev, xs, hx, hA⟩ := h1
      refine ⟨y, xs, by rw [ev], hx, hA, fun ys p hys hp => ?_⟩
      have e2 : Ex tb H1 (upd H1 p (.lst ys)) := Ex.new hp
      exact k _ _ e2 ⟨p, e1.dom p hp, rfl, ys, upd_same, hys.ex e2⟩) (ea_cons (As := []) (A := agL (bs.map kNR)) ha (fun _ _ _ ⟨y, q⟩ => ⟨y, q⟩) ea_nil hs) hg (by decide) (by decide) hs
end
end Tw
end STwW5
section STwW6
set_option Elab.async false
set_option linter.all false
set_option maxRecDepth 100000
set_option maxHeartbeats 4000000
/-! Promises of the law's own defs (6): all sheets, lots, shares. -/
namespace Tw
open PySem PySem.Spec PyProof.Rows L2
def sheetF (p : Nat) (m : List Nat) : List (List Nat) := if freeN p m = true then (List.range (p - 1)).map fun i => timN p m (1 + i) else []
theorem sheetF_len {p : Nat} {m : List Nat} : (sheetF p m).length ≤ p := by
  unfold sheetF
  split
  · rw [List.length_map, List.length_range]; omega
  · exact Nat.zero_le _
theorem flat_len {α β : Type} {F : α → List β} {c : Nat} (h : ∀ a, (F a).length ≤ c) : ∀ l : List α, (l.flatMap F).length ≤ l.length * c
  | [] => by simp
  | a :: l => by
    rw [List.flatMap_cons, List.length_append, List.length_cons, Nat.succ_mul]
    have := flat_len h l
    have := h a
    omega
theorem flat_snoc {α β : Type} {F : α → List β} {l : List α} {k : Nat} {a : α} (h : l[k]? = some a) : (l.take (k + 1)).flatMap F = (l.take k).flatMap F ++ F a := by
  rw [List.take_add_one, h, List.flatMap_append]
  simp
theorem timN_ok {p : Nat} {m : List Nat} {c : Nat} (hp : 0 < p) (h : RowOk p m) (hl : lastN m = 1) (hne : m ≠ []) (hc : c ≠ 0) (hcp : c < p) : RowOk p (timN p m c) ∧ (timN p m c).length = m.length := by
  have h0 : 0 < m.length := List.length_pos_iff.mpr hne
  have e : timN p m c = m.map fun e => e * c % p := by
    unfold timN
    refine trim_ne (d := c) ?_ hc
    rw [List.length_map, List.getElem?_map, getD_at (show m.length - 1 < m.length by omega)]
    show some (lastN m * c % p) = some c
    rw [hl, Nat.one_mul, Nat.mod_eq_of_lt hcp]
  rw [e]
  refine ⟨⟨fun x hx => ?_, by rw [List.length_map]; exact h.len⟩, List.length_map _⟩
  obtain ⟨y, _, rfl⟩ := List.mem_map.mp hx
  exact Nat.mod_lt _ hp
theorem mons_row {p d : Nat} (hp : 2 ≤ p) (hd : d ≤ 10) {r : List Nat} (h : r ∈ monsN p d) : RowOk p r ∧ r.length = d + 1 ∧ lastN r = 1 ∧ r ≠ [] ∧ Tr r := by
  obtain ⟨q1, q2, q3⟩ := monsN_ok hp d r h
  refine ⟨⟨q1, by omega⟩, q2, q3, fun z => by rw [z] at q2; simp at q2, fun _ => by rw [q3]; decide⟩
theorem sheetD_ok {p d : Nat} (hp : 2 ≤ p) (hd : d ≤ 10) : ∀ r ∈ sheetD p d, RowOk p r ∧ r.length = d + 1 := fun r h => by
  obtain ⟨m, h1, h2⟩ := List.mem_flatMap.mp h
  obtain ⟨q1, q2, q3, q4, _⟩ := mons_row hp hd h1
  split at h2
  · obtain ⟨i, h3, rfl⟩ := List.mem_map.mp h2
    have h3 := List.mem_range.mp h3
    obtain ⟨a, b⟩ := timN_ok (by omega) q1 q3 q4 (show 1 + i ≠ 0 by omega) (by omega)
    exact ⟨a, by rw [b, q2]⟩
  · cases h2
theorem deg_at {g d : Nat} (h : d ∈ degN g) : 1 ≤ d ∧ d ≤ 2 * g + 2 := by
  unfold degN at h
  split at h
  · rcases List.mem_cons.mp h with rfl | h
    · omega
    · rw [List.mem_singleton.mp h]; omega
  · rcases List.mem_cons.mp h with rfl | h
    · omega
    · rw [List.mem_singleton.mp h]; omega
theorem sheetAll_ok {p g : Nat} (hp : 2 ≤ p) (hg : g ≤ 3) : ∀ r ∈ sheetAll p g, RowOk p r ∧ 2 ≤ r.length ∧ r.length ≤ 9 := fun r h => by
  obtain ⟨d, h1, h2⟩ := List.mem_flatMap.mp h
  obtain ⟨h3, h4⟩ := deg_at h1
  obtain ⟨q1, q2⟩ := sheetD_ok hp (by omega) r h2
  exact ⟨q1, by omega, by omega⟩
def numbered (p : Nat) (l : List (List Nat)) : List (Nat × List Nat) := l.map fun r => (numR p r, r)
def sheetsN (p g : Nat) : List (List Nat) := (sortNR (numbered p (sheetAll p g))).map (·.2)
theorem sheetsN_mem {p g : Nat} {r : List Nat} (h : r ∈ sheetsN p g) : r ∈ sheetAll p g := by
  obtain ⟨q, h1, rfl⟩ := List.mem_map.mp h
  have h2 := (List.mergeSort_perm _ _).mem_iff.mp h1
  obtain ⟨s, h3, rfl⟩ := List.mem_map.mp h2
  exact h3
/-- the cases -/
def SzOk (a : Nat × Nat) : Prop := PrP a.1 ∧ a.2 ≤ 2 ∧ a.1 ^ (2 * a.2 + 2) ≤ 100000
section
variable {P : Program} {w : World} {K : PySem.W.Frag} {mg : Str → Option Value} {base : Heap} {tb : Tb}
abbrev nLSheets : List Str := ["_law_prime", "_law_genus_here", "_law_found", "_law_degrees", "_law_degree", "_law_monic_here", "_law_lead", "_law_rows", "_law_row", "_law_number_here"]
theorem sc_lSheets : FnScope nLSheets ["_law_prime", "_law_genus_here"] (defScope sLSheets) := ⟨rfl, rfl, rfl, by decide +kernel, rfl, by decide +kernel, by decide +kernel⟩
def pmLSheets : Prm (Nat × Nat) := ⟨fun a => [ag (tN a.1), ag (tN a.2)], SzOk, fun a => newL ((sheetsN a.1 a.2).map kRow)⟩
theorem nr_at {l : List (Nat × List Nat)} {i : Nat} {T : Im} (h : (l.map kNR)[i]? = some T) : T = kT [kN (l.getD i (0, [])).1, kRow (l.getD i (0, [])).2] ∧ l[i]? = some (l.getD i (0, [])) := by
  rw [List.getElem?_map] at h
  cases q : l[i]? with
  | none => rw [q] at h; cases h
  | some r =>
    rw [q] at h
    have e : l.getD i (0, []) = r := by rw [List.getD_eq_getElem?_getD, q]; rfl
    rw [e]
    exact ⟨(Option.some.inj h).symm, rfl⟩
theorem ok_lSheets {f : Addr} {fd : FuncData} (B : Tx K mg) (Fm : DF P w K mg base tb "_law_monics" 1 pmLMonics) (Ff : DF P w K mg base tb "_law_is_free" 5 pmLFree) (Ft : DF P w K mg base tb "_law_times" 2 pmLTimes) (Fn : DF P w K mg base tb "_law_number" 1 pmPolyNumber) (hst : mg "sorted" = none) (F : Fun K "_law_sheets_of" "_law_sheets_of" sLSheets f fd) : FN P w K mg base tb 6 f fd ["_law_prime", "_law_genus_here"] pmLSheets := by
  refine fun_tw F sc_lSheets (fun _ => rfl) ?_
  rintro ⟨p, g⟩ cdv A outer s H0 E as D ⟨hp, hg, hsz⟩ hr ht hD hX
  have hp : PrP p := hp
  have hg : g ≤ 2 := hg
  have hsz : p ^ (2 * g + 2) ≤ 100000 := hsz
  have hpl := hp.le
  have hp2 : 2 ≤ p := by omega
  have hp0 : 0 < p := by omega
  have nd := sc_lSheets.nd
  have hdl : (degN g).length = 2 := by unfold degN; split <;> rfl
  have hdp : ∀ d ∈ degN g, p ^ d ≤ 100000 := fun d hd => Nat.le_trans (Nat.pow_le_pow_right hp0 (deg_at hd).2) hsz
  have hDl : ∀ d ∈ degN g, (sheetD p d).length ≤ 700000 := fun d hd => by
    have h1 := flat_len (F := sheetF p) (fun a => sheetF_len) (monsN p d)
    rw [monsN_len] at h1
    have h2 := Nat.mul_le_mul (hdp d hd) hpl.2
    exact Nat.le_trans h1 h2
  have hAl : ∀ l : List Nat, (∀ d ∈ l, d ∈ degN g) → (l.flatMap (sheetD p)).length ≤ l.length * 700000 := fun l => by
    induction l with
    | nil => intro _; simp
    | cons d l ih =>
      intro h
      rw [List.flatMap_cons, List.length_append, List.length_cons, Nat.succ_mul]
      have := ih fun x hx => h x (List.mem_cons_of_mem _ hx)
      have := hDl d (h d List.mem_cons_self)
      omega
  show BK tb _ H0 [some (tN p), some (tN g), none, none, none, none, none, none, none, none] [] _ _
  refine b_parLL (Ts := []) (Us := (degN g).map kN) nd 2 3 (e_lst em_nil) (e_ife (t_eq (e_v 1 rfl) (e_n 0)) (fun h => ?_) fun h => ?_) fun z zd _ _ _ _ _ _ _ => ?_
  · have h : g = 0 := of_decide_eq_true h
    rw [h]
    exact e_lst (em_cons (K := kN 1) (e_n 1) (em_cons (K := kN 2) (e_n 2) em_nil))
  · have h : ¬ g = 0 := of_decide_eq_false h
    refine EV.cast (e_lst (em_cons (K := kN (2 * g + 1)) (e_add (e_mul (n := 2) (e_n 2) (e_v 1 rfl) (.inl (by decide))) (e_n 1)) (em_cons (K := kN (2 * g + 2)) (e_add (e_mul (n := 2) (e_n 2) (e_v 1 rfl) (.inl (by decide))) (e_n 2)) em_nil))) ?_
    unfold degN
    rw [if_neg h]
    rfl
  refine b_for (ζ := Addr) nd 4 (i_list (e_v 3 rfl)) (fun k z => [some (tN p), some (tN g), some (tL z ((((degN g).take k).flatMap (sheetD p)).map kRow)), some (tL zd ((degN g).map kN)), none, none, none, none, none, none]) (fun _ _ => True) z trivial ⟨rfl, rfl, rfl, rfl, trivial⟩ ?_ ?_
  · intro gv off k T z hk hT _
    rw [List.length_map] at hk
    have hT2 : T = kN ((degN g).getD k 0) := by
      rw [List.getElem?_map, getD_at hk] at hT
      exact (Option.some.inj hT).symm
    subst hT2
    have hdk := getD_at hk
    generalize hd0 : (degN g).getD k 0 = d at hdk
    have hdm : d ∈ degN g := List.mem_of_getElem? hdk
    obtain ⟨hd1, hd2⟩ := deg_at hdm
    have hpd := hdp d hdm
    have htk : (((degN g).take k).flatMap (sheetD p)).length ≤ 1400000 := by
      have h1 := hAl ((degN g).take k) fun x hx => List.mem_of_mem_take hx
      have h2 : ((degN g).take k).length ≤ 2 := by rw [List.length_take]; omega
      have := Nat.mul_le_mul_right 700000 h2
      omega
    generalize hpre : ((degN g).take k).flatMap (sheetD p) = pre at htk
    have hsn : ((degN g).take (k + 1)).flatMap (sheetD p) = pre ++ sheetD p d := by rw [flat_snoc hdk, hpre]
    refine b_for (ζ := Addr) nd 5 (i_new (e_call Fm (hr.mono (by decide)) (p, d) ⟨hp, by show d ≤ 10; omega, hpd⟩ (R := newL ((monsN p d).map kRow)) (ea_v (e_v 0 rfl) (ea_v (e_v 4 rfl) ea_nil)))) (fun m z => [some (tN p), some (tN g), some (tL z ((pre ++ ((monsN p d).take m).flatMap (sheetF p)).map kRow)), some (tL zd ((degN g).map kN)), none, none, none, none, none, none]) (fun _ _ => True) z trivial ⟨rfl, rfl, by rw [List.take_zero, List.flatMap_nil, List.append_nil], rfl, trivial⟩ ?_ ?_
    · intro gv2 off2 m T2 z hm hT2 _
      obtain ⟨rfl, hm2⟩ := rows_at hT2
      rw [List.length_map] at hm
      generalize hM : (monsN p d).getD m [] = M at hm2
      obtain ⟨o1, o2, o3, o4, o5⟩ := mons_row hp2 (show d ≤ 10 by omega) (List.mem_of_getElem? hm2)
      have hsn2 := flat_snoc (F := sheetF p) hm2
      have htl : (((monsN p d).take m).flatMap (sheetF p)).length ≤ 700000 := by
        have h1 := flat_len (F := sheetF p) (fun a => sheetF_len) ((monsN p d).take m)
        have h2 : ((monsN p d).take m).length ≤ p ^ d := by rw [List.length_take, monsN_len]; omega
        exact Nat.le_trans h1 (Nat.mul_le_mul (Nat.le_trans h2 hpd) hpl.2)
      refine b_when (t_val (e_call Ff (hr.mono (by decide)) (p, M) ⟨hp, o1, o4, o5⟩ (R := val (tB (freeN p M))) (ea_v (e_v 0 rfl) (ea_v (e_v 5 rfl) ea_nil)))) (fun h => ?_) fun h => ?_
      · have e1 : sheetF p M = (List.range (p - 1)).map fun i => timN p M (1 + i) := by unfold sheetF; rw [if_pos h]
        refine b_new nd 2 (Ts := (pre ++ ((monsN p d).take (m + 1)).flatMap (sheetF p)).map kRow) (EV.cast (e_catL (Ts := (pre ++ ((monsN p d).take m).flatMap (sheetF p)).map kRow) (Us := (sheetF p M).map kRow) (EV.anyL (e_v 2 rfl)) (EV.any (EV.cast (e_lc nd 6 (i_range2 B.range (e_n 1) (e_v 0 rfl) (by omega)) (blk_of nLSheets (defScope sLSheets)) (fun _ => true) (fun i => kRow (timN p M (1 + i))) (fun _ _ _ _ _ _ _ _ _ => ts_nil) ?_ (by rw [rangeK_len]; omega)) ?_)) ?_) ?_) fun z3 _ _ _ => ?_
        · intro s H' C cl fp i T3 hi hT3 _
          obtain ⟨rfl, hi⟩ := rangeK_at hT3
          exact e_call Ft (hr.mono (by decide)) (p, M, 1 + i) ⟨hp, o1, o4⟩ (ea_v (e_v 0 rfl) (ea_v (e_v 5 rfl) (ea_v (T := tRow [1 + i]) (e_tup (em_cons (K := kN (1 + i)) (e_v 6 rfl) em_nil)) ea_nil)))
        · rw [rangeK_len, pick_range, e1, List.map_map]
          rfl
        · rw [List.length_map, List.length_map, List.length_append]
          have := sheetF_len (p := p) (m := M)
          omega
        · rw [hsn2, ← List.append_assoc, List.map_append (l₁ := pre ++ _)]
        · exact b_then (b_fall fun _ _ g => ⟨z3, trivial, g.wk ⟨rfl, rfl, rfl, rfl, trivial⟩⟩)
      · have e1 : sheetF p M = [] := by unfold sheetF; rw [h]; rfl
        refine b_fall fun _ _ g => ⟨z, trivial, g.wk ⟨rfl, rfl, ?_, rfl, trivial⟩⟩
        rw [hsn2, e1, List.append_nil]
    · intro z _
      rw [List.length_map, List.take_length]
      exact b_fall fun _ _ g => ⟨z, trivial, g.wk ⟨rfl, rfl, by rw [hsn]; rfl, rfl, trivial⟩⟩
  · intro z _
    rw [List.length_map, List.take_length]
    have hal := hAl (degN g) fun _ h => h
    rw [hdl] at hal
    have hrows := sheetAll_ok hp2 (show g ≤ 3 by omega)
    have hD : ∀ v H', Ex tb H0 H' → (newL ((sheetsN p g).map kRow)).is H0 v H' → D.rt v H' := hD
    have hse : (degN g).flatMap (sheetD p) = sheetAll p g := rfl
    rw [hse] at hal ⊢
    have hnl : (numbered p (sheetAll p g)).length ≤ 16000000 := by unfold numbered; rw [List.length_map]; omega
    have hsl : (sortNR (numbered p (sheetAll p g))).length ≤ 16000000 := by
      have := (List.mergeSort_perm (numbered p (sheetAll p g)) (PySem.W.dataLe false encNR)).length_eq
      unfold sortNR
      omega
    refine b_new nd 7 (e_sortedNR (bs := numbered p (sheetAll p g)) hr hnl hst (EV.any (EV.cast (e_lc nd 8 (i_list (e_v 2 rfl)) (blk_of nLSheets (defScope sLSheets)) (fun _ => true) (fun i => kNR (numR p ((sheetAll p g).getD i []), (sheetAll p g).getD i [])) (fun _ _ _ _ _ _ _ _ _ => ts_nil) ?_ (by rw [List.length_map]; omega)) ?_))) fun z3 _ _ _ => ?_
    · intro s H' C cl fp i T3 hi hT3 _
      obtain ⟨rfl, hi2⟩ := rows_at hT3
      exact e_tup (em_cons (K := kN (numR p ((sheetAll p g).getD i []))) (e_call Fn (hr.mono (by decide)) (p, (sheetAll p g).getD i []) (by show p ≤ 31; omega) (ea_v (e_v 0 rfl) (ea_v (e_v 8 rfl) ea_nil))) (em_cons (K := kRow ((sheetAll p g).getD i [])) (e_v 8 rfl) em_nil))
    · rw [List.length_map, pick_all (sheetAll p g) (fun r => kNR (numR p r, r)) _ _ (fun _ _ => rfl) (fun i b hb => by rw [List.getD_eq_getElem?_getD, hb]; rfl)]
      unfold numbered
      rw [List.map_map]
      rfl
    generalize hS : sortNR (numbered p (sheetAll p g)) = S at hsl
    refine b_ret (EV.cast (e_lc2 nd 9 8 (i_list (e_v 7 rfl)) (fun k => kN (S.getD k (0, [])).1) (fun k => kRow (S.getD k (0, [])).2) (fun k T h => (nr_at h).1) (blk_of nLSheets (defScope sLSheets)) (fun _ => true) (fun k => kRow (S.getD k (0, [])).2) (fun _ _ _ _ _ _ _ _ _ => ts_nil) (fun _ _ _ _ _ _ _ _ _ _ => e_v 8 rfl) (by rw [List.length_map]; exact hsl)) ?_) hD
    rw [List.length_map, pick_all S (fun q => kRow q.2) _ _ (fun _ _ => rfl) (fun i b hb => by rw [List.getD_eq_getElem?_getD, hb]; rfl)]
    unfold sheetsN
    rw [hS, List.map_map]
    rfl
end
end Tw
end STwW6
section STwW7
set_option Elab.async false
set_option linter.all false
set_option maxRecDepth 100000
set_option maxHeartbeats 4000000
/-! Promises of the law's own defs (7): lots, shares. -/
namespace Tw
open PySem PySem.Spec PyProof.Rows L2
theorem putR_mono {ks : List (List Nat)} {r : List Nat} : ks.length ≤ (putR ks r).length := by
  unfold putR
  split
  · exact Nat.le_refl _
  · rw [List.length_append]; omega
theorem mergeR_mono : ∀ {ms ks : List (List Nat)}, ks.length ≤ (mergeR ks ms).length
  | [], _ => Nat.le_refl _
  | m :: ms, ks => Nat.le_trans putR_mono (mergeR_mono (ms := ms) (ks := putR ks m))
theorem clanTo_pos {p one n : Nat} {form : List Nat} : ∀ i, 0 < (clanTo p one n form i).length
  | 0 => Nat.one_pos
  | i + 1 => by
    unfold clanTo
    split
    · exact Nat.lt_of_lt_of_le (clanTo_pos i) mergeR_mono
    · exact clanTo_pos i
theorem lotN_len {p : Nat} {r : List Nat} : 0 < (lotN p r).length ∧ (lotN p r).length ≤ 20001 := by
  have h : ∀ N, 0 < ((clanTo p (makN p) (szN r) (padN r) N).map trimN).length ∧ ((clanTo p (makN p) (szN r) (padN r) N).map trimN).length ≤ 1 + 4 * N := fun N => by
    rw [List.length_map]
    exact ⟨clanTo_pos N, clanTo_len N⟩
  exact h 5000
abbrev LSt := List (List Nat) × List (List Nat × Nat)
def lotStep (L : List Nat → List (List Nat)) (c : Nat) (st : LSt) (row : List Nat) : LSt := if row ∈ st.1 then st else (mergeR st.1 (L row), st.2 ++ [(row, c / (L row).length)])
def lotsSt (p g : Nat) : LSt := (sheetsN p g).foldl (lotStep (lotN p) (mcN p)) ([], [])
def lotsN (p g : Nat) : List (List Nat × Nat) := (lotsSt p g).2
theorem mergeR_take {ks ms : List (List Nat)} (k : Nat) : (mergeR ks (ms.take k)).length ≤ (mergeR ks ms).length := by
  have e : (ms.take k ++ ms.drop k).foldl putR ks = (ms.drop k).foldl putR ((ms.take k).foldl putR ks) := List.foldl_append
  rw [List.take_append_drop] at e
  show _ ≤ (ms.foldl putR ks).length
  rw [e]
  exact mergeR_mono (ks := (ms.take k).foldl putR ks) (ms := ms.drop k)
theorem lotStep_1 {L : List Nat → List (List Nat)} {c : Nat} {st : LSt} {r : List Nat} : st.1.length ≤ (lotStep L c st r).1.length := by
  by_cases h : r ∈ st.1
  · rw [show lotStep L c st r = st by unfold lotStep; rw [if_pos h]]
    exact Nat.le_refl _
  · rw [show lotStep L c st r = (mergeR st.1 (L r), st.2 ++ [(r, c / (L r).length)]) by unfold lotStep; rw [if_neg h]]
    exact mergeR_mono (ks := st.1) (ms := L r)
theorem lotStep_2 {L : List Nat → List (List Nat)} {c : Nat} {st : LSt} {r : List Nat} : (lotStep L c st r).2.length ≤ st.2.length + 1 := by
  by_cases h : r ∈ st.1
  · rw [show lotStep L c st r = st by unfold lotStep; rw [if_pos h]]
    omega
  · rw [show lotStep L c st r = (mergeR st.1 (L r), st.2 ++ [(r, c / (L r).length)]) by unfold lotStep; rw [if_neg h]]
    rw [List.length_append, List.length_singleton]
    exact Nat.le_refl _
theorem lots_mono {L : List Nat → List (List Nat)} {c : Nat} : ∀ (l : List (List Nat)) (st : LSt), st.1.length ≤ (l.foldl (lotStep L c) st).1.length
  | [], _ => Nat.le_refl _
  | r :: l, st => by
    rw [List.foldl_cons]
    have h1 := lotStep_1 (L := L) (c := c) (st := st) (r := r)
    have h2 := lots_mono (L := L) (c := c) l (lotStep L c st r)
    exact Nat.le_trans h1 h2
theorem lots_few {L : List Nat → List (List Nat)} {c : Nat} : ∀ (l : List (List Nat)) (st : LSt), (l.foldl (lotStep L c) st).2.length ≤ st.2.length + l.length
  | [], _ => Nat.le_refl _
  | r :: l, st => by
    rw [List.foldl_cons]
    have h1 := lotStep_2 (L := L) (c := c) (st := st) (r := r)
    have h2 := lots_few (L := L) (c := c) l (lotStep L c st r)
    rw [List.length_cons]
    omega
theorem fold_snoc {α β : Type} (f : α → β → α) (z : α) {l : List β} {k : Nat} {r : β} (h : l[k]? = some r) : (l.take (k + 1)).foldl f z = f ((l.take k).foldl f z) r := by
  rw [List.take_add_one, h, List.foldl_append]
  rfl
theorem fold_rest {α β : Type} (f : α → β → α) (z : α) (l : List β) (k : Nat) : l.foldl f z = (l.drop k).foldl f ((l.take k).foldl f z) := by
  rw [← List.foldl_append, List.take_append_drop]
theorem sheetsN_len {p g : Nat} (hp : PrP p) (hsz : p ^ (2 * g + 2) ≤ 100000) : (sheetsN p g).length ≤ 1400000 := by
  have hpl := hp.le
  have e : (sheetsN p g).length = (sheetAll p g).length := by
    unfold sheetsN sortNR numbered
    rw [List.length_map, List.length_mergeSort, List.length_map]
  rw [e]
  have hD : ∀ d ∈ degN g, (sheetD p d).length ≤ 700000 := fun d hd => by
    have h1 := flat_len (F := sheetF p) (fun a => sheetF_len) (monsN p d)
    rw [monsN_len] at h1
    have h2 := Nat.mul_le_mul (Nat.le_trans (Nat.pow_le_pow_right (by omega) (deg_at hd).2) hsz) hpl.2
    exact Nat.le_trans h1 h2
  unfold sheetAll
  have h2 : ∃ a b, degN g = [a, b] := by unfold degN; split <;> exact ⟨_, _, rfl⟩
  obtain ⟨a, b, e2⟩ := h2
  have ha := hD a (by rw [e2]; exact List.mem_cons_self)
  have hb := hD b (by rw [e2]; exact List.mem_cons_of_mem _ List.mem_cons_self)
  rw [e2, List.flatMap_cons, List.flatMap_cons, List.flatMap_nil, List.append_nil, List.length_append]
  omega
def LtOk (a : Nat × Nat) : Prop := SzOk a ∧ (lotsSt a.1 a.2).1.length ≤ 1000000
def sharedN (p g : Nat) : List Nat := ((List.range (2000 - 2)).filter fun i => decide ((massN p g).1 % (2 + i) = 0) && decide ((massN p g).2 % (2 + i) = 0)).map fun i => 2 + i
def partsN (p : Nat) (due : List (List Nat × Nat)) : Nat := (due.map fun q => mcN p / q.2).sum
def pointsN (p : Nat) (told : List (List Nat × Nat)) : Nat := (told.map fun q => mcN p / q.2 * (ptsN p q.1).length).sum
def noShare (p g : Nat) (due : List (List Nat × Nat)) : Bool := !decide (sharedN p g = []) || (decide ((massN p g).2 < 1) || !decide ((massN p g).1 * mcN p = (massN p g).2 * partsN p due))
def shareN (p g : Nat) (told due : List (List Nat × Nat)) : Bool := if noShare p g due = true then false else (decide (g = 0) || decide (pointsN p told = (p + 1) * p ^ (2 * g - 1) * mcN p))
def ManyOk (l : List (List Nat × Nat)) : Prop := l.length ≤ 16000000 ∧ ∀ q ∈ l, 0 < q.2 ∧ q.2 < 1073741824
abbrev kCP (Cp Cc p : Nat) (q : List Nat × Nat) : Im := kT [kCurve Cp Cc p q.1, kN q.2]
theorem cps_at {Cp Cc p : Nat} {l : List (List Nat × Nat)} {i : Nat} {T : Im} (h : (l.map (kCP Cp Cc p))[i]? = some T) : T = kT [kCurve Cp Cc p (l.getD i ([], 0)).1, kN (l.getD i ([], 0)).2] ∧ l[i]? = some (l.getD i ([], 0)) := by
  rw [List.getElem?_map] at h
  cases q : l[i]? with
  | none => rw [q] at h; cases h
  | some r =>
    rw [q] at h
    have e : l.getD i ([], 0) = r := by rw [List.getD_eq_getElem?_getD, q]; rfl
    rw [e]
    exact ⟨(Option.some.inj h).symm, rfl⟩
section
variable {P : Program} {w : World} {K : PySem.W.Frag} {mg : Str → Option Value} {base : Heap} {tb : Tb} {Cp Cc : Addr}
abbrev nLLots : List Str := ["_law_prime", "_law_genus_here", "_law_known", "_law_found", "_law_whole", "_law_row", "_law_lot", "_law_one"]
theorem sc_lLots : FnScope nLLots ["_law_prime", "_law_genus_here"] (defScope sLLots) := ⟨rfl, rfl, rfl, by decide +kernel, rfl, by decide +kernel, by decide +kernel⟩
def pmLLots : Prm (Nat × Nat) := ⟨fun a => [ag (tN a.1), ag (tN a.2)], LtOk, fun a => newL ((lotsN a.1 a.2).map kPair)⟩
theorem ok_lLots {f : Addr} {fd : FuncData} (B : Tx K mg) (Fw : DF P w K mg base tb "_law_many_changes" 1 pmLMany) (Fs : DF P w K mg base tb "_law_sheets_of" 6 pmLSheets) (Fc : DF P w K mg base tb "_law_clan" 2 pmLClan) (F : Fun K "_law_lots" "_law_lots" sLLots f fd) : FN P w K mg base tb 7 f fd ["_law_prime", "_law_genus_here"] pmLLots := by
  refine fun_tw F sc_lLots (fun _ => rfl) ?_
  rintro ⟨p, g⟩ cdv A outer s H0 E as D ⟨hz, hfin⟩ hr ht hD hX
  have hz : SzOk (p, g) := hz
  obtain ⟨hp, hg, hsz⟩ := id hz
  have hp : PrP p := hp
  have hg : g ≤ 2 := hg
  have hsz : p ^ (2 * g + 2) ≤ 100000 := hsz
  have hfin : (lotsSt p g).1.length ≤ 1000000 := hfin
  have hpl := hp.le
  have nd := sc_lLots.nd
  have hsl := sheetsN_len hp hsz
  have hmem : ∀ r ∈ sheetsN p g, RowOk p r ∧ 2 ≤ r.length ∧ r.length ≤ 9 := fun r h => sheetAll_ok (by omega) (by omega) r (sheetsN_mem h)
  have hfin2 : ((sheetsN p g).foldl (lotStep (lotN p) (mcN p)) ([], [])).1.length ≤ 1000000 := hfin
  have hLl : ∀ r, 0 < (lotN p r).length ∧ (lotN p r).length ≤ 20001 := fun r => lotN_len
  have hD : ∀ v H', Ex tb H0 H' → (newL (((sheetsN p g).foldl (lotStep (lotN p) (mcN p)) ([], [])).2.map kPair)).is H0 v H' → D.rt v H' := hD
  generalize hL : lotN p = L at hfin2 hLl hD
  show BK tb _ H0 [some (tN p), some (tN g), none, none, none, none, none, none] [] _ _
  refine b_parDLV (ks := []) (Us := ([] : List (List Nat × Nat)).map kPair) (U := tN (mcN p)) nd 2 3 4 e_newD (e_lst em_nil) (e_call Fw (hr.mono (by decide)) p hp (ea_v (e_v 0 rfl) ea_nil)) fun zk zf hk0 hko _ hf0 hfo _ hne => ?_
  have hne2 : zk ∉ [zf] := fun q => hne (by rw [List.mem_singleton.mp q]; exact List.mem_singleton_self _)
  refine b_for nd 5 (i_new (e_call Fs (hr.mono (by decide)) (p, g) hz (R := newL ((sheetsN p g).map kRow)) (ea_v (e_v 0 rfl) (ea_v (e_v 1 rfl) ea_nil)))) (fun k (_ : Unit) => [some (tN p), some (tN g), some (tD zk (((sheetsN p g).take k).foldl (lotStep L (mcN p)) ([], [])).1), some (tL zf ((((sheetsN p g).take k).foldl (lotStep L (mcN p)) ([], [])).2.map kPair)), some (tN (mcN p)), none, none, none]) (fun _ _ => True) () trivial ⟨rfl, rfl, rfl, rfl, rfl, trivial⟩ ?_ ?_
  · intro gv off k T _ hk hT _
    obtain ⟨rfl, hk2⟩ := rows_at hT
    rw [List.length_map] at hk
    generalize hR : (sheetsN p g).getD k [] = R at hk2
    obtain ⟨o1, o2, o3⟩ := hmem R (List.mem_of_getElem? hk2)
    have hsn := fold_snoc (lotStep L (mcN p)) ([], []) hk2
    have hb1 : (((sheetsN p g).take (k + 1)).foldl (lotStep L (mcN p)) ([], [])).1.length ≤ 1000000 := by
      refine Nat.le_trans ?_ hfin2
      rw [fold_rest (lotStep L (mcN p)) ([], []) (sheetsN p g) (k + 1)]
      exact lots_mono _ _
    have hb2 := lots_few (L := L) (c := mcN p) ((sheetsN p g).take k) ([], [])
    have hb2 : (((sheetsN p g).take k).foldl (lotStep L (mcN p)) ([], [])).2.length ≤ 1400000 := by
      have : ((sheetsN p g).take k).length ≤ (sheetsN p g).length := by rw [List.length_take]; omega
      have h0 : ([] : List (List Nat × Nat)).length = 0 := rfl
      simp only [h0] at hb2
      omega
    rw [hsn] at hb1
    generalize hS : ((sheetsN p g).take k).foldl (lotStep L (mcN p)) ([], []) = S at hsn hb1 hb2
    obtain ⟨ks, fs⟩ := S
    have hb2 : fs.length ≤ 1400000 := hb2
    refine b_when (t_notinD hr (e_v 5 rfl) (e_v 2 rfl)) (fun h => ?_) fun h => ?_
    · have h : ¬ R ∈ ks := by simpa using h
      have e1 : lotStep L (mcN p) (ks, fs) R = (mergeR ks (L R), fs ++ [(R, mcN p / (L R).length)]) := by unfold lotStep; rw [if_neg h]
      rw [e1] at hsn hb1
      have hb1 : (mergeR ks (L R)).length ≤ 1000000 := hb1
      obtain ⟨hl1, hl2⟩ := hLl R
      refine b_new nd 6 (e_call Fc (hr.mono (by decide)) (p, R) ⟨hp, o1, o2, o3⟩ (R := newL ((L R).map kRow)) (hR := by show newL ((lotN p R).map kRow) = _; rw [hL]) (ea_v (e_v 0 rfl) (ea_v (e_v 5 rfl) ea_nil))) fun zl hl0 hlo _ => ?_
      have hkl : zk ∉ [zl] := fun q => hlo.at (i := 2) rfl (by rw [List.mem_singleton.mp q]; exact List.mem_singleton_self _)
      have hfl : zf ∉ [zl] := fun q => hlo.at (i := 3) rfl (by rw [List.mem_singleton.mp q]; exact List.mem_singleton_self _)
      have od1 : OffD zk (gv ++ []) := OffD.app (D := []) trivial (off 2 _ zk rfl (List.mem_singleton_self _) nm)
      have od2 : OffD zf (gv ++ []) := OffD.app (D := []) trivial (off 3 _ zf rfl (List.mem_singleton_self _) nm)
      refine b_for nd 7 (i_list (e_v 6 rfl)) (fun m (_ : Unit) => [some (tN p), some (tN g), some (tD zk (mergeR ks ((L R).take m))), some (tL zf (fs.map kPair)), some (tN (mcN p)), some (tRow R), some (tL zl ((L R).map kRow)), none]) (fun _ _ => True) () trivial ⟨rfl, rfl, rfl, rfl, rfl, rfl, rfl, trivial⟩ ?_ ?_
      · intro gv2 off2 m T2 _ hm hT2 _
        obtain ⟨rfl, hm2⟩ := rows_at hT2
        have od3 : OffD zk (gv2 ++ (gv ++ [])) := OffD.app od1 (off2 2 _ zk rfl (List.mem_singleton_self _) hkl)
        have hsn2 := merge_snoc (ks := ks) hm2
        have hml := mergeR_take (ks := ks) (ms := L R) m
        refine b_dputD hr 2 rfl hk0 ⟨nm, nm, hne2, nm, nm, hkl, nm, trivial⟩ od3 e_b (e_v 2 rfl) (e_v 7 rfl) (by omega) ?_
        exact b_fall fun _ _ g => ⟨(), trivial, g.wk ⟨rfl, rfl, by rw [hsn2], rfl, rfl, rfl, rfl, trivial⟩⟩
      · intro _ _
        rw [List.length_map, List.take_length]
        refine b_app (K := kPair (R, mcN p / (L R).length)) 3 rfl hf0 ⟨nm, nm, hne, nm, nm, hfl, trivial⟩ od2 (by rw [List.length_map]; omega) (e_v 3 rfl) (e_tup (em_cons (K := kRow R) (e_v 5 rfl) (em_cons (K := kN (mcN p / (L R).length)) (e_div (e_v 4 rfl) (EV.cast (e_lenL B.len (e_v 6 rfl)) (by rw [List.length_map])) hl1 (by omega)) em_nil))) ?_
        refine b_then (b_fall fun _ _ g => ⟨(), trivial, g.wk ⟨rfl, rfl, by rw [hsn], ?_, rfl, trivial⟩⟩)
        rw [hsn]
        show some (tL zf (fs.map kPair ++ [kPair (R, mcN p / (L R).length)])) = some (tL zf ((fs ++ [(R, mcN p / (L R).length)]).map kPair))
        rw [List.map_append]
        rfl
    · have h : R ∈ ks := by simpa using h
      have e1 : lotStep L (mcN p) (ks, fs) R = (ks, fs) := by unfold lotStep; rw [if_pos h]
      rw [e1] at hsn
      exact b_fall fun _ _ g => ⟨(), trivial, g.wk ⟨rfl, rfl, by rw [hsn], by rw [hsn], rfl, trivial⟩⟩
  · intro _ _
    rw [List.length_map, List.take_length]
    exact b_ret (e_v 3 rfl) fun v H' e h => hD v H' e ⟨zf, hf0, h⟩
abbrev nLShare : List Str := ["_law_prime", "_law_genus_here", "_law_told", "_law_due", "_law_whole", "_law_top", "_law_bottom", "_law_shared", "_law_one", "_law_parts", "_law_row", "_law_many", "_law_points", "_law_head"]
theorem sc_lShare : FnScope nLShare ["_law_prime", "_law_genus_here", "_law_told", "_law_due"] (defScope sLShare) := ⟨rfl, rfl, rfl, by decide +kernel, rfl, by decide +kernel, by decide +kernel⟩
def pmLShare (Cp Cc : Addr) : Prm ((Nat × Nat) × List (List Nat × Nat) × List (List Nat × Nat)) := ⟨fun a => [ag (tN a.1.1), ag (tN a.1.2), ag (tT (a.2.1.map (kCP Cp Cc a.1.1))), agL (a.2.2.map kPair)], fun a => PrP a.1.1 ∧ a.1.2 ≤ 2 ∧ ManyOk a.2.1 ∧ ManyOk a.2.2, fun a => val (tB (shareN a.1.1 a.1.2 a.2.1 a.2.2))⟩
theorem mcN_lt {p : Nat} (hp : PrP p) : mcN p < 10000 := by
  rcases hp with rfl | rfl | rfl <;> decide
theorem ok_lShare {f : Addr} {fd : FuncData} (B : Tx K mg) (Cf : CurveF K mg Cp Cc) (Fw : DF P w K mg base tb "_law_many_changes" 1 pmLMany) (Fm : DF P w K mg base tb "mass" 4 pmMass) (Fr : DF P w K mg base tb "_law_raised" 1 pmRaised) (Fl : Mth tb P w K mg base Cc "__len__" 1 (pmCurveLen Cp Cc)) (F : Fun K "_law_is_share" "_law_is_share" sLShare f fd) : FN P w K mg base tb 5 f fd ["_law_prime", "_law_genus_here", "_law_told", "_law_due"] (pmLShare Cp Cc) := by
  refine fun_tw F sc_lShare (fun _ => rfl) ?_
  rintro ⟨⟨p, g⟩, told, due⟩ cdv A outer s H0 E as D ⟨hp, hg, ⟨htl, hto⟩, hdl, hdo⟩ hr ht hD hX
  have hp : PrP p := hp
  have hg : g ≤ 2 := hg
  have htl : told.length ≤ 16000000 := htl
  have hto : ∀ q ∈ told, 0 < q.2 ∧ q.2 < 1073741824 := hto
  have hdl : due.length ≤ 16000000 := hdl
  have hdo : ∀ q ∈ due, 0 < q.2 ∧ q.2 < 1073741824 := hdo
  have hpl := hp.le
  have hmc := mcN_lt hp
  have nd := sc_lShare.nd
  have hpr : PrOk p := by unfold PrOk; rcases hp with h | h | h <;> omega
  have hD : ∀ v H', Ex tb H0 H' → (val (tB (shareN p g told due))).is H0 v H' → D.rt v H' := hD
  have ea : ∃ zd : Addr, gam ((pmLShare Cp Cc).args ((p, g), told, due)) as 10 = [some (tN p), some (tN g), some (tT (told.map (kCP Cp Cc p))), some (tL zd (due.map kPair)), none, none, none, none, none, none, none, none, none, none] := ⟨_, rfl⟩
  obtain ⟨zd, ea⟩ := ea
  show BK tb _ H0 (gam ((pmLShare Cp Cc).args ((p, g), told, due)) as 10) [] _ _
  rw [ea]
  refine b_set nd 4 (T := tN (mcN p)) (e_call Fw (hr.mono (by decide)) p hp (ea_v (e_v 0 rfl) ea_nil)) ?_
  refine b_pair (K1 := kN (massN p g).1) (K2 := kN (massN p g).2) nd 5 6 (e_call Fm hr (p, g) ⟨hpr, by show g ≤ 3; omega⟩ (ea_v (e_v 0 rfl) (ea_v (e_v 1 rfl) ea_nil))) ?_
  refine b_newLc nd 7 8 (i_range2 B.range (e_n 2) (e_n 2000) (by decide)) (blk_of nLShare (defScope sLShare)) (fun i => decide ((massN p g).1 % (2 + i) = 0) && decide ((massN p g).2 % (2 + i) = 0)) (fun i => kN (2 + i)) ?_ ?_ (by rw [rangeK_len]; omega) ((sharedN p g).map kN) ?_ fun zs _ _ _ => ?_
  · intro s H' C cl fp i T hi hT
    obtain ⟨rfl, _⟩ := rangeK_at hT
    exact ts_one (t_and (t_eq (e_mod (e_v 5 rfl) (e_v 8 rfl) (by omega)) (e_n 0)) fun _ => t_eq (e_mod (e_v 6 rfl) (e_v 8 rfl) (by omega)) (e_n 0))
  · intro s H' C cl fp i T hi hT _
    obtain ⟨rfl, _⟩ := rangeK_at hT
    exact e_v 8 rfl
  · rw [rangeK_len]
    unfold pick sharedN
    rw [List.map_map]
    rfl
  have q9 : partsN p due = (due.map fun q => mcN p / q.2).sum := rfl
  refine b_set nd 9 (T := tN (due.map fun q => mcN p / q.2).sum) ?_ ?_
  · refine @e_sum _ _ _ _ _ _ (due.map fun q => mcN p / q.2) ?_ ?_ (EV.any ?_) ?_ ?_
    rotate_left 3
    · exact rfl
    · exact rfl
    · exact rfl
    · exact B.sum
    refine EV.cast (R := newL (pick (due.map kPair).length (fun _ => true) fun k => kN (mcN p / (due.getD k ([], 0)).2))) (e_lc2 nd 10 11 (i_list (e_v 3 rfl)) (fun k => kRow (due.getD k ([], 0)).1) (fun k => kN (due.getD k ([], 0)).2) (fun k T h => (pairs_at h).1) (blk_of nLShare (defScope sLShare)) (fun _ => true) (fun k => kN (mcN p / (due.getD k ([], 0)).2)) (fun _ _ _ _ _ _ _ _ _ => ts_nil) ?_ (by rw [List.length_map]; exact hdl)) ?_
    · intro s H' C cl fp k T hk hT _
      obtain ⟨_, hk2⟩ := pairs_at hT
      obtain ⟨m1, m2⟩ := hdo _ (List.mem_of_getElem? hk2)
      exact e_div (e_v 4 rfl) (e_v 11 rfl) m1 m2
    · rw [List.length_map, pick_all due (fun q => kN (mcN p / q.2)) _ _ (fun _ _ => rfl) (fun i b hb => by rw [List.getD_eq_getElem?_getD, hb]; rfl), List.map_map]
      rfl
  rw [← q9]
  refine b_when (d := noShare p g due) (t_w (w_or (t_neNums (kk := 0) hr (EV.anyL (e_v 7 rfl))) fun _ => w_or (t_lt (e_v 6 rfl) (e_n 1)) fun _ => w_or1 (t_ne (e_mul (e_v 5 rfl) (e_v 4 rfl) (.inr (by omega))) (e_mul (e_v 6 rfl) (e_v 9 rfl) (.inl ?_))))) (fun h => ?_) fun h => ?_
  · unfold massN
    split
    · show p * p - 1 < _
      have := Nat.mul_le_mul hpl.2 hpl.2
      omega
    · show 1 < _
      omega
  · have e1 : shareN p g told due = false := by unfold shareN; rw [if_pos h]
    rw [e1] at hD
    exact b_ret e_b hD
  · have e1 : shareN p g told due = (decide (g = 0) || decide (pointsN p told = (p + 1) * p ^ (2 * g - 1) * mcN p)) := by unfold shareN; rw [h]; rfl
    rw [e1] at hD
    have q12 : pointsN p told = (told.map fun q => mcN p / q.2 * (ptsN p q.1).length).sum := rfl
    rw [q12] at hD
    refine b_set nd 12 (T := tN (told.map fun q => mcN p / q.2 * (ptsN p q.1).length).sum) ?_ ?_
    · refine @e_sum _ _ _ _ _ _ (told.map fun q => mcN p / q.2 * (ptsN p q.1).length) ?_ ?_ (EV.any ?_) ?_ ?_
      rotate_left 3
      · exact rfl
      · exact rfl
      · exact rfl
      · exact B.sum
      refine EV.cast (R := newL (pick (told.map (kCP Cp Cc p)).length (fun _ => true) fun k => kN (mcN p / (told.getD k ([], 0)).2 * (ptsN p (told.getD k ([], 0)).1).length))) (e_lc2 nd 13 11 (i_tup (e_v 2 rfl)) (fun k => kCurve Cp Cc p (told.getD k ([], 0)).1) (fun k => kN (told.getD k ([], 0)).2) (fun k T h => (cps_at h).1) (blk_of nLShare (defScope sLShare)) (fun _ => true) (fun k => kN (mcN p / (told.getD k ([], 0)).2 * (ptsN p (told.getD k ([], 0)).1).length)) (fun _ _ _ _ _ _ _ _ _ => ts_nil) ?_ (by rw [List.length_map]; exact htl)) ?_
      · intro s H' C cl fp k T hk hT _
        obtain ⟨_, hk2⟩ := cps_at hT
        obtain ⟨m1, m2⟩ := hto _ (List.mem_of_getElem? hk2)
        generalize told.getD k ([], 0) = q at m1 m2 hk2
        have hpt : (ptsN p q.1).length ≤ 7 + 7 * p := ptsTo_len hpl.2 p
        have hdv : mcN p / q.2 ≤ mcN p := Nat.div_le_self _ _
        exact e_mul (e_div (e_v 4 rfl) (e_v 11 rfl) m1 m2) (e_lenO (by omega) B.len Fl (hr.mono (by decide)) (p, q.1) trivial (Ts := curveTs Cp p q.1) (e_v 13 rfl)) (.inl (by omega))
      · rw [List.length_map, pick_all told (fun q => kN (mcN p / q.2 * (ptsN p q.1).length)) _ _ (fun _ _ => rfl) (fun i b hb => by rw [List.getD_eq_getElem?_getD, hb]; rfl), List.map_map]
        rfl
    refine b_ret (e_or (e_eq (e_v 1 rfl) (e_n 0)) fun h0 => e_one (e_eq (e_v 12 rfl) (e_mul (e_mul (e_add (e_v 0 rfl) (e_n 1)) (e_call Fr (hr.mono (by decide)) (p, 2 * g - 1) ⟨by show p < _; omega, by show 2 * g - 1 < _; omega⟩ (R := val (tN (p ^ (2 * g - 1)))) (ea_v (e_v 0 rfl) (ea_v (e_sub (e_mul (n := 2) (e_n 2) (e_v 1 rfl) (.inl (by decide))) (e_n 1) ?_) ea_nil))) (.inl (by omega))) (e_v 4 rfl) (.inr (by omega))))) hD
    have h0 : ¬ g = 0 := of_decide_eq_false h0
    omega
end
end Tw
end STwW7
section STwW8
set_option Elab.async false
set_option linter.all false
set_option maxRecDepth 100000
set_option maxHeartbeats 4000000
/-! Promises of the law's own defs (8): the dice. -/
namespace Tw
open PySem PySem.Spec PyProof.Rows L2
section
variable {tb : Tb} {X : Cx} {G : List (Option Ty)} {a b : Expr} {pos p : Pos} {i j : Int} {d : Bool}
theorem e_abs (hm : X.mg "abs" = none) (ha : EV tb X G a (val (tI i))) (hg : Gl X "abs" := by rfl) (hs : starEach [a] X.env = (false, eval a X.env) :: starEach [] X.env := by rfl) : EV tb X G (.Call (.Name "abs" p) [a] [] pos) (val (tI (if i < 0 then -i else i))) :=
  e_callB (As := [ag (tI i)]) call_abs hm (by decide +kernel) (fun H vs H1 e1 hf Q k => by
    match vs, hf with
    | [u], ⟨⟨_, h1⟩, _⟩ =>
      cases h1
      exact ⟨i, rfl, k _ _ Ex.refl rfl⟩) (ea_v ha ea_nil hs) hg (by decide) (by decide) hs
theorem e_intB (hm : X.mg "int" = none) (ha : EV tb X G a (val (tB d))) (hg : Gl X "int" := by rfl) (hs : starEach [a] X.env = (false, eval a X.env) :: starEach [] X.env := by rfl) : EV tb X G (.Call (.Name "int" p) [a] [] pos) (val (tI (if d then 1 else 0))) :=
  e_callT (As := [ag (tB d)]) call_int1 hm (by decide +kernel) (fun H vs H1 e1 hf Q k => by
    match vs, hf with
    | [u], ⟨⟨_, h1⟩, _⟩ =>
      cases h1
      exact .inr ⟨d, rfl, k _ _ Ex.refl rfl⟩) (ea_v ha ea_nil hs) hg (by decide) (by decide) hs
theorem e_powI (ha : EV tb X G a (val (tI i))) (hb : EV tb X G b (val (tI j))) (hc : CPow i j) : EV tb X G (.BinOp a .Pow b pos) (val (tI (i ^ j.toNat))) := e_op op_pow (rr_I hc) ha hb
theorem e_mulW (ha : EV tb X G a (val (tI i))) (hb : EV tb X G b (val (tI j))) (hc : CMulW i j) : EV tb X G (.BinOp a .Mult b pos) (val (tI (i * j))) := e_op op_mulW (rr_I hc) ha hb
end
/-! ### the script: a list that nobody writes -/
def tQ (K : PySem.W.Frag) (a : Addr) (xs : List V) : Bool → Ty
  | true =>
    { is := fun v H => v = .ref a ∧ ∃ u, H a = some u ∧ (u = .lst xs ∨ ∃ ob, u = .frz ob (.lst xs))
      fp := [a]
      mono := fun k ⟨h1, u, h2, h3⟩ => ⟨h1, u, k _ _ h2 (.inr List.mem_cons_self) (fun ps z => by
        rcases h3 with rfl | ⟨ob, rfl⟩ <;> cases z), h3⟩
      dom := fun ⟨_, u, h2, h3⟩ hb => by
        rw [List.mem_singleton.mp hb]
        refine ⟨u, h2, ?_⟩
        rcases h3 with rfl | ⟨ob, rfl⟩
        · exact ⟨rfl, notC_lst⟩
        · exact ⟨rfl, (fun _ z => nomatch z), fun _ _ z => by unfold LamX.CodeO at z; cases z⟩
      sl := fun _ => True
      slot := fun _ s ⟨h1, u, h2, h3⟩ => ⟨h1, u, slH_keep s h2 (fun _ _ _ z => by rcases h3 with rfl | ⟨ob, rfl⟩ <;> cases z) (fun _ z => by rcases h3 with rfl | ⟨ob, rfl⟩ <;> cases z) (fun _ z => by rcases h3 with rfl | ⟨ob, rfl⟩ <;> cases z) (fun z => by rcases h3 with rfl | ⟨ob, rfl⟩ <;> cases z), h3⟩ }
  | false =>
    { is := fun v _ => v = .ref a ∧ SqL K (fun _ => none) a xs
      fp := []
      mono := fun _ h => h
      dom := fun _ hb => nomatch hb
      sl := fun _ => True
      slot := fun _ _ h => h }
theorem tQ_sq {K : PySem.W.Frag} {a : Addr} {xs : List V} {H : Hp} {v : V} : ∀ {b : Bool}, (tQ K a xs b).is v H → v = .ref a ∧ SqL K H a xs
  | true, ⟨h1, u, h2, h3⟩ => ⟨h1, .inl (by
    rcases h3 with rfl | ⟨ob, rfl⟩
    · exact .inl h2
    · exact .inr ⟨ob, h2⟩)⟩
  | false, ⟨h1, h2⟩ => ⟨h1, .inr (h2.resolve_left fun q => by
    rcases q with q | ⟨_, q⟩ <;> cases q)⟩
theorem tQ_of {K : PySem.W.Frag} {a : Addr} {xs : List V} {H : Hp} (h : SqL K H a xs) : ∃ b, (tQ K a xs b).is (.ref a) H := by
  rcases h with (h | ⟨ob, h⟩) | h
  · exact ⟨true, rfl, _, h, .inl rfl⟩
  · exact ⟨true, rfl, _, h, .inr ⟨ob, rfl⟩⟩
  · exact ⟨false, rfl, .inr h⟩
/-- the script as an argument: its place and its kind in one number -/
abbrev agQ (K : PySem.W.Frag) (xs : List V) : Ag := fun n => tQ K (n / 2) xs (decide (n % 2 = 0))
theorem half_odd (a : Nat) : (2 * a + 1) / 2 = a ∧ (2 * a + 1) % 2 = 1 := by omega
theorem agQ_at {K : PySem.W.Frag} {a : Addr} {xs : List V} {v : V} {H : Hp} : ∀ {b : Bool}, (tQ K a xs b).is v H → ∃ n, (agQ K xs n).is v H
  | true, h => ⟨2 * a, by
    show (tQ K (2 * a / 2) xs (decide (2 * a % 2 = 0))).is v H
    rw [Nat.mul_div_cancel_left a (by decide), Nat.mul_mod_right]
    exact h⟩
  | false, h => ⟨2 * a + 1, by
    show (tQ K ((2 * a + 1) / 2) xs (decide ((2 * a + 1) % 2 = 0))).is v H
    rw [(half_odd a).1, (half_odd a).2]
    exact h⟩
section
variable {tb : Tb} {X : Cx} {G : List (Option Ty)} {a b e : Expr} {es : List Expr} {pos p : Pos} {z : Addr} {xs : List V} {d : Bool} {i : Int}
theorem e_lenQ (hm : X.mg "len" = none) (ha : EV tb X G a (val (tQ X.K z xs d))) (hg : Gl X "len" := by rfl) (hs : starEach [a] X.env = (false, eval a X.env) :: starEach [] X.env := by rfl) : EV tb X G (.Call (.Name "len" p) [a] [] pos) (val (tN xs.length)) :=
  e_callB (As := [agQ X.K xs]) call_len_seq hm PySem.boot_len (fun H vs H1 e1 hf Q k => by
    match vs, hf with
    | [v], ⟨⟨n, h⟩, _⟩ =>
      have q := tQ_sq h
      exact ⟨_, xs, by rw [q.1], .inl q.2, k _ _ Ex.refl rfl⟩) (ea_cons ha (fun _ _ _ q => agQ_at q) ea_nil hs) hg (by decide) (by decide) hs
theorem e_ixQ {k : Nat} (ha : EV tb X G a (val (tQ X.K z xs d))) (hb : EV tb X G b (val (tN k))) (h : xs[k]? = some (.int i)) (hs : PlainIx b := by exact fun _ _ => rfl) : EV tb X G (.Subscript a b pos) (val (tI i)) :=
  e_ixr ix_list (fun H x H1 y H2 e1 h1 e2 h2 Q kk => by
    have q := tQ_sq ((tQ X.K z xs d).ex e2 h1)
    cases h2
    exact ⟨z, xs, (k : Int), .int i, q.1, rfl, q.2, atI_nat h, kk _ _ Ex.refl rfl⟩) ha hb hs
end
/-- the three cells of the dice -/
def newDice : Rs := ⟨fun H0 v H => ∃ l m, (newL [kN l, kN m, kN 0]).is H0 v H ∧ m < 2 ^ 70, fun e0 ⟨l, m, h, q⟩ e => ⟨l, m, (newL [kN l, kN m, kN 0]).mono e0 h e, q⟩⟩
def cellN : List Int → Int
  | [] => 23
  | c :: _ => c
section
variable {P : Program} {w : World} {K : PySem.W.Frag} {mg : Str → Option Value} {base : Heap} {tb : Tb}
abbrev nLDice : List Str := ["_law_script", "_law_spot", "_law_cell", "_law_left"]
theorem sc_lDice : FnScope nLDice ["_law_script", "_law_spot"] (defScope sLDice) := ⟨rfl, rfl, rfl, by decide +kernel, rfl, by decide +kernel, by decide +kernel⟩
def pmLDice (K : PySem.W.Frag) : Prm (List Int) := ⟨fun ns => [agQ K (ns.map V.int), ag (tN 0)], fun _ => True, fun _ => newDice⟩
theorem ok_lDice {f : Addr} {fd : FuncData} (B : Tx K mg) (F : Fun K "_law_dice" "_law_dice" sLDice f fd) : FN P w K mg base tb 1 f fd ["_law_script", "_law_spot"] (pmLDice K) := by
  refine fun_tw F sc_lDice (fun _ => rfl) ?_
  intro ns cdv A outer s H0 E as D _ hr ht hD hX
  have nd := sc_lDice.nd
  have ea : ∃ (z : Addr) (q : Bool), gam ((pmLDice K).args ns) as 2 = [some (tQ K z (ns.map V.int) q), some (tN 0), none, none] := ⟨_, _, rfl⟩
  obtain ⟨z, q, ea⟩ := ea
  show BK tb _ H0 (gam ((pmLDice K).args ns) as 2) [] _ _
  rw [ea]
  refine b_set nd 2 (T := tI (cellN ns)) (e_ife (R := val (tI (cellN ns))) (d := decide (0 < ns.length)) (EVT.cast (t_lt (e_v 1 rfl) (e_lenQ B.len (e_v 0 rfl))) (by rw [List.length_map])) (fun h => ?_) fun h => ?_) ?_
  · match ns, h with
    | c :: _, _ => exact e_int B.int (e_ixQ (e_v 0 rfl) (e_v 1 rfl) rfl)
  · match ns, h with
    | [], _ => exact e_addI (e_mulI (i := 71) (j := 0) (e_i 71) (e_v 1 rfl) (.inl (by decide))) (e_i 23)
  generalize cellN ns = c
  generalize hab : (if c < 0 then -c else c) = ab
  have hab0 : 0 ≤ ab := by rw [← hab]; split <;> omega
  have h16 : (10 : Int) ^ (16 : Int).toNat = 10000000000000000 := by decide +kernel
  have h60 : (10 : Int) ^ (60 : Int).toNat = 1000000000000000000000000000000000000000000000000000000000000 := by decide +kernel
  have hq : (0 : Int) < 1000000000000000000000000000000000000000000000000000000000000 * 1000000000000000000000000000000000000000000000000000000000000 := by decide +kernel
  have hw : CMulW 1000000000000000000000000000000000000000000000000000000000000 1000000000000000000000000000000000000000000000000000000000000 := wide_mul (a := 200) (b := 200) (by decide +kernel) (by decide +kernel) (by decide) (by decide) (by decide)
  have cp : ∀ n : Int, 0 ≤ n → n ≤ 1000 → CPow 10 n := fun n h1 h2 => ⟨h1, by omega, by decide⟩
  generalize (1000000000000000000000000000000000000000000000000000000000000 : Int) = BB at h60 hq hw
  generalize hB2 : BB * BB = B2 at hq
  generalize hlf : (if ab - 10000000000000000 > 0 then ab - 10000000000000000 else 0) % B2 = lf
  have hlf0 : 0 ≤ lf := by rw [← hlf]; exact Int.emod_nonneg _ (by omega)
  refine b_set nd 3 (T := tN lf.toNat) (EV.cast (R := val (tI ((if ab - 10000000000000000 > 0 then ab - 10000000000000000 else 0) % B2))) (e_modI (e_max rfl B.max (e_i 0) (e_subI (EV.cast (e_abs B.abs (e_v 2 rfl)) (val_eq (by rw [hab]))) (EV.cast (e_powI (e_i 10) (e_i 16) (cp 16 (by decide) (by decide))) (val_eq (by rw [h16]))))) (EV.cast (e_mulW (EV.cast (e_powI (e_i 10) (e_i 60) (cp 60 (by decide) (by decide))) (val_eq (by rw [h60]))) (EV.cast (e_powI (e_i 10) (e_i 60) (cp 60 (by decide) (by decide))) (val_eq (by rw [h60]))) hw) (val_eq (by rw [hB2]))) hq) (val_eq (by rw [hlf, Int.toNat_of_nonneg hlf0]))) ?_
  generalize hm : ab % 1152921504606846899 * 43 + 821 * 0 + 37 * (if decide (c < 0) = true then (1 : Int) else 0) + 11 = m
  have hm0 : 0 ≤ m ∧ m < 2 ^ 66 := by
    have h1 := Int.emod_nonneg ab (show (1152921504606846899 : Int) ≠ 0 by decide)
    have h2 := Int.emod_lt_of_pos ab (show (0 : Int) < 1152921504606846899 by decide)
    rw [← hm]
    split <;> omega
  refine b_ret (R := newDice) (EV.imp (e_lst (Ts := [kN lf.toNat, kN m.toNat, kN 0]) (em_cons (K := kN lf.toNat) (e_v 3 rfl) (em_cons (K := kN m.toNat) (EV.cast (R := val (tI (ab % 1152921504606846899 * 43 + 821 * 0 + 37 * (if decide (c < 0) = true then (1 : Int) else 0) + 11))) (e_addI (e_addI (e_addI (e_mulI (e_modI (EV.cast (e_abs B.abs (e_v 2 rfl)) (val_eq (by rw [hab]))) (e_i 1152921504606846899) (by decide)) (e_i 43) (.inr (by decide))) (e_mulI (e_i 821) (j := 0) (e_v 1 rfl) (.inr (by decide)))) (e_mulI (e_i 37) (e_intB B.int (e_cmp (R := val (tB (decide (c < 0)))) op_lt rr_I0 (e_v 2 rfl) (e_i 0))) (.inl (by decide)))) (e_i 11)) (val_eq (by rw [hm, Int.toNat_of_nonneg hm0.1]))) (em_cons (K := kN 0) (e_n 0) em_nil)))) fun _ _ _ h => ⟨_, _, h, by omega⟩) hD
end
end Tw
end STwW8
section STwW9
set_option Elab.async false
set_option linter.all false
set_option maxRecDepth 100000
set_option maxHeartbeats 4000000
/-! Promises of the law's own defs (9): a roll of the dice. -/
namespace Tw
open PySem PySem.Spec PyProof.Rows L2
/-- without the object at z -/
def del (H : Hp) (z : Addr) : Hp := fun b => if b = z then none else H b
theorem del_same {H : Hp} {z : Addr} : del H z z = none := if_pos rfl
theorem del_ne {H : Hp} {z b : Addr} (h : b ≠ z) : del H z b = H b := if_neg h
theorem del_some {H : Hp} {z b : Addr} {o : HO} (h : del H z b = some o) : b ≠ z ∧ H b = some o := by
  by_cases e : b = z
  · rw [e, del_same] at h; cases h
  · rw [del_ne e] at h; exact ⟨e, h⟩
section
variable {tb : Tb} {H H' : Hp} {z : Addr} {u : HO} {xs : List V}
theorem Tbl.del (t : Tbl tb H) (hz : H z = some u) (h : NotC u) : Tbl tb (del H z) := by
  obtain ⟨⟨ps, h1, h2⟩, ⟨qs, h3, h4, h5⟩⟩ := t
  have n1 : tb.P ≠ z := fun e => h.1 ps (by rw [e, hz] at h1; exact Option.some.inj h1)
  have n2 : tb.L ≠ z := fun e => h.1 qs (by rw [e, hz] at h3; exact Option.some.inj h3)
  refine ⟨⟨ps, by rw [del_ne n1]; exact h1, h2⟩, ⟨qs, by rw [del_ne n2]; exact h3, h4, fun pos cv e => ?_⟩⟩
  obtain ⟨c, e1, e2⟩ := h5 pos cv e
  refine ⟨c, e1, ?_⟩
  rw [del_ne (fun w => h.2 c tb.q (by rw [show H c = H z by rw [w], hz] at e2; exact Option.some.inj e2))]
  exact e2
theorem Ex.del (t : Tbl tb H) : Ex tb (del H z) H := ⟨fun b o h _ => (del_some h).2, fun b h => by
  by_cases e : b = z
  · rw [e]; exact del_same
  · rw [del_ne e]; exact h, fun _ => t⟩
/-- what came of it, told from the changed heap -/
theorem Ex.undel (t : Tbl tb H) (hz : H z = some u) (hu : NotC u) (e : Ex tb (Tw.del H z) H') (h : H' z = some (.lst xs)) : Ex tb (upd H z (.lst xs)) H' := by
  refine ⟨fun b o q n => ?_, fun b q => ?_, fun _ => e.tab (t.del hz hu)⟩
  · by_cases w : b = z
    · rw [w, upd_same] at q
      rw [w, h]; exact q
    · rw [upd_ne w] at q
      exact e.keep b o (by rw [del_ne w]; exact q) n
  · have w : b ≠ z := fun w => by rw [w, h] at q; cases q
    rw [upd_ne w, ← del_ne (H := H) w]
    exact e.dom b q
end
/-- .. and the list at z is a list still -/
def withL (z : Addr) (R : Rs) : Rs := ⟨fun H0 v H => R.is H0 v H ∧ ∃ xs, H z = some (.lst xs), fun e0 ⟨h, xs, q⟩ e => ⟨R.mono e0 h e, xs, e.keep _ _ q (fun _ z => nomatch z)⟩⟩
theorem e_withL {tb : Tb} {X : Cx} {G : List (Option Ty)} {a : Expr} {R : Rs} {z : Addr} {Ts : List Im} (j : Nat) (hL : G[j]? = some (some (tL z Ts))) (h : EV tb X G a R) : EV tb X G a (withL z R) := fun σ H t f Q k => h σ H t f Q fun v H' e hv => by
  obtain ⟨v0, _, _, xs, hx, _⟩ := f.get hL
  exact k v H' e ⟨hv, xs, e.keep _ _ hx (fun _ z => nomatch z)⟩
/-- a number below six -/
def valLt (n : Nat) : Rs := ⟨fun _ v H => ∃ i : Nat, i < n ∧ v = .int (i : Int), fun _ h _ => h⟩
/-- a roll: the dice are changed -/
def spRoll (tb : Tb) : Sp := fun vs H Q _ => ∃ (z : Addr) (l m : Nat), vs = [.ref z, .int ((6 : Nat) : Int)] ∧ H z = some (.lst [.int (l : Int), .int (m : Int), .int ((0 : Nat) : Int)]) ∧ m < 2 ^ 70 ∧ Tbl tb H ∧
  ∀ (i : Nat) (xs : List V) (H' : Hp), i < 6 → Ex tb (upd H z (.lst xs)) H' → Q (.int (i : Int)) H'
section
variable {P : Program} {w : World} {K : PySem.W.Frag} {mg : Str → Option Value} {base : Heap} {tb : Tb}
abbrev nLRoll : List Str := ["_law_dice_here", "_law_total", "_law_found", "_law_one", "_law_two"]
theorem sc_lRoll : FnScope nLRoll ["_law_dice_here", "_law_total"] (defScope sLRoll) := ⟨rfl, rfl, rfl, by decide +kernel, rfl, by decide +kernel, by decide +kernel⟩
theorem lRoll_body {cdv : Value} {A : Around} {outer : List Env} {s : Shared} {f : Addr} {E : XK} {H H0 : Hp} {z : Addr} {l m : Nat} {D : Ends} (B : Tx K mg) (h0 : H0 z = none) (hm : m < 2 ^ 70) (hD : ∀ v H', Ex tb H0 H' → (withL z (valLt 6)).is H0 v H' → D.rt v H') :
    BK tb (cxOf CX0 P w K mg base nLRoll "_law_roll" (defScope sLRoll) f cdv A outer s H E).nox H0 [some (tL z [kN l, kN m, kN 0]), some (tN 6), none, none, none] [] (defBody sLRoll) D := by
  have nd := sc_lRoll.nd
  refine b_when (t_gt (e_ixL (K := kN l) (e_v 0 rfl) (e_n 0) rfl) (e_n 0)) (fun _ => ?_) fun _ => ?_
  · refine b_set nd 2 (T := tN (l % 6)) (e_mod (e_int B.int (e_ixL (K := kN l) (e_v 0 rfl) (e_n 0) rfl)) (e_v 1 rfl) (by decide)) ?_
    refine b_seti (z := z) (K := kN (l / 6)) 0 rfl h0 ⟨nm, nm, trivial⟩ trivial (e_div (e_ixL (K := kN l) (e_v 0 rfl) (e_n 0) rfl) (e_v 1 rfl) (by decide) (by decide)) (e_v 0 rfl) (e_n 0) (by show 0 < 3; decide) ?_
    exact b_ret (R := withL z (valLt 6)) (e_withL (Ts := [kN (l / 6), kN m, kN 0]) 0 rfl (EV.imp (e_v 2 rfl) fun _ _ _ h => ⟨_, Nat.mod_lt _ (by decide), h⟩)) hD
  · refine b_seti (z := z) (K := kN (0 + 1)) 0 rfl h0 ⟨nm, trivial⟩ trivial (e_add (e_ixL (K := kN 0) (e_v 0 rfl) (e_n 2) rfl) (e_n 1)) (e_v 0 rfl) (e_n 2) (by show 2 < 3; decide) ?_
    have h1 : (m + 49979693 * (0 + 1)) % 2305843009213693907 < 2 ^ 64 := by omega
    refine b_set nd 3 (T := tN ((m + 49979693 * (0 + 1)) % 2305843009213693907)) (e_mod (e_int B.int (e_add (e_ixL (K := kN m) (e_v 0 rfl) (e_n 1) rfl) (e_mul (n := 49979693) (m := 0 + 1) (e_n 49979693) (e_ixL (K := kN (0 + 1)) (e_v 0 rfl) (e_n 2) rfl) (.inl (by decide))))) (e_n 2305843009213693907) (by decide)) ?_
    generalize (m + 49979693 * (0 + 1)) % 2305843009213693907 = one at h1
    refine b_set nd 4 (T := tN ((one * one + 89 * (0 + 1)) % 2305843009213693921 * 7368787 + one)) (e_add (e_mul (m := 7368787) (e_mod (e_int B.int (e_add (e_mul (e_v 3 rfl) (e_v 3 rfl) (.inl h1)) (e_mul (n := 89) (m := 0 + 1) (e_n 89) (e_ixL (K := kN (0 + 1)) (e_v 0 rfl) (e_n 2) rfl) (.inl (by decide))))) (e_n 2305843009213693921) (by decide)) (e_n 7368787) (.inr (by decide))) (e_v 3 rfl)) ?_
    generalize (one * one + 89 * (0 + 1)) % 2305843009213693921 * 7368787 + one = two
    exact b_ret (R := withL z (valLt 6)) (e_withL (Ts := [kN l, kN m, kN (0 + 1)]) 0 rfl (EV.imp (e_mod (e_int B.int (e_div (e_v 4 rfl) (e_n 65536) (by decide) (by decide))) (e_v 1 rfl) (by decide)) fun _ _ _ h => ⟨_, Nat.mod_lt _ (by decide), h⟩)) hD
theorem ok_lRoll {f : Addr} {fd : FuncData} (B : Tx K mg) (F : Fun K "_law_roll" "_law_roll" sLRoll f fd) : FnOk P w K mg base CX0 1 f fd ["_law_dice_here", "_law_total"] (spRoll tb) := by
  refine F.ok sc_lRoll (fun vs H Q E h => ?_) (fun cdv A outer s H vs Q E hr h => ?_)
  · obtain ⟨z, l, m, rfl, _⟩ := h
    rfl
  · obtain ⟨z, l, m, rfl, hz, hm, ht, hq⟩ := h
    refine ⟨RB _ _, pss_RB, ?_⟩
    refine lRoll_body (z := z) (l := l) (m := m) B (del_same (H := H)) hm (fun v H' e ⟨⟨i, hi, ev⟩, xs, hx⟩ => ?_) _ _ ⟨Ex.del ht, ht, ?_, trivial⟩
    · rw [ev]
      exact hq i xs H' hi (Ex.undel ht hz notC_lst e hx)
    · exact ⟨⟨_, rfl, rfl, _, hz, rfl, rfl, rfl, trivial⟩, ⟨_, rfl, rfl⟩, trivial⟩
end
end Tw
end STwW9
section STwV1
set_option Elab.async false
set_option linter.all false
set_option maxRecDepth 100000
set_option maxHeartbeats 4000000
set_option pp.maxSteps 600
set_option pp.deepTerms false
/-! order_of by the machine's own rules: it leaves all that stood as it was. -/
namespace Tw
open PySem PySem.Spec PyProof.Rows L2
theorem keeps_trans {s s1 s2 : Shared} (a : Keeps s s1) (b : Keeps s1 s2) : Keeps s s2 := by
  obtain ⟨h1, t1, rfl, k1⟩ := a
  obtain ⟨h2, t2, rfl, k2⟩ := b
  exact ⟨h2, t2, rfl, fun c o e => k2 c o (k1 c o e)⟩
section
variable {P : Program} {w : World} {A : Around} {E : Value → Shared → Prop} {s : Shared} {env : Env} {m : Str → Option Value}
theorem ld_loc {x : Str} {n : Int} {pos : Pos} {Q : Value → Shared → Prop} (hk : env.scope.kind = .function) (hl : env.kindOf x = some .local) (hn : s.heap.Ns env.locals m) (hm : ∃ t, m x = some (.int n t)) (h : ∀ t, Q (.int n t) s) (hd : (x == ("__debug__" : Str)) = false := by decide) : wpAny (model P w) A (eval (.Name x pos) env) Q E s := by
  obtain ⟨t, hm⟩ := hm
  exact wpAny_Name (wpAny_loadName_local hk hl hn hm (h t)) hd
/-- x, y = a, b -/
theorem par2 {x y : Str} {a b : Expr} {px py pt pt2 pos : Pos} {kt k2 : Nat} {Q : Flow → Shared → Prop} (hd : A.handled = none) (hx : env.kindOf x = some .local) (hy : env.kindOf y = some .local) (hc : (env.scope.kind == .class || (env.scope.kind == .module && env.locals != env.globals)) = false)
    (h : wpAny (model P w) A (eval a env) (fun u s1 => wpAny (model P w) A (eval b env) (fun v s2 => ∃ m, s2.heap.Ns env.locals m ∧ ∀ s3, s3.heap.Ns env.locals (fun z => if z = x then some u else if z = y then some v else m z) → (∃ h tk, s3 = { s2 with heap := h, toks := tk } ∧ ∀ c o, c ≠ env.locals → s2.heap.get? c = some o → h.get? c = some o) → Q .next s3) E s1) E s)
    (hw : swappedStores [.Tuple [.Name x px, .Name y py] kt pt] (.Tuple [a, b] k2 pt2) env = pure (some [x, y])) (hs : swapsWithSole [.Tuple [.Name x px, .Name y py] kt pt] (.Tuple [a, b] k2 pt2) pos.line env = pure false)
    (hst : starEach [a, b] env = [(false, eval a env), (false, eval b env)]) : wpAny (model P w) A (exec (.Assign [.Tuple [.Name x px, .Name y py] kt pt] (.Tuple [a, b] k2 pt2) pos) env) Q E s := by
  rw [exec_Assign_arm]
  refine wpAny_bind (wpAny_standAt ?_)
  rw [hs]
  refine wpAny_bind (wpAny_pure ?_)
  rw [if_neg (by decide)]
  refine wpAny_bind (Tuple_ ?_)
  rw [hst]
  show wpAny _ _ (spliced [(false, eval a env), (false, eval b env)]) _ _ s
  refine Calls.spliced_cons (wpAny_mono h (fun u s1 h1 => Calls.spliced_cons (wpAny_mono h1 (fun v s2 h2 => Calls.spliced_nil ?_) fun _ _ e => e)) fun _ _ e => e)
  obtain ⟨m, hn, hq⟩ := h2
  refine wpAny_newObj_type ?_ (by show 2 ≤ sizeLine; decide)
  rw [hw]
  refine wpAny_bind (wpAny_pure ?_)
  show wpAny (model P w) A (do rule "assign.swapped-stores"; let items ← unpackItems (.ref s2.heap.objs.size) 2 none; assignInOrder [fun v => bindName env y v, fun v => bindName env x v] items.reverse; pure Flow.next) _ _ _
  refine wpAny_bind (wpAny_rule (wpAny_bind (unpackItems_tuple (items := #[u, v]) hd (IsTup.new s2.heap _) fun h' hx' => ?_)))
  have k1 : ∀ c o, s2.heap.get? c = some o → h'.get? c = some o := fun c o e => hx' c o (Nat.ne_of_lt (Nat.lt_succ_of_lt (Heap.lt_size e) |> fun q => by rw [Heap.size_push]; exact q)) (Heap.get?_push_of_some _ e)
  have hn1 : h'.Ns env.locals m := hn.keeps k1
  show wpAny _ _ (assignInOrder [fun v => bindName env y v, fun v => bindName env x v] [v, u] >>= fun _ => pure Flow.next) _ _ _
  refine wpAny_bind (assignInOrder_cons (wpAny_bindName (wpAny_storeName_local hy hn1 (fun h2 hn2 sb2 => ?_) hc)))
  refine assignInOrder_cons (wpAny_bindName (wpAny_storeName_local hx hn2 (fun h3 hn3 sb3 => assignInOrder_nil (wpAny_pure ?_)) hc))
  exact hq _ hn3 ⟨h3, _, rfl, fun c o n e => sb3.extBut c o n (sb2.extBut c o n (k1 c o e))⟩
end
theorem sc_order : FnScope ["prime", "residue", "found", "power"] ["prime", "residue"] (defScope sOrder) := ⟨rfl, rfl, rfl, by decide +kernel, rfl, by decide +kernel, by decide +kernel⟩
/-- how far the powers are: f found, the power k; so many turns are left -/
def leftF (p x : Nat) : Nat → Nat → Prop
  | 0, k => k = 1
  | n + 1, k => k ≠ 1 ∧ leftF p x n (k * x % p)
theorem left_of (p x : Nat) : ∀ n k : Nat, reachF p x n k = true → ∃ n', n' ≤ n ∧ leftF p x n' k
  | 0, k, h => ⟨0, Nat.le_refl _, show k = 1 from of_decide_eq_true h⟩
  | n + 1, k, h => by
    unfold reachF at h
    by_cases e : k = 1
    · exact ⟨0, Nat.zero_le _, e⟩
    · have h : reachF p x n (k * x % p) = true := by simpa [e] using h
      obtain ⟨n', h1, h2⟩ := left_of p x n _ h
      exact ⟨n' + 1, by omega, e, h2⟩
theorem ord_left {p x : Nat} : ∀ {n k N f : Nat}, leftF p x n k → n ≤ N → ordF p x N f k = f + n
  | 0, k, 0, f, h, _ => rfl
  | 0, k, N + 1, f, h, _ => by
    unfold ordF
    rw [if_pos (show k = 1 from h)]
    rfl
  | n + 1, k, 0, f, h, q => by omega
  | n + 1, k, N + 1, f, h, q => by
    unfold ordF
    rw [if_neg h.1, ord_left h.2 (by omega)]
    omega
section
variable {P : Program} {w : World} {K : PySem.W.Frag} {A : Around} {E : Value → Shared → Prop} {s0 : Shared} {env : Env}
/-- the names of a running order_of -/
def OrdSt (s0 : Shared) (L : Addr) (p x f k : Nat) (s : Shared) : Prop :=
  Keeps s0 s ∧ ∃ m, s.heap.Ns L m ∧ (∃ t, m "prime" = some (.int (p : Int) t)) ∧ (∃ t, m "residue" = some (.int (x : Int) t)) ∧ (∃ t, m "found" = some (.int (f : Int) t)) ∧ ∃ t, m "power" = some (.int (k : Int) t)
theorem keeps_set {s0 s : Shared} {h : Heap} {tk : Nat} {L : Addr} (k0 : Keeps s0 s) (hfr : ∀ b o, s0.heap.get? b = some o → b ≠ L) (hk : ∀ c o, c ≠ L → s.heap.get? c = some o → h.get? c = some o) : Keeps s0 { s with heap := h, toks := tk } := by
  obtain ⟨h1, t1, rfl, k1⟩ := k0
  exact ⟨h, tk, rfl, fun b o e => hk b o (hfr b o e) (k1 b o e)⟩
theorem keeps_eta {s0 s s' : Shared} (k0 : Keeps s0 s) (h1 : s'.heap = s.heap := by rfl) (h2 : s'.gens = s.gens := by rfl) (h3 : s'.drawn = s.drawn := by rfl) (h4 : s'.os = s.os := by rfl) : Keeps s0 s' := by
  obtain ⟨h, t, rfl, k⟩ := k0
  obtain ⟨a, b, c, d, e⟩ := s'
  cases h1; cases h2; cases h3; cases h4
  exact ⟨h, d, rfl, k⟩
theorem order_body {cdv : Value} {f : Addr} {L : Addr} {p x n : Nat} {s : Shared} (hd : A.handled = none) (hp : 0 < p) (hps : p < 100) (hxp : x < p) (hl : leftF p x n x) (hfr : ∀ b o, s0.heap.get? b = some o → b ≠ L) (k0 : Keeps s0 s) {m : Str → Option Value} (hn : s.heap.Ns L m) (h1 : ∃ t, m "prime" = some (.int (p : Int) t)) (h2 : ∃ t, m "residue" = some (.int (x : Int) t)) :
    wpAny (model P w) A (execs (defBody sOrder) (envOfC "order_of" (defScope sOrder) L f cdv)) (fun fl s' => Keeps s0 s' ∧ ∃ t, fl = .ret (.int ((1 + n : Nat) : Int) t)) E s := by
  refine wpAny_execs_cons (par2 hd rfl rfl rfl ?_ rfl rfl rfl)
  refine wpAny_Constant_int (ld_loc rfl rfl hn h2 fun t => ⟨m, hn, fun s3 n3 ⟨h3, tk3, e3, k3⟩ => ?_⟩)
  subst e3
  have st1 : OrdSt s0 L p x 1 x { s with heap := h3, toks := tk3 } := ⟨keeps_set (keeps_eta k0) hfr k3, _, n3, h1, h2, ⟨_, rfl⟩, ⟨_, rfl⟩⟩
  refine wpAny_execs_cons (wpAny_While (codeAny_whileLoop (fun r s' => ∃ f k, OrdSt s0 L p x f k s' ∧ k < p ∧ leftF p x r k ∧ f + r = 1 + n) ?_ n ⟨1, x, st1, hxp, hl, rfl⟩))
  rintro r s1 ⟨f, k, ⟨kp, m, hn, h1, h2, h3, h4⟩, hkp, hlf, hfn⟩
  refine wpAny_isTrue_Compare1 (ld_loc rfl rfl hn h4 fun t => wpAny_Constant_int (ne_int (wpAny_truthy_bool ?_)))
  cases r with
  | zero =>
    have e : k = 1 := hlf
    subst e
    refine wpAny_execs_nil ?_
    refine wpAny_execs_cons (wpAny_Return_some (ld_loc rfl rfl hn h3 fun t => ⟨keeps_eta kp, t, ?_⟩))
    rw [show f = 1 + n by omega]
  | succ r =>
    obtain ⟨hk1, hlf⟩ := hlf
    have e : ((k : Int) != 1) = true := by simpa [bne] using (show ¬ (k : Int) = 1 by omega)
    rw [e]
    refine wpAny_execs_cons (par2 hd rfl rfl rfl ?_ rfl rfl rfl)
    refine wpAny_BinOp (ld_loc rfl rfl hn h3 fun t3 => wpAny_Constant_int (add_int ?_))
    refine wpAny_BinOp (wpAny_BinOp (ld_loc rfl rfl hn h4 fun t4 => ld_loc (P := P) (w := w) rfl rfl hn h2 fun t2 => mul_int (ld_loc (P := P) (w := w) rfl rfl hn h1 fun t1 => mod_int' (by omega) ?_) (CMul.ok (.inl ⟨by omega, by omega⟩))))
    refine ⟨m, hn, fun s3 n3 ⟨h5, tk5, e5, k5⟩ => ?_⟩
    subst e5
    have ep : Int.fmod ((k : Int) * (x : Int)) (p : Int) = ((k * x % p : Nat) : Int) := by rw [Int.fmod_eq_emod_of_nonneg _ (by omega), ← Int.natCast_mul, ← Int.natCast_emod]
    refine wpAny_execs_nil ⟨r, Nat.lt_succ_self r, f + 1, k * x % p, ⟨keeps_set (keeps_eta kp) hfr k5, _, n3, h1, h2, ⟨_, rfl⟩, ⟨_, congrArg (fun i => some (Value.int i _)) ep⟩⟩, Nat.mod_lt _ hp, hlf, by omega⟩
theorem order_run {f : Addr} {fd : FuncData} (F : Fun K "order_of" "order_of" sOrder f fd) (hb : Binds K fd ["prime", "residue"] []) (KX : K.In s0.heap) (lim : s0.heap.NoLimit) (hd : A.handled = none) (hdep : A.depth < recursionLimit) {p x n : Nat} {t1 t2 : Tok} {Q : Value → Shared → Prop} (hp : 0 < p) (hps : p < 100) (hx : x < p) (hl : leftF p x n x)
    (hQ : ∀ t s', Keeps s0 s' → Q (.int ((1 + n : Nat) : Int) t) s') : wpAny (model P w) A (call (.ref f) [.int (p : Int) t1, .int (x : Int) t2]) Q E s0 := by
  obtain ⟨oc, od, kV, doc, pm, an, cdv, ct, osl, rfl, lk, hcd⟩ := F.ex
  refine wpAny_call (codeAny_call_function hdep (KX _ _ lk) rfl rfl rfl rfl (PySem.W.codeRec_of KX hcd) (hb s0 [.int (p : Int) t1, .int (x : Int) t2] KX rfl _ _ _ _ ?_))
  refine wpAny_newFunctionEnv (show ∀ y ∈ (defScope sOrder).names, y.2 ≠ .cell by decide +kernel) (fun y hy => ?_) (fun h₁ hns hsb => ⟨lim.fresh _ hsb, codeAny_func ?_⟩)
  · have hy : y = (("prime" : Str), Value.int (p : Int) t1) ∨ y = (("residue" : Str), Value.int (x : Int) t2) := by simpa using hy
    rcases hy with rfl | rfl <;> rfl
  have kp : ∀ b o, s0.heap.get? b = some o → h₁.get? b = some o := fun b o e => hsb.extBut b o (Nat.ne_of_lt (Heap.lt_size e)) (Heap.get?_push_of_some _ e)
  refine wpAny_mono (order_body (P := P) (s0 := s0) (L := s0.heap.objs.size) (f := f) (cdv := cdv) hd hp hps hx hl (fun b o e => Nat.ne_of_lt (Heap.lt_size e)) ⟨h₁, _, rfl, kp⟩ hns ⟨_, rfl⟩ ⟨_, rfl⟩) (fun fl s' ⟨k', t, e⟩ => ?_) fun _ _ e => e
  subst e
  exact hQ t s' k'
end
end Tw
end STwV1
section STwV2
set_option Elab.async false
set_option linter.all false
set_option maxRecDepth 100000
set_option maxHeartbeats 4000000
set_option pp.maxSteps 600
set_option pp.deepTerms false
/-! next(generator expression with calls, None). -/
namespace Tw
open PySem PySem.Spec PyProof.Rows L2 PySem.Calls
section
variable {prog : Program} {w : World} {A : Around} {E : Value → Shared → Prop} {s : Shared}
/-- next(g, default), g a generator that has an item -/
theorem call_next_gen {a : Addr} {g n : Nat} {fp wr : List Addr} {G : Array GenState → Array GenState → Prop} {Pv : Nat → Value → Prop} {St : Nat → Shared → Prop} {dflt : Value} {Q : Value → Shared → Prop} (hg : s.heap.IsGen a g) (W : WalksS prog w A.in1 a fp wr G n Pv St) (hn : 0 < n) (st : St 0 s)
    (h : ∀ v s', Pv 0 v → Moved wr G s s' → Q v s') : wpAny (model prog w) A (call (.builtin "next") [.ref a, dflt]) Q E s := by
  refine call_function_entry (by decide +kernel) (by decide +kernel) PySem.W.kdk_entry_next (PySem.W.kdk_args_next2 _ _) ?_
  unfold Builtin.«next»
  refine wpAny_bind (m := someArgs "next" 1 2 _) (wpAny_of_eq (a := [Value.ref a, dflt]) (by first | rfl | kernel_rfl!) ?_)
  dsimp only
  refine wpAny_bind (wpAny_specialOf (name := Str.ofString "__next__") hg.typeIs slot_gen_next.lookup ?_)
  refine wpAny_ite_split (fun hab => absurd hab (by decide)) (fun _ => ?_)
  refine wpAny_bind (W.item 0 s _ _ hn st fun v s' hP _ hm => ?_)
  exact wpAny_pure ⟨_, rfl, h v s' hP hm⟩
end
/-! ### the test order_of(prime, residue) == prime - 1 -/
/-- order_of, as the generator sees it -/
structure OrdF (K : PySem.W.Frag) (mg : Str → Option Value) : Prop where
  ex : ∃ (f : Addr) (fd : FuncData), Fun K "order_of" "order_of" sOrder f fd ∧ Binds K fd ["prime", "residue"] [] ∧ mg "order_of" = some (.ref f)
section
variable {P : Program} {w : World} {K : PySem.W.Frag} {mg : Str → Option Value} {A : Around} {E : Value → Shared → Prop} {s : Shared} {cenv : Env} {m : Str → Option Value}
theorem ord_test {p1 p2 p3 p4 p5 p6 p7 p8 : Pos} {kk p x n : Nat} {cc : Addr} {t t2 : Tok} (Fo : OrdF K mg) (hk : cenv.scope.kind = .function) (ko : cenv.kindOf "order_of" = some .globalImplicit) (kp : cenv.kindOf "prime" = some .free) (kr : cenv.kindOf "residue" = some .local) (hgl : cenv.globals = mainGlobals) (hG : s.heap.Ns mainGlobals mg)
    (KX : K.In s.heap) (lim : s.heap.NoLimit) (hd : A.handled = none) (hdep : A.depth < recursionLimit) (hc : cenv.cells.lookup ("prime" : Str) = some cc) (hcell : s.heap.IsCell cc (some (.int (p : Int) t))) (hn : s.heap.Ns cenv.locals m) (hm : m "residue" = some (.int (x : Int) t2)) (hp : 0 < p) (hps : p < 100) (hx : x < p) (hl : leftF p x n x) :
    wpAny (model P w) A (isTrue (.Compare (.Call (.Name "order_of" p1) [.Name "prime" p2, .Name "residue" p3] [] p4) [.Eq] [.BinOp (.Name "prime" p5) .Sub (.Constant (.int 1) kk p6) p7] p8) cenv (eval (.Compare (.Call (.Name "order_of" p1) [.Name "prime" p2, .Name "residue" p3] [] p4) [.Eq] [.BinOp (.Name "prime" p5) .Sub (.Constant (.int 1) kk p6) p7] p8) cenv)) (fun b s' => b = decide (1 + n = p - 1) ∧ Keeps s s') E s := by
  obtain ⟨f, fd, F, hb, hmg⟩ := Fo.ex
  refine wpAny_isTrue_Compare1 (wpAny_Call_Name_kw (Calls.Name_function_global hk ko (Calls.loadGlobal_global (by rw [hgl]; exact hG) hmg ?_) (by decide))) (nomark _)
  refine PySem.W.callWith_K KX F.kp ?_ rfl rfl
  show wpAny _ _ (spliced [(false, eval (.Name "prime" p2) cenv), (false, eval (.Name "residue" p3) cenv)]) _ _ _
  refine Calls.spliced_cons (wpAny_Name (wpAny_loadName_free hk kp hc hcell ?_) (by decide))
  refine Calls.spliced_cons (wpAny_Name (wpAny_loadName_local hk kr hn hm ?_) (by decide))
  refine Calls.spliced_nil ⟨KX, order_run F hb KX lim hd hdep hp hps hx hl fun t3 s' k' => ?_⟩
  have hcell' : s'.heap.IsCell cc (some (.int (p : Int) t)) := by
    obtain ⟨h, tk, rfl, kk⟩ := k'
    exact hcell.keeps kk
  refine wpAny_BinOp (wpAny_Name (wpAny_loadName_free hk kp hc hcell' ?_) (by decide))
  refine wpAny_Constant_int (sub_int (eq_int (wpAny_truthy_bool ⟨?_, keeps_eta k'⟩)))
  rw [Bool.beq_eq_decide_eq]
  exact decide_eq_decide.mpr (by omega)
end
end Tw
end STwV2
section STwV3
set_option Elab.async false
set_option linter.all false
set_option maxRecDepth 100000
set_option maxHeartbeats 4000000
set_option pp.maxSteps 600
set_option pp.deepTerms false
/-! The generator of first_generator. -/
namespace Tw
open PySem PySem.Spec PyProof.Rows L2 PySem.Calls
def fgL (p : Nat) : List Nat := (List.range (p - 2)).filter fun i => decide (ordN p (2 + i) = p - 1)
def fgN (p : Nat) : Nat := 2 + (fgL p).headD 0
theorem fgL_ok (p : Nat) (hp : p = 3 ∨ p = 5 ∨ p = 7) : 0 < (fgL p).length ∧ fgN p < p := by
  rcases hp with rfl | rfl | rfl <;> decide +kernel
theorem ordN_left {p x : Nat} (hp : p = 3 ∨ p = 5 ∨ p = 7) (h0 : 2 ≤ x) (h1 : x < p) : ∃ n, leftF p x n x ∧ ordN p x = 1 + n := by
  obtain ⟨n, hn, hl⟩ := left_of p x p x (reach_ok p hp x h0 h1)
  exact ⟨n, hl, ord_left hl hn⟩
theorem walks_lt {prog : Program} {w : World} {A : Around} {I : Addr} {fp wr : List Addr} {n : Nat} {Pv : Nat → Value → Prop} {St : Nat → Heap → Prop} (W : Walks prog w A I fp wr n Pv St) : Walks prog w A I fp wr n (fun i v => i < n ∧ Pv i v) St where
  sub := W.sub
  frame := W.frame
  item := fun i s Q E hi st hQ => W.item i s Q E hi st fun v h' tk' hP => hQ v h' tk' ⟨hi, hP⟩
  done := W.done
  self := W.self
section
variable {X : Cx} {pins : List (Addr × Obj)} {σ : L2.St} {H : Hp} {s : Shared}
/-- the generator at g, ready to be asked, in the state s5 -/
def ReadyG (X : Cx) (pins : List (Addr × Obj)) (σ : L2.St) (H : Hp) (Pa : Addr) (p : Nat) (g : Addr) (s5 : Shared) : Prop :=
  ∃ (gi n : Nat) (fp wr : List Addr) (G : Array GenState → Array GenState → Prop) (F : Nat → Value → Prop) (St : Nat → Shared → Prop),
    s5.heap.IsGen g gi ∧ WalksS X.prog X.w X.A.in1 g fp wr G n F St ∧ 0 < n ∧ St 0 s5 ∧ (∀ v, F 0 v → ∃ t, v = .int ((fgN p : Nat) : Int) t) ∧ ∀ s', Moved wr G s5 s' → ∃ H2, GxR.Tabbed Pa H H2 ∧ Inv X pins σ H2 s'
theorem gen_ord {c Pa : Addr} {px pe pr pc pp ppos gpos p1 p2 p3 p4 p5 p6 p7 p8 : Pos} {k1 k2 k p : Nat} {scope : Scope} {Q' : Value → Shared → Prop}
    (hr : Room (k + 1) X.A) (TB : GxR.TabB X.base X.mg c Pa) (hcode : X.env.code = .ref c) (S : GxR.GenS X.env scope "residue") (skp : scope.names.lookup ("prime" : Str) = some .free) (sko : scope.names.lookup ("order_of" : Str) = some .globalImplicit)
    (hkc : X.env.kindOf "prime" = some .cell) (hvis : Vis X.env.scope "prime") (hs : ∀ v, genFold (.Call (.Name "range" pr) [.Constant (.int 2) k1 pc, .Name "prime" pp] [] ppos) X.env v = pure v) (Fo : OrdF X.K X.mg) (hgr : Gl X "range") (hmr : X.mg "range" = none) (hN : X.N[0]? = some ("prime" : Str)) (hσ : σ[0]? = some (some (.int (p : Int)))) (hp : p = 3 ∨ p = 5 ∨ p = 7)
    (I0 : Inv X pins σ H s) (hT : GxR.TabG H Pa) (hQ : ∀ g s5, ReadyG X pins σ H Pa p g s5 → Q' (.ref g) s5) :
    wpAny (model X.prog X.w) X.A (eval (.GeneratorExp (.Name "residue" pe) [⟨.Name "residue" px, .Call (.Name "range" pr) [.Constant (.int 2) k1 pc, .Name "prime" pp] [] ppos, [.Compare (.Call (.Name "order_of" p1) [.Name "prime" p2, .Name "residue" p3] [] p4) [.Eq] [.BinOp (.Name "prime" p5) .Sub (.Constant (.int 1) k2 p6) p7] p8], 0⟩] scope gpos) X.env) Q' X.xe s := by
  have hp7 : 3 ≤ p ∧ p ≤ 7 := by omega
  obtain ⟨ps, hP, ht⟩ := hT
  obtain ⟨m0, hm0, hl0⟩ := I0.loc
  obtain ⟨u, ru, hlook⟩ := hl0 0 "prime" _ hN hσ hvis
  obtain ⟨t0, rfl⟩ := ru
  obtain ⟨cc, hcc, hcell⟩ : ∃ cc, X.env.cells.lookup ("prime" : Str) = some cc ∧ s.heap.IsCell cc (some (.int (p : Int) t0)) := by
    rcases hlook with ⟨z, _⟩ | ⟨_, z⟩
    · rw [hkc] at z; cases z
    · exact z
  refine wpAny_GeneratorExp_walksQD hr.hd S.co (closure_ok S.free) S.cell S.dot S.loc S.kind (by have := hr.dp; omega) ?_ hs
  refine Call_ (ld_blt I0 hgr hmr boot_range (PyProof.Rows.callWith_type1 ?_ rfl rfl))
  show wpAny _ _ (spliced [(false, eval (.Constant (.int 2) k1 pc) X.env), (false, eval (.Name "prime" pp) X.env)]) _ _ _
  refine Calls.spliced_cons (wpAny_Constant_int ?_)
  refine Calls.spliced_cons (wpAny_Name (wpAny_loadName_cell I0.ok.kind hkc hcc hcell ?_) (by decide))
  refine Calls.spliced_nil (call_range_2 ?_)
  refine wpAny_pyIter_range (IsRange.new ..) (small_one (by decide) (by decide) (by omega) (by omega)) ?_
  -- the state ahead of the iterator
  generalize hs1 : ({ heap := s.heap.push { cls := .type "range", data := .fields #[.int 2 s.toks, .int (p : Int) t0, .int 1 (s.toks + 1)] }, gens := s.gens, drawn := s.drawn, toks := s.toks + 1 + 1, os := s.os } : Shared) = s1
  have I1 : Inv X pins σ H s1 := by rw [← hs1]; exact I0.kept (t' := _) fun b ob e => Heap.get?_push_of_some _ e
  have hcell1 : s1.heap.IsCell cc (some (.int (p : Int) t0)) := by rw [← hs1]; exact hcell.keeps fun b ob e => Heap.get?_push_of_some _ e
  clear hs1
  have hit : IsRangeIter (s1.heap.push { cls := .type "range_iterator", data := .fields #[rawInt 2, rawInt (Builtin.Range.rangeSize 2 (p : Int) 1), rawInt 1] }) s1.heap.objs.size (2 + ((0 : Nat) : Int) * 1) (((p - 2 : Nat) : Int) - ((0 : Nat) : Int)) 1 := by
    have e1 : (2 : Int) + ((0 : Nat) : Int) * 1 = 2 := by simp
    have e2 : ((p - 2 : Nat) : Int) - ((0 : Nat) : Int) = Builtin.Range.rangeSize 2 (p : Int) 1 := by rw [rangeSize_one]; split <;> omega
    rw [e1, e2]
    exact Heap.get?_push_size _ rfl
  generalize ({ cls := .type "range_iterator", data := .fields #[rawInt 2, rawInt (Builtin.Range.rangeSize 2 (p : Int) 1), rawInt 1] } : Obj) = o at hit
  have hPs : s1.heap.get? Pa = some { cls := .none, data := .fields ps } := I1.hok Pa _ hP
  have hPlt : Pa < s1.heap.objs.size := Heap.lt_size hPs
  have hP2 : (s1.heap.push o).get? Pa = some { cls := .none, data := .fields ps } := Heap.get?_push_of_some _ hPs
  have cd : PySem.W.CodeHd (s1.heap.push o) c Pa := TB.code.keeps fun b u e => Heap.get?_push_of_some _ (I1.bk b u e)
  have lim2 : (s1.heap.push o).NoLimit := I1.nolimit.push o
  have hpas : ∀ pz : Nat → Bool, pz = (fun i => decide (ordN p (2 + i) = p - 1)) → passing pz (p - 2) 0 = fgL p := fun pz e => by
    unfold passing fgL
    rw [List.drop_zero, e]
  have cont : ∀ (code : Value) (h3 : Heap) (tk : Nat) (ps' : Array Value), Heap.ExtBut Pa (s1.heap.push o) h3 → (s1.heap.push o).objs.size ≤ h3.objs.size → h3.get? Pa = some { cls := .none, data := .fields ps' } → (∃ more, ps' = ps ++ more) → TriplesOk ps'.toList →
      wpAny (model X.prog X.w) X.A (builtinsFor X.env.globals X.env.builtins) (fun bi s₄ =>
        ∃ Ia fp wr n₀ Pf St₀ pz F, Value.ref s1.heap.objs.size = .ref Ia ∧ (∀ A' : Around, A'.handled = none → Walks X.prog X.w A' Ia fp wr n₀ Pf St₀) ∧ St₀ 0 s₄.heap ∧ (∀ b ∈ fp, b < s₄.heap.objs.size) ∧ s₄.heap.NoLimit ∧ cStatics ∉ wr ∧
          (∀ href : Heap, (∀ b o, s₄.heap.get? b = some o → href.get? b = some o) →
            QuietGenD X.prog X.w (genEnv scope (cloFrom X.env.cells scope.names []) s₄.heap.objs.size code bi X.env) "residue" [.Compare (.Call (.Name "order_of" p1) [.Name "prime" p2, .Name "residue" p3] [] p4) [.Eq] [.BinOp (.Name "prime" p5) .Sub (.Constant (.int 1) k2 p6) p7] p8] (.Name "residue" pe) (List.range s₄.heap.objs.size) wr Pf pz F href (X.A.depth + 1) (X.A.units + 8)) ∧
          (∀ a h₅ tk gs, gs.bare = true → s₄.heap.objs.size < a → h₅.objs.size = a + 1 → (∀ b o, s₄.heap.get? b = some o → h₅.get? b = some o) →
            WalksS X.prog X.w X.A.in4 a (a :: s₄.heap.objs.size :: List.range s₄.heap.objs.size) (s₄.heap.objs.size :: wr) (GenOnlyQ s₄.gens.size) (passing pz n₀ 0).length
              (fun j y => ∃ i, (passing pz n₀ 0)[j]? = some i ∧ F i y) (GenAt X.prog X.w X.A.in4 a s₄.gens.size s₄.heap.objs.size (List.range s₄.heap.objs.size) wr pz n₀ F) →
            GenAt X.prog X.w X.A.in4 a s₄.gens.size s₄.heap.objs.size (List.range s₄.heap.objs.size) wr pz n₀ F 0 { s₄ with gens := s₄.gens.push gs, toks := tk, heap := h₅ } →
            Q' (.ref a) { s₄ with gens := s₄.gens.push gs, toks := tk, heap := h₅ })) X.xe { s1 with heap := h3, toks := tk } := by
    intro code h3 tk ps' hx hsz hP3 hmore ht3
    obtain ⟨bm, ob, e1, e2, e3, e4, e5, e6, e7, e8⟩ := TB.bm
    have hcP : cStatics ≠ Pa := fun e => by
      obtain ⟨_, hns, _⟩ := I1.nolimit
      obtain ⟨o', es, ep, ho, hd, _⟩ := hns
      rw [e, hPs] at ho
      cases ho
      cases hd
    have hcl : cStatics < s1.heap.objs.size := let ⟨_, hns, _⟩ := I1.nolimit; hns.lt
    have sz2 : (s1.heap.push o).objs.size = s1.heap.objs.size + 1 := Heap.size_push ..
    have keep3 : ∀ b u, b ≠ Pa → s1.heap.get? b = some u → h3.get? b = some u := fun b u hb e => hx b u hb (Heap.get?_push_of_some _ e)
    refine wpAny_builtinsFor (m := X.mg) (by rw [I1.ok.glob]; exact ((I1.mod.glob.keeps I1.bk).push o).extBut hx TB.gP) e1 e2 (keep3 _ _ e4 (I1.bk _ _ e5)) e6 e7 e8 ?_
    refine ⟨s1.heap.objs.size, [s1.heap.objs.size], [s1.heap.objs.size], p - 2, (fun i v => i < p - 2 ∧ ∃ t, v = .int (2 + i * 1) t), (fun i h => IsRangeIter h s1.heap.objs.size (2 + (i : Nat) * 1) (((p - 2 : Nat) : Int) - (i : Nat)) 1), (fun i => decide (ordN p (2 + i) = p - 1)), (fun i y => ∃ t, y = .int ((2 + i : Nat) : Int) t), rfl, fun A' hA => walks_lt (Walks.range hA _ 2 1 (p - 2)), ?_, ?_, lim2.extBut hx hcP, ?_, ?_, ?_⟩
    · exact hx _ _ (fun z => Nat.ne_of_lt hPlt z.symm) hit
    · intro b hb
      rcases List.mem_cons.mp hb with z | z
      · rw [z]
        show s1.heap.objs.size < h3.objs.size
        omega
      · cases z
    · intro z
      rcases List.mem_cons.mp z with z | z
      · exact Nat.ne_of_lt hcl z
      · cases z
    · intro href hhref
      have nPbase : ∀ b u, X.base.get? b = some u → b ≠ Pa := fun b u e z => by
        have := (I1.bs b u e).2
        rw [z, hP] at this
        cases this
      have ncc : cc ≠ Pa := fun z => by
        obtain ⟨oc, hoc, hdc⟩ := hcell1
        rw [z, hPs] at hoc
        cases hoc
        cases hdc
      have hclo : (cloFrom X.env.cells scope.names []).lookup ("prime" : Str) = some cc := by
        obtain ⟨c2, h2⟩ := mem_lookup (cloFrom_has (cells := X.env.cells) (acc := []) (PySem.mem_of_lookup skp))
        rcases cloFrom_mem (PySem.mem_of_lookup h2) with hm | ⟨q1, q2⟩
        · cases hm
        · rw [h2, q2, hcc] <;> rfl
      have old : ∀ (s₂ : Shared), (∀ b ∈ List.range h3.objs.size, b ∉ [s1.heap.objs.size] → ∀ o, href.get? b = some o → s₂.heap.get? b = some o) → ∀ b u, b ≠ Pa → s1.heap.get? b = some u → s₂.heap.get? b = some u := fun s₂ k b u hb e => by
        have hl := Heap.lt_size e
        refine k b (List.mem_range.mpr (Nat.lt_of_lt_of_le hl (by omega))) (fun z => ?_) u (hhref b u (keep3 b u hb e))
        rw [List.mem_singleton.mp z] at hl
        exact Nat.lt_irrefl _ hl
      have oldB : ∀ (s₂ : Shared), (∀ b ∈ List.range h3.objs.size, b ∉ [s1.heap.objs.size] → ∀ o, href.get? b = some o → s₂.heap.get? b = some o) → ∀ b u, X.base.get? b = some u → s₂.heap.get? b = some u := fun s₂ k b u e => old s₂ k b u (nPbase b u e) (I1.bk b u e)
      refine ⟨?_, ?_⟩
      · intro A' E' i v s₂ m₂ hA hD hU hPv hn hm hk
        obtain ⟨hi, t, rfl⟩ := hPv
        obtain ⟨n, hl, ho⟩ := ordN_left (x := 2 + i) hp (by omega) (by omega)
        have hcell2 : s₂.heap.IsCell cc (some (.int (p : Int) t0)) := by
          obtain ⟨oc, hoc, hdc⟩ := hcell1
          exact ⟨oc, old s₂ hk cc oc ncc hoc, hdc⟩
        refine wpAny_tests_one (wpAny_mono (ord_test (P := X.prog) (w := X.w) (m := m₂) (x := 2 + i) (n := n) (t2 := t) Fo S.kind sko skp S.loc I1.ok.glob (I1.mod.glob.keeps (oldB s₂ hk)) (I1.mod.kin.keeps (oldB s₂ hk)) (I1.mod.nolimit.keeps (oldB s₂ hk)) hA (by have := hr.dp; omega) hclo hcell2 hn (by rw [hm]; congr 2; omega) (by omega) (by omega) (by omega) hl) (fun b s3 ⟨hb, hkp⟩ => ⟨?_, hkp⟩) fun _ _ e => e)
        rw [hb, ho]
      · intro A' E' i v s₂ m₂ hA hD hU hPv _ hn hm hk
        obtain ⟨hi, t, rfl⟩ := hPv
        refine wpAny_Name (wpAny_loadName_local S.kind S.loc hn hm ?_) (by decide)
        exact ⟨⟨t, by congr 1; omega⟩, GxR.keeps_refl _⟩
    · intro g h5 tk5 gs hgb hag hsz5 hk5 W5 hat
      rw [hpas _ rfl] at W5
      refine hQ g _ ⟨_, _, _, _, _, _, _, hat.1, W5.in4_1, (fgL_ok p hp).1, hat, ?_, fun s' hm => ?_⟩
      · rintro v ⟨i, hi, t, rfl⟩
        refine ⟨t, ?_⟩
        have e9 : (fgL p).headD 0 = i := by
          cases q : fgL p with
          | nil => rw [q] at hi; cases hi
          | cons a l => rw [q] at hi; exact Option.some.inj hi
        unfold fgN
        rw [e9]
      · obtain ⟨more, em⟩ := hmore
        have nwr : ∀ b u, s1.heap.get? b = some u → b ∉ h3.objs.size :: [s1.heap.objs.size] := fun b u e hb => by
          have hl := Heap.lt_size e
          rcases List.mem_cons.mp hb with z | z
          · rw [z] at hl
            have h9 : (h3.objs.size : Nat) < s1.heap.objs.size := hl
            omega
          · rcases List.mem_cons.mp z with z | z
            · rw [z] at hl
              exact Nat.lt_irrefl _ hl
            · cases z
        have J := GxR.inv_tab (more := more) (h' := s'.heap) (g' := s'.gens) (d' := s'.drawn) (t' := s'.toks) I1 hP (fun b u hb e => hm.heap b u (nwr b u e) (hk5 b u (keep3 b u hb e)))
          (by rw [← em]; exact hm.heap Pa _ (nwr Pa _ hPs) (hk5 Pa _ hP3)) (AllBare.movedS (I1.bare.push hgb) hm)
        rw [GxR.sh_eta s1 s' hm.os] at J
        exact ⟨upd H Pa (.tbl (ps ++ more)), ⟨⟨ps ++ more, upd_same, by rw [← em]; exact ht3⟩, fun b hb => upd_ne hb⟩, J⟩
  refine ⟨lim2, ?_⟩
  cases hf : codeAmong gpos ps.toList with
  | none =>
    refine wpAny_genexprCodeX hcode (cd.code hP2 ht) (cd.tab hP2) hf fun c' h' tk hx hge hlt hco' _ htab' _ => ?_
    obtain ⟨o1, vs, f1, tf, fl, tg, inF, tx, tt, op, _, _, _, _, _, _, _, _, _, htr, _⟩ := hco'
    exact cont _ h' tk _ hx (Nat.le_trans hge (Nat.le_of_lt hlt)) htab'.2 ⟨_, rfl⟩ htr
  | some cv =>
    refine wpAny_genexprCode_hit hcode (cd.code hP2 ht) hf ?_
    exact cont cv (s1.heap.push o) s1.toks ps (Heap.ExtBut.refl _ _) (Nat.le_refl _) hP2 ⟨#[], by simp⟩ ht
end
end Tw
end STwV3
section STwV4
set_option Elab.async false
set_option linter.all false
set_option maxRecDepth 100000
set_option maxHeartbeats 4000000
set_option pp.maxSteps 600
set_option pp.deepTerms false
/-! Promise of first_generator. -/
namespace Tw
open PySem PySem.Spec PyProof.Rows L2
section
variable {P : Program} {w : World} {K : PySem.W.Frag} {mg : Str → Option Value} {base : Heap} {tb : Tb}
/-- a def whose code object is known -/
theorem fun_okC {x qual : Str} {st : Stmt} {f c : Addr} {fd : FuncData} {N ps : List Str} {k : Nat} {sp : Sp} (F : Fun K x qual st f fd) (S : FnScope N ps (defScope st)) (hc : fd.code = .ref c) (len : ∀ vs H Q E, sp vs H Q E → vs.length = ps.length)
    (hbody : ∀ (A : Around) (outer : List Env) (s : Shared) (H : Hp) (vs : List V) (Q : VK) (E : XK), Room k (A.deeper (envOfC qual (defScope st) s.heap.objs.size f (.ref c))) → sp vs H Q E →
      ∃ t, PSs (cxOf CX0 P w K mg base N qual (defScope st) f (.ref c) A outer s H E).nox (defBody st) t ∧ t { nx := fun _ H' => Q .non H', rt := Q } (L2.start N vs) H) : FnOk P w K mg base CX0 (k + 1) f fd ps sp := by
  obtain ⟨oc, od, kV, doc, pm, an, cdv, ct, osl, rfl, lk, hcd⟩ := F.ex
  have e : cdv = .ref c := hc
  subst e
  refine fn_of lk hcd S len fun A outer s H vs Q E hr hsp => ?_
  obtain ⟨t, h, q⟩ := hbody A outer s H vs Q E hr hsp
  exact ⟨t, h.nox, q⟩
theorem fun_twC {α : Type} {Pm : Prm α} {x qual : Str} {st : Stmt} {f c : Addr} {fd : FuncData} {N ps : List Str} {k : Nat} (F : Fun K x qual st f fd) (S : FnScope N ps (defScope st)) (hc : fd.code = .ref c) (hl : ∀ a, (Pm.args a).length = ps.length)
    (body : ∀ (a : α) (A : Around) (outer : List Env) (s : Shared) (H0 : Hp) (E : XK) (as : Nat → Addr) (D : Ends), Pm.ok a → Room k (A.deeper (envOfC qual (defScope st) s.heap.objs.size f (.ref c))) → Tbl tb H0 →
      (∀ v H', Ex tb H0 H' → (Pm.res a).is H0 v H' → D.rt v H') → (∀ σ H', Ex tb H0 H' → (Pm.res a).is H0 .non H' → D.nx σ H') →
      BK tb (cxOf CX0 P w K mg base N qual (defScope st) f (.ref c) A outer s H0 E).nox H0 (gam (Pm.args a) as (N.length - ps.length)) [] (defBody st) D) : FnOk P w K mg base CX0 (k + 1) f fd ps (spF tb Pm) := by
  refine fun_okC F S hc (fun vs H Q E h => ?_) (fun A outer s H vs Q E hr h => ?_)
  · obtain ⟨a, _, _, hf, _⟩ := h
    rw [← hf.length, hl]
  · obtain ⟨a, hok, ht, hf, hq⟩ := h
    obtain ⟨as, hs⟩ := fit_start (N.length - ps.length) hf
    refine ⟨RB _ _, pss_RB, ?_⟩
    refine body a A outer s H E as _ hok hr ht hq (fun σ H' e h => hq _ H' e h) _ _ ⟨Ex.refl, ht, ?_, trivial⟩
    unfold L2.start
    rw [← hf.length, hl]
    exact hs
end
theorem ex_tabbed {tb : Tb} {H H' : Hp} (hne : tb.P ≠ tb.L) (h : GxR.TabG H tb.P) (t : GxR.Tabbed tb.P H H') : Ex tb H H' := by
  obtain ⟨ps, hP, _⟩ := h
  obtain ⟨⟨ps', hP', ht'⟩, hk⟩ := t
  refine ⟨fun b o e n => ?_, fun b e => ?_, fun ⟨_, ⟨qs, h3, h4, h5⟩⟩ => ⟨⟨ps', hP', ht'⟩, ⟨qs, by rw [hk _ (Ne.symm hne)]; exact h3, h4, fun pos cv e => ?_⟩⟩⟩
  · rw [hk b (fun z => n ps (by rw [z, hP] at e; exact (Option.some.inj e).symm))]
    exact e
  · have n : b ≠ tb.P := fun z => by rw [z, hP'] at e; cases e
    rw [← hk b n]; exact e
  · obtain ⟨c, e1, e2⟩ := h5 pos cv e
    refine ⟨c, e1, ?_⟩
    rw [hk c (fun z => LamX.codeO_ne ps (Option.some.inj (by rw [← e2, z, hP])))]
    exact e2
section
variable {P : Program} {w : World} {K : PySem.W.Frag} {mg : Str → Option Value} {base : Heap} {tb : Tb}
theorem sc_first : FnScope ["prime"] ["prime"] (defScope sFirst) := ⟨rfl, rfl, rfl, by decide +kernel, rfl, by decide +kernel, by decide +kernel⟩
def pmFirst : Prm Nat := ⟨fun p => [ag (tN p)], PrP, fun p => val (tN (fgN p))⟩
theorem ok_first {f c : Addr} {fd : FuncData} (B : Tx K mg) (hc : fd.code = .ref c) (TB : GxR.TabB base mg c tb.P) (hne : tb.P ≠ tb.L) (Fo : OrdF K mg) (F : Fun K "first_generator" "first_generator" sFirst f fd) : FN P w K mg base tb 3 f fd ["prime"] pmFirst := by
  refine fun_twC F sc_first hc (fun _ => rfl) ?_
  intro p A outer s H0 E as D hp hr ht hD hX
  have hp : PrP p := hp
  show BK tb _ H0 [some (tN p)] [] _ _
  refine b_ret (R := val (tN (fgN p))) ?_ hD
  intro σ H t f Q k pins s I
  obtain ⟨v, hv1, hv2⟩ := f.get (i := 0) rfl
  have hv2 : v = .int (p : Int) := hv2
  subst hv2
  refine wpAny_Call_Name_kw (ld_blt I rfl B.next boot_next ?_)
  refine PyProof.Rows.callWith_builtin1 ?_ rfl rfl
  refine Calls.spliced_cons (gen_ord (p := p) hr TB rfl ?_ rfl rfl rfl (.inr (.inl rfl)) (fun _ => rfl) Fo rfl B.range rfl hv1 hp I t.1 fun g s5 hG => ?_)
  · refine ⟨rfl, rfl, by decide +kernel, rfl, rfl, fun y hy e => ?_⟩
    have key : ∀ y ∈ [((".0" : Str), NameKind.local), ("residue", NameKind.local), ("prime", NameKind.free), ("order_of", NameKind.globalImplicit)], y.2 = .free → y.1 = "prime" := by decide +kernel
    rw [key y hy e]
    exact ⟨_, rfl⟩
  refine Calls.spliced_cons (Constant_none (k := 0) (pos := ⟨423, 99, 423, 103⟩) (Calls.spliced_nil ?_))
  obtain ⟨gi, n, fp, wr, G, Fv, St, hg, W, hn, hst, hv, hI⟩ := hG
  refine call_next_gen hg W hn hst fun v s' hP hm => ?_
  obtain ⟨t', rfl⟩ := hv v hP
  obtain ⟨H2, hT2, J⟩ := hI s' hm
  exact ⟨.int ((fgN p : Nat) : Int), H2, J, ⟨t', rfl⟩, k _ H2 (ex_tabbed hne t.1 hT2) rfl⟩
end
end Tw
end STwV4
section STwX1
set_option Elab.async false
set_option linter.all false
set_option maxRecDepth 100000
set_option maxHeartbeats 4000000
set_option pp.maxSteps 600
set_option pp.deepTerms false
/-! Promises of Family: __init__, next_rows. -/
namespace Tw
open PySem PySem.Spec PyProof.Rows L2
structure FamF (K : PySem.W.Frag) (mg : Str → Option Value) (C : Addr) : Prop extends ClF K mg "Family" C where
  s0 : Slo K C "own_generator" 0
  s1 : Slo K C "own_prime" 1
  s2 : Slo K C "own_rows" 2
abbrev famTs (p : Nat) (z : Addr) : List (Option Im) := [some (kN (fgN p)), some (kN p), some (kC (.ref z))]
abbrev kFam (Cf : Addr) (p : Nat) (z : Addr) : Im := kIns Cf (famTs p z)
/-- a new family and its new dict -/
def newFam (Cf : Addr) (p : Nat) (ks : List (List Nat)) : Rs := ⟨fun H0 v H => ∃ z, H0 z = none ∧ (kFam Cf p z).is v H ∧ H z = some (.dT (keysN ks)),
  fun e0 ⟨z, h0, h1, h2⟩ e => ⟨z, e0.dom z h0, (kFam Cf p z).ex e h1, e.keep _ _ h2 (fun _ z => nomatch z)⟩⟩
section
variable {tb : Tb} {X : Cx} {H0 : Hp} {G : List (Option Ty)} {D : List (V × Ty)} {e : Expr} {pos : Pos} {x f : Str} {Ts : List (Option Im)} {C q : Addr} {rest : List Stmt} {E : Ends} {i : Nat} {ks : List (List Nat)}
/-- self.f = e, e a new dict -/
theorem b_slotD {x0 dx : Addr} (j : Nat) {p1 p2 : Pos} (hj : G[j]? = some (some (tSelf C x0 dx Ts))) (h0 : H0 x0 = none) (h0d : H0 dx = none) (c : SlX.SCls X.K C) (t : SlX.Slot1 X.K C f q i) (he : EV tb X G e (newD ks)) (hG : SlG C (G.set j none)) (hD : SlDs C D) (hTs : ∀ (n : Nat) (T : Im), Ts[n]? = some (some T) → T.sl C)
    (k : ∀ z, H0 z = none → BK tb X H0 (G.set j (some (tSelf C x0 dx (putT i (kC (.ref z)) Ts)))) ((.ref z, tD z ks) :: D) rest E)
    (ho : EV tb X G (.Name x p1) (val (tSelf C x0 dx Ts)))
    (hs : swapsWith e (some (.Attribute (.Name x p1) f p2)) pos.line X.env = pure false := by rfl) : BK tb X H0 G D (.Assign [.Attribute (.Name x p1) f p2] e pos :: rest) E :=
  bk_of fun σ H g => toS (SlX.ps_sl pe_RE pe_RE hs) (he σ H g.tab g.fit _ fun v H1 e1 ⟨z, hz, hv⟩ => ho σ H1 (e1.tab g.tab) (g.fit.ex e1) _ fun u H2 e2 hu => by
    have g2 := g.step (e1.trans e2)
    have hv2 : (tD z ks).is v H2 := (tD z ks).ex e2 hv
    have ev : v = .ref z := hv2.1
    subst ev
    obtain ⟨u0, q1, q2⟩ := g2.fit.get hj
    obtain ⟨eu, hn, vs, hs, hO⟩ := hu
    obtain ⟨eu0, _⟩ := q2
    refine ⟨x0, C, dx, q, vs, i, eu, hs.1, c, t, k z (g.ex.dom z hz) _ _ ?_⟩
    have hs' : SlX.Slt (SlX.slH H2 x0 C dx (SlX.putS i (.ref z) vs)) x0 C dx (SlX.putS i (.ref z) vs) := SlX.slH_slt hn
    have hself : (tSelf C x0 dx (putT i (kC (.ref z)) Ts)).is (.ref x0) (SlX.slH H2 x0 C dx (SlX.putS i (.ref z) vs)) := ⟨rfl, hn, SlX.putS i (.ref z) vs, ⟨hs', 0, by
      rcases hs' with ⟨_, w⟩ | ⟨_, w⟩
      · have z2 := SlX.putS_get i (V.ref z) vs
        rw [w] at z2
        simp at z2
      · exact .inr w⟩, (IsO.slot hs hTs hO).put i (T := kC (.ref z)) rfl⟩
    have g4 : En tb H0 (G.set j none) D (σ.set j (some u0)) H2 := ⟨g2.ex, g2.tab, g2.fit.clear j, g2.more⟩
    have g5 : En tb H0 (G.set j none) ((.ref z, tD z ks) :: D) (σ.set j (some u0)) (SlX.slH H2 x0 C dx (SlX.putS i (.ref z) vs)) := ⟨g4.ex.slot h0 h0d hs, g4.tab.slot hs, g4.fit.slot hs hG, (tD z ks).slot trivial hs hv2, g4.more.slot hs hD⟩
    have g6 := g5.set (T := tSelf C x0 dx (putT i (kC (.ref z)) Ts)) (v := .ref x0) (i := j) hself
    rw [List.set_set, List.set_set, ← eu0, set_same q1] at g6
    exact g6)
end
def facN (p g : Nat) : Nat → Nat
  | 0 => 1
  | i + 1 => facN p g i * g % p
theorem facN_lt {p g : Nat} (hp : 2 ≤ p) : ∀ i, facN p g i < p
  | 0 => by show 1 < p; omega
  | i + 1 => Nat.mod_lt _ (by omega)
def strTo (p g : Nat) (r : List Nat) (n : Nat) : List Nat := (List.range n).map fun i => r.getD i 0 * facN p g i % p
theorem strTo_len {p g : Nat} {r : List Nat} {n : Nat} : (strTo p g r n).length = n := by unfold strTo; rw [List.length_map, List.length_range]
theorem strTo_succ {p g : Nat} {r : List Nat} {n : Nat} : strTo p g r (n + 1) = strTo p g r n ++ [r.getD n 0 * facN p g n % p] := by
  unfold strTo
  rw [List.range_succ, List.map_append]
  rfl
/-- the rows to which a family's changes lead -/
def nxtF (p : Nat) (r : List Nat) : List (List Nat) := [movN p r, strTo p (fgN p) r r.length, r.reverse, sclR p (fgN p * fgN p % p) r]
section
variable {P : Program} {w : World} {K : PySem.W.Frag} {mg : Str → Option Value} {base : Heap} {tb : Tb} {Cf : Addr}
theorem sc_famInit : FnScope ["self", "prime", "row"] ["self", "prime", "row"] (defScope sFamInit) := ⟨rfl, rfl, rfl, by decide +kernel, rfl, by decide +kernel, by decide +kernel⟩
def pmFam (Cf : Addr) : Prm (Nat × List Nat) := ⟨fun a => [ag (tN a.1), ag (tRow a.2)], fun a => PrP a.1, fun a => newFam Cf a.1 [a.2]⟩
theorem ok_famInit {f : Addr} {fd : FuncData} (B : Tx K mg) (Ff : FamF K mg Cf) (Fg : DF P w K mg base tb "first_generator" 3 pmFirst) (F : Fun K "__init__" "Family.__init__" sFamInit f fd) : FnOk P w K mg base CX0 4 f fd ["self", "prime", "row"] (spI tb (pmFam Cf) Cf) := by
  refine fun_init F sc_famInit (fun _ => rfl) ?_
  rintro ⟨p, r⟩ cdv A outer s H H1 E y dx as D hy hdx hp hr ht hX
  have hp : PrP p := hp
  obtain ⟨q0, h0⟩ := Ff.s0
  obtain ⟨q1, h1⟩ := Ff.s1
  obtain ⟨q2, h2⟩ := Ff.s2
  show BK tb _ H1 [some (tSelf Cf y dx []), some (tN p), some (tRow r)] [] _ _
  refine b_slot 0 rfl hy hdx Ff.sc h1 (e_v 1 rfl) (K := kN p) trivial ⟨trivial, row_sl, trivial⟩ trivial (slI trivial) ?_ (e_v 0 rfl)
  show BK tb _ H1 [some (tSelf Cf y dx [none, some (kN p)]), some (tN p), some (tRow r)] [] _ _
  refine b_slot 0 rfl hy hdx Ff.sc h0 (e_call Fg hr p hp (ea_v (e_v 1 rfl) ea_nil)) (K := kN (fgN p)) trivial ⟨trivial, row_sl, trivial⟩ trivial (slI ⟨trivial, trivial⟩) ?_ (e_v 0 rfl)
  show BK tb _ H1 [some (tSelf Cf y dx [some (kN (fgN p)), some (kN p)]), some (tN p), some (tRow r)] [] _ _
  refine b_slotD 0 rfl hy hdx Ff.sc h2 (e_dict1 hr (e_v 2 rfl)) ⟨trivial, row_sl, trivial⟩ trivial (slI ⟨trivial, trivial, trivial⟩) (fun z hz => ?_) (e_v 0 rfl)
  show BK tb _ H1 [some (tSelf Cf y dx (famTs p z)), some (tN p), some (tRow r)] [(.ref z, tD z [r])] _ _
  exact b_fall fun σ H g => hX σ H g.ex ⟨z, hz, self_done (Ts := famTs p z) g 0 rfl ⟨0, kN (fgN p), rfl⟩, g.more.1.2⟩
abbrev nNextRows : List Str := ["self", "row", "prime", "generator", "stretched", "factor", "entry", "square"]
theorem sc_nextRows : FnScope nNextRows ["self", "row"] (defScope sNextRows) := ⟨rfl, rfl, rfl, by decide +kernel, rfl, by decide +kernel, by decide +kernel⟩
def pmNextRows (Cf : Addr) : Prm ((Nat × Addr) × List Nat) := ⟨fun a => [ag (kFam Cf a.1.1 a.1.2).ty, ag (tRow a.2)], fun a => PrP a.1.1 ∧ RowOk a.1.1 a.2 ∧ 2 ≤ a.2.length, fun a => newL ((nxtF a.1.1 a.2).map kRow)⟩
theorem ok_nextRows {f : Addr} {fd : FuncData} (B : Tx K mg) (Ff : FamF K mg Cf) (Fm : DF P w K mg base tb "moved_on" 1 pmMovedOn) (F : Fun K "next_rows" "Family.next_rows" sNextRows f fd) : FN P w K mg base tb 2 f fd ["self", "row"] (pmNextRows Cf) := by
  refine fun_tw F sc_nextRows (fun _ => rfl) ?_
  rintro ⟨⟨p, z⟩, r⟩ cdv A outer s H0 E as D ⟨hp, ho, hl⟩ hr ht hD hX
  have hp : PrP p := hp
  have ho : RowOk p r := ho
  have hl : 2 ≤ r.length := hl
  have hpl := hp.le
  have hrl := ho.len
  have hg : fgN p < p := (fgL_ok p hp).2
  have nd := sc_nextRows.nd
  obtain ⟨q0, h0⟩ := Ff.s0
  obtain ⟨q1, h1⟩ := Ff.s1
  have hD : ∀ v H', Ex tb H0 H' → (newL ((nxtF p r).map kRow)).is H0 v H' → D.rt v H' := hD
  show BK tb _ H0 [some (kFam Cf p z).ty, some (tRow r), none, none, none, none, none, none] [] _ _
  refine b_pair (K1 := kN p) (K2 := kN (fgN p)) nd 2 3 (e_tup (em_cons (K := kN p) (e_attr (Ts := famTs p z) (e_v 0 rfl) Ff.sc h1 rfl) (em_cons (K := kN (fgN p)) (e_attr (Ts := famTs p z) (e_v 0 rfl) Ff.sc h0 rfl) em_nil))) ?_
  refine b_parLV (Ts := (strTo p (fgN p) r 0).map kN) (U := tN (facN p (fgN p) 0)) nd 4 5 (e_lst em_nil) (e_n 1) fun y hy hyo _ => ?_
  refine b_for nd 6 (i_tup (e_v 1 rfl)) (fun i (_ : Unit) => [some (kFam Cf p z).ty, some (tRow r), some (tN p), some (tN (fgN p)), some (tL y ((strTo p (fgN p) r i).map kN)), some (tN (facN p (fgN p) i)), none, none]) (fun _ _ => True) () trivial ⟨rfl, rfl, rfl, rfl, rfl, rfl, trivial⟩ ?_ ?_
  · intro gv off i T _ hi hT _
    rw [List.length_map] at hi
    have hT3 : T = kN (r.getD i 0) := by
      rw [List.getElem?_map, getD_at hi] at hT
      exact (Option.some.inj hT).symm
    subst hT3
    have hlt := ho.at (getD_at hi)
    have hfl := facN_lt (p := p) (g := fgN p) (by omega) i
    have od : OffD y (gv ++ []) := OffD.app (D := []) trivial (off 4 _ y rfl (List.mem_singleton_self _) nm)
    refine b_app (z := y) (K := kN (r.getD i 0 * facN p (fgN p) i % p)) 4 rfl hy ⟨nm, nm, nm, nm, nm, nm, trivial⟩ od (by rw [List.length_map, strTo_len]; omega) (e_v 4 rfl) (e_mod (e_mul (e_v 6 rfl) (e_v 5 rfl) (.inl (by omega))) (e_v 2 rfl) (by omega)) ?_
    refine b_set nd 5 (T := tN (facN p (fgN p) i * fgN p % p)) (e_mod (e_mul (e_v 5 rfl) (e_v 3 rfl) (.inl (by omega))) (e_v 2 rfl) (by omega)) ?_
    refine b_fall fun _ _ g => ⟨(), trivial, g.wk ⟨rfl, rfl, rfl, rfl, ?_, rfl, trivial⟩⟩
    rw [strTo_succ, List.map_append]
    rfl
  · intro _ _
    rw [List.length_map]
    refine b_set nd 7 (T := tN (fgN p * fgN p % p)) (e_mod (e_mul (e_v 3 rfl) (e_v 3 rfl) (.inl (by omega))) (e_v 2 rfl) (by omega)) ?_
    refine b_ret (R := newL ((nxtF p r).map kRow)) (e_lst (Ts := (nxtF p r).map kRow) (em_cons (K := kRow (movN p r)) (e_call Fm hr (p, r) ⟨hp, ho, hl⟩ (ea_v (e_v 2 rfl) (ea_v (e_v 1 rfl) ea_nil))) (em_cons (K := kRow (strTo p (fgN p) r r.length)) (e_tupL B.tuple (e_v 4 rfl)) (em_cons (K := kRow r.reverse) (e_revR (e_v 1 rfl)) (em_cons (K := kRow (sclR p (fgN p * fgN p % p) r)) (e_tupN B.tuple (EV.cast (e_lc nd 6 (i_tup (e_v 1 rfl)) (blk_of nNextRows (defScope sNextRows)) (fun _ => true) (fun i => kN (r.getD i 0 * (fgN p * fgN p % p) % p)) (fun _ _ _ _ _ _ _ _ _ => ts_nil) ?_ (by rw [List.length_map]; omega)) ?_)) em_nil))))) hD
    · intro s H' C cl fp i T hi hT _
      rw [List.length_map] at hi
      have hT3 : T = kN (r.getD i 0) := by
        rw [List.getElem?_map, getD_at hi] at hT
        exact (Option.some.inj hT).symm
      subst hT3
      have hlt := ho.at (getD_at hi)
      exact e_mod (e_mul (e_v 6 rfl) (e_v 7 rfl) (.inl (by omega))) (e_v 2 rfl) (by omega)
    · rw [List.length_map, pick_all r (fun e => kN (e * (fgN p * fgN p % p) % p)) _ _ (fun _ _ => rfl) (fun i b hb => by rw [List.getD_eq_getElem?_getD, hb]; rfl)]
      unfold sclR
      rw [List.map_map]
      rfl
end
end Tw
end STwX1
section STwX2
set_option Elab.async false
set_option linter.all false
set_option maxRecDepth 100000
set_option maxHeartbeats 4000000
set_option pp.maxSteps 600
set_option pp.deepTerms false
/-! A lambda with one parameter and one captured name, called by a built-in. -/
namespace Tw
open PySem PySem.Spec PyProof.Rows L2
/-- one parameter x, one captured name y, else globals -/
structure LamS1 (sc scope : Scope) (x y : Str) : Prop where
  kind : scope.kind = .function
  co : scope.isCoroutine = false
  gen : scope.isGenerator = false
  par : scope.names.lookup x = some .local
  cap : scope.names.lookup y = some .free
  nocell : ∀ z ∈ scope.names, z.2 ≠ .cell
  loc : ∀ z ∈ scope.names, z.2 = .local → z.1 = x
  free : ∀ z ∈ scope.names, z.2 = .free → z.1 = y
  ne : x ≠ y
  out : sc.names.lookup y = some .cell
abbrev lamEnv1 (X : Cx) (scope : Scope) (L f c' : Addr) : Env := PySem.W.envX (X.env.qual ++ "<lambda>") scope L f (.ref c') (cloFrom X.env.cells scope.names [])
/-- the context of the lambda's body -/
def lamCx1 (X : Cx) (A : Around) (s : Shared) (H : Hp) (x y : Str) (scope : Scope) (f c' : Addr) : Cx where
  prog := X.prog
  w := X.w
  K := X.K
  mg := X.mg
  base := X.base
  A := A.deeper (lamEnv1 X scope s.heap.objs.size f c')
  N := [x, y]
  s_0 := s
  H_0 := H
  env := lamEnv1 X scope s.heap.objs.size f c'
  outer := X.stack
  stack := lamEnv1 X scope s.heap.objs.size f c' :: X.stack
  ex := []
  fn := fun _ => false
  calm := true
  pn := []
  xe := fun _ _ => False
section
variable {X : Cx} {pins : List (Addr × Obj)} {σ : L2.St} {H : Hp} {s : Shared}
theorem lam_start1 {A : Around} {x y : Str} {scope : Scope} {f c' : Addr} {h₁ : Heap} {tk i : Nat} {u : Value} {v vy : V} (I : Inv X pins σ H s) (L : LamS1 X.env.scope scope x y) (hN : X.N[i]? = some y) (hσ : σ[i]? = some (some vy)) (e0 : Env0 X.prog X.w X.K X.mg X.base A X.stack s H) (hd : A.handled = none)
    (rv : RelV v u) (hns : h₁.Ns s.heap.objs.size fun z => ([(x, u)] : List (Str × Value)).reverse.lookup z) (kp : ∀ b o, s.heap.get? b = some o → h₁.get? b = some o) :
    Inv (lamCx1 X A s H x y scope f c') [] [some v, some vy] H { s with heap := h₁, toks := tk } := by
  have hcell : ∃ c, X.env.cells.lookup y = some c := I.ok.has _ (.inl L.out)
  obtain ⟨cy, hcy⟩ := hcell
  have cm : ∀ {z c}, (cloFrom X.env.cells scope.names []).lookup z = some c → z = y ∧ c = cy := fun {z c} e => by
    rcases cloFrom_mem (PySem.mem_of_lookup e) with hm | ⟨h1, h2⟩
    · cases hm
    · have ez : z = y := L.free _ h1 rfl
      refine ⟨ez, ?_⟩
      rw [h2, ez, hcy] <;> rfl
  have look : (cloFrom X.env.cells scope.names []).lookup y = some cy := by
    obtain ⟨c2, h2⟩ := mem_lookup (cloFrom_has (cells := X.env.cells) (acc := []) (PySem.mem_of_lookup L.cap))
    rw [h2, (cm h2).2]
  have noA : ∀ b : Addr, b ∉ (lamCx1 X A s H x y scope f c').ex := fun b z => absurd (show b ∈ ([] : List Addr) from z) (by simp)
  have cellS : ∃ w, s.heap.IsCell cy w := I.cell y cy hcy
  refine ⟨⟨e0.mod, L.kind, rfl, rfl, Nat.le_refl _, fun z z' c e1 e2 => by rw [(cm e1).1, (cm e2).1], fun z hz => ?_, fun z c q _ => ?_, fun _ => hd, Around.frames_deeper e0.frames, .inr ⟨rfl, rfl⟩, fun b z => absurd z (noA b), e0.bs, e0.bsz, fun b _ _ => noA b,
      fun b z => absurd z (noA b), e0.funs, e0.frf⟩,
    rfl, e0.bare, Un.kept kp, ⟨_, hns, fun j z v' e1 e2 e3 => ?_⟩, fun z c e => ?_, e0.hok.fresh (Nat.le_refl _), fun z c e => ?_, fun q hq => absurd (show q ∈ ([] : List (Addr × Obj)) ++ [] from hq) (by simp), e0.hok.kept kp, rfl⟩
  · have hz : scope.names.lookup z = some .cell ∨ scope.names.lookup z = some .free := hz
    rcases hz with hz | hz
    · exact absurd rfl (L.nocell _ (PySem.mem_of_lookup hz))
    · have ez : z = y := L.free _ (PySem.mem_of_lookup hz) rfl
      rw [ez]
      exact ⟨cy, look⟩
  · have q : false = true := q
    cases q
  · match j, e1, e2 with
    | 0, e1, e2 =>
      have ez : x = z := Option.some.inj e1
      have ev : v = v' := Option.some.inj (Option.some.inj e2)
      subst ez ev
      refine ⟨u, rv, .inl ⟨L.par, ?_⟩⟩
      show ([(x, u)] : List (Str × Value)).reverse.lookup x = some u
      simp [List.lookup]
    | 1, e1, e2 =>
      have ez : y = z := Option.some.inj e1
      have ev : vy = v' := Option.some.inj (Option.some.inj e2)
      subst ez ev
      obtain ⟨m, hn, hl⟩ := I.loc
      obtain ⟨w', r, q⟩ := hl i y vy hN hσ (.inr (.inl L.out))
      refine ⟨w', r, .inr ⟨.inr L.cap, cy, look, ?_⟩⟩
      rcases q with ⟨k', _⟩ | ⟨_, c3, e', z⟩
      · have k' : X.env.scope.names.lookup y = some .local := k'
        rw [L.out] at k'
        cases k'
      · rw [hcy] at e'
        cases e'
        exact z.keeps kp
    | j + 2, e1, e2 => exact absurd e1 (by simp [lamCx1])
  · obtain ⟨_, ec⟩ := cm e
    obtain ⟨w', z⟩ := cellS
    exact ⟨w', by rw [ec]; exact z.keeps kp⟩
  · obtain ⟨_, ec⟩ := cm e
    rw [ec]
    exact I.freeC y cy hcy
/-- the lambda called with one argument -/
theorem lam_call1 {A : Around} {x y : Str} {scope : Scope} {f c' : Addr} {i k : Nat} {u pm ctv : Value} {v vy : V} {params : Arguments} {body : Expr} {t : TE} {Q : VK} (I : Inv X pins σ H s) (L : LamS1 X.env.scope scope x y) (hN : X.N[i]? = some y) (hσ : σ[i]? = some (some vy)) (e0 : Env0 X.prog X.w X.K X.mg X.base A X.stack s H) (hr : Room (k + 1) A)
    (hf : s.heap.get? f = some (PySem.W.kla_obj "<lambda>" (X.env.qual ++ "<lambda>") params body scope (cloFrom X.env.cells scope.names []) pm c' ctv)) (hc : H c' = some (LamX.CodeO c' (X.env.qual ++ "<lambda>")))
    (hbind : bindArgs (PySem.W.kla_fn "<lambda>" (X.env.qual ++ "<lambda>") params body scope (cloFrom X.env.cells scope.names []) pm (.ref c') ctv) ⟨[u], []⟩ = pure [(x, u)])
    (rv : RelV v u) (hb : PE (lamCx1 X A s H x y scope f c') body t) (h : t [some v, some vy] H Q) :
    codeAny (model X.prog X.w) A (.call (.ref f) ⟨[u], []⟩) (fun r s' => ∃ u', r = .ok (.ret u') ∧ CE X.stack X.prog X.w H s Q u' s') s := by
  obtain ⟨⟨oc, vs, t0, hoc, hdc, hvc⟩, _, _⟩ := I.hok c' _ hc
  refine PySem.W.kla_callFunE hr.depth hf rfl L.co L.gen rfl ⟨c', oc, vs, t0, rfl, hoc, hdc, hvc⟩ ?_
  rw [hbind]
  refine wpAny_pure (wpAny_newFunctionEnv (fun z hz => L.nocell z hz) (fun z hz => ?_) (fun h₁ hns hsb => ⟨I.nolimit.fresh _ hsb, ?_⟩) L.kind)
  · rw [List.mem_singleton.mp hz]
    exact L.par
  show codeAny _ _ (.expr body (lamEnv1 X scope s.heap.objs.size f c')) _ _
  have kp : ∀ b o, s.heap.get? b = some o → h₁.get? b = some o := fun b o e => hsb.extBut b o (Nat.ne_of_lt (Heap.lt_size e)) (Heap.get?_push_of_some _ e)
  have J : Inv (lamCx1 X A s H x y scope f c') [] [some v, some vy] H { s with heap := h₁, toks := s.toks + ([(x, u)] : List (Str × Value)).length } :=
    lam_start1 I L hN hσ e0 hr.hd rv hns kp
  refine PySem.W.kla_codeExpr (wpAny_mono (hb.run [] _ _ H Q J h) (fun u' s' hq => ?_) fun e s' hq => hq.elim)
  obtain ⟨w', H', J', rv', q⟩ := hq
  exact ⟨u', rfl, w', H', J'.os, J'.bare, J'.base, J'.hok, rv', q⟩
end
end Tw
end STwX2
section STwX3
set_option Elab.async false
set_option linter.all false
set_option maxRecDepth 100000
set_option maxHeartbeats 4000000
set_option pp.maxSteps 600
set_option pp.deepTerms false
/-! min(d, key=lambda row: ..), d a dict of rows. -/
namespace Tw
open PySem PySem.Spec PyProof.Rows L2
theorem closure1 {X : Cx} {scope : Scope} {x y : Str} (L : LamS1 X.env.scope scope x y) (ok : X.Ok) : ∀ z ∈ scope.names, z.2 = .free → ∃ c, X.env.cells.lookup z.1 = some c := fun z hz e => by
  rw [L.free z hz e]
  exact ok.has _ (.inl L.out)
section
variable {X : Cx} {pins : List (Addr × Obj)} {σ : L2.St} {H : Hp} {s : Shared} {tb : Tb}
/-- a lambda is made; the heap grows -/
theorem lam_make3 {c : Addr} {params : Arguments} {body : Expr} {scope : Scope} {pos : Pos} {E : Value → Shared → Prop} {Q : Value → Shared → Prop} (hne : tb.P ≠ tb.L) (I : Inv X pins σ H s) (TB : LamX.TabB X.base X.mg c tb.L) (hcode : X.env.code = .ref c)
    (hq : tb.q = X.env.qual ++ "<lambda>") (hT : Tbl tb H) (hdef : defaultsOf params X.env = ([], [])) (hfree : ∀ y ∈ scope.names, y.2 = .free → ∃ c, X.env.cells.lookup y.1 = some c)
    (h : ∀ (f c' : Addr) (pm ctv : Value) (H1 : Hp) (s' : Shared), Inv X pins σ H1 s' → Ex tb H H1 →
      s'.heap.get? f = some (PySem.W.kla_obj "<lambda>" (X.env.qual ++ "<lambda>") params body scope (cloFrom X.env.cells scope.names []) pm c' ctv) → H1 f = none → f ∉ frs X.stack → H1 c' = some (LamX.CodeO c' (X.env.qual ++ "<lambda>")) → Q (.ref f) s') :
    wpAny (model X.prog X.w) X.A (eval (.Lambda params body scope pos) X.env) Q E s := by
  obtain ⟨⟨ps0, hP0, ht0⟩, ⟨ps, hP, ht, ha⟩⟩ := hT
  rw [hq] at ha
  refine PySem.W.kla_eval hdef ?_
  have bP : s.heap.BuiltinsAt X.mg tb.L := TB.bm.keeps I.bk
  have hP' : s.heap.get? tb.L = some { cls := .none, data := .fields ps } := I.hok tb.L _ hP
  have nofr : ∀ f, s.heap.objs.size ≤ f → f ∉ frs X.stack := fun f hf z => by
    rcases List.mem_cons.mp (I.stkSub _ z) with e | e
    · have h1 := I.lt
      rw [← e] at h1
      exact Nat.lt_irrefl _ (Nat.lt_of_lt_of_le h1 hf)
    · exact I.nofs hf e
  cases hc : codeAmong pos ps.toList with
  | none =>
    refine PySem.W.kla_makeFunction (mg := X.mg) (c := c) (P := tb.L) (ps := ps) (closure_ok hfree) I.ok.glob (I.mod.glob.keeps I.bk) hcode (TB.code.keeps I.bk) hP' ht hc TB.gP bP fun c' ctv h' tk hx hge hlt hrec htb => ?_
    obtain ⟨c2, oc, vs, t, e2, hoc, hd, hv⟩ := hrec
    cases e2
    have hsz : s.heap.objs.size ≤ h'.objs.size := Nat.le_trans hge (Nat.le_of_lt hlt)
    have nC : H c' = none := I.hok.fresh hge
    have I1 := LamX.inv_table (t' := tk) (more := #[rawInt pos.line, rawInt pos.col, .ref c']) (h' := h'.push (PySem.W.kla_obj "<lambda>" (X.env.qual ++ "<lambda>") params body scope (cloFrom X.env.cells scope.names []) ((X.mg "__name__").getD .none) c' ctv)) I hP
      (fun b o hb e => Heap.get?_push_of_some _ (hx b o hb e)) (Heap.get?_push_of_some _ htb) hge ⟨oc, vs, t, Heap.get?_push_of_some _ hoc, hd, hv⟩
    have hE : ∀ b o, H b = some o → (∀ ps, o ≠ .tbl ps) → upd (upd H tb.L (.tbl (ps ++ #[rawInt pos.line, rawInt pos.col, .ref c']))) c' (LamX.CodeO c' (X.env.qual ++ "<lambda>")) b = some o := fun b o e n => by
      rw [upd_ne (ne_of_none e nC), upd_ne (fun z => n ps (Option.some.inj (e.symm.trans (by rw [z]; exact hP))))]
      exact e
    have eL : (ps ++ #[rawInt pos.line, rawInt pos.col, .ref c']).toList = ps.toList ++ [rawInt pos.line, rawInt pos.col, .ref c'] := by simp
    refine h h'.objs.size c' ((X.mg "__name__").getD .none) ctv _ _ I1 ⟨hE, fun b e => ?_, fun _ => ⟨⟨ps0, ?_, ht0⟩, ⟨_, by rw [upd_ne (ne_of_none hP nC), upd_same], by rw [eL]; exact PySem.TriplesOk_snoc _ _ _ _ ht, fun p' cv hcv => ?_⟩⟩⟩ (Heap.get?_push_size _ rfl) ?_ (nofr _ hsz) upd_same
    · have n1 : b ≠ c' := fun z => by rw [z, upd_same] at e; cases e
      rw [upd_ne n1] at e
      have n2 : b ≠ tb.L := fun z => by rw [z, upd_same] at e; cases e
      rw [upd_ne n2] at e
      exact e
    · rw [upd_ne (ne_of_none hP0 nC), upd_ne hne]
      exact hP0
    · rw [hq]
      rw [eL] at hcv
      rcases LamX.among_app _ ht hcv with z | z
      · obtain ⟨c0, e1, e2⟩ := ha p' cv z
        exact ⟨c0, e1, hE _ _ e2 LamX.codeO_ne⟩
      · exact ⟨c', z, upd_same⟩
    · have n1 : h'.objs.size ≠ c' := Nat.ne_of_gt hlt
      have n2 : h'.objs.size ≠ tb.L := Nat.ne_of_gt (Nat.lt_of_lt_of_le (Heap.lt_size hP') hsz)
      rw [upd_ne n1, upd_ne n2]
      exact I.hok.fresh hsz
  | some cv =>
    obtain ⟨c', e, hco⟩ := ha pos cv hc
    subst e
    refine PySem.W.kla_makeFunctionHit (mg := X.mg) (c := c) (P := tb.L) (ps := ps) (closure_ok hfree) I.ok.glob (I.mod.glob.keeps I.bk) hcode (TB.code.keeps I.bk) hP' ht hc bP fun ctv h' tk hx hsz => ?_
    have I1 : Inv X pins σ H { s with heap := h'.push (PySem.W.kla_obj "<lambda>" (X.env.qual ++ "<lambda>") params body scope (cloFrom X.env.cells scope.names []) ((X.mg "__name__").getD .none) c' ctv), toks := tk } := I.kept fun b o e => Heap.get?_push_of_some _ (hx b o e)
    exact h h'.objs.size c' ((X.mg "__name__").getD .none) ctv H _ I1 Ex.refl (Heap.get?_push_size _ rfl) (I.hok.fresh hsz) (nofr _ hsz) hco
end
/-- the place of the first least number -/
def bestF (p : Nat) (ks : List (List Nat)) (i j : Nat) : Bool := decide (numR p (ks.getD i []) < numR p (ks.getD j []))
def headN (p : Nat) (ks : List (List Nat)) : List Nat := ks.getD (argBest (bestF p ks) (ks.length - 1)) []
theorem best_le (bt : Nat → Nat → Bool) : ∀ n, argBest bt n ≤ n
  | 0 => Nat.le_refl _
  | n + 1 => by
    unfold argBest
    have := best_le bt n
    split <;> omega
section
variable {tb : Tb} {X : Cx} {G : List (Option Ty)} {a : Expr} {pos p1 kp lpos : Pos}
theorem ex_relock {H H2 H' : Hp} {z : Addr} {od : Obj} {kvs : List (List Key × V)} (e : Ex tb H H2) (hz : H2 z = some (.dT kvs)) (e' : Ex tb (upd H2 z (.frz od (.dT kvs))) H') (hz' : H' z = some (.frz od (.dT kvs))) : Ex tb H (upd H' z (.dT kvs)) := by
  refine e.trans ⟨fun b o q n => ?_, fun b q => ?_, fun t => ?_⟩
  · by_cases w : b = z
    · rw [w, hz] at q
      rw [w, upd_same]
      exact q
    · rw [upd_ne w]
      exact e'.keep b o (by rw [upd_ne w]; exact q) n
  · have w : b ≠ z := fun w => by rw [w, upd_same] at q; cases q
    rw [upd_ne w] at q
    have := e'.dom b q
    rw [upd_ne w] at this
    exact this
  · have t2 : Tbl tb (upd H2 z (.frz od (.dT kvs))) := t.upd fun u q => by rw [hz] at q; cases q; exact notC_dT
    exact (e'.tab t2).upd fun u q => by
      rw [hz'] at q
      cases q
      exact ⟨(fun _ z => nomatch z), fun _ _ z => by unfold LamX.CodeO at z; cases z⟩
theorem getD_row {ks : List (List Nat)} {i : Nat} (h : i < ks.length) : ks[i]? = some (ks.getD i []) := by
  rw [List.getD_eq_getElem?_getD, List.getElem?_eq_getElem h]; rfl
theorem keysN_at {ks : List (List Nat)} {i : Nat} (h : i < ks.length) : (keysN ks)[i]? = some (keyN (ks.getD i []), V.bl true) := by
  unfold keysN
  rw [List.getElem?_map, getD_row h]
  rfl
theorem row_of_key {H : Hp} {q : Addr} {r : List Nat} (h : H q = some (.tup ((keyN r).map kV))) : (kRow r).is (.ref q) H := ⟨q, r.map vn, rfl, by rw [← keyN_vals]; exact h, All.of_nums r⟩
theorem e_minKey {c z : Addr} {i k p : Nat} {ks : List (List Nat)} {T : Ty} {KS : Im} {scope : Scope} {params : Arguments} {body : Expr} {x y : Str} (hne : tb.P ≠ tb.L) (TB : LamX.TabB X.base X.mg c tb.L) (hcode : X.env.code = .ref c) (hq : tb.q = X.env.qual ++ "<lambda>") (L : LamS1 X.env.scope scope x y) (hN : X.N[i]? = some y) (hG : G[i]? = some (some T)) (hKS : ∀ v H, T.is v H → KS.is v H)
    (hks : ks ≠ []) (hd : EV tb X G a (val (tD z ks))) (hm : X.mg "min" = none) (hdef : defaultsOf params X.env = ([], [])) (hbind : ∀ (u : Value) (q : Str) (cl : List (Str × Addr)) (pm cv ctv : Value), bindArgs (PySem.W.kla_fn "<lambda>" q params body scope cl pm cv ctv) ⟨[u], []⟩ = pure [(x, u)]) (hr : Room (k + 2) X.A)
    (hbody : ∀ (s' : Shared) (H' : Hp) (f c' : Addr) (r : List Nat), r ∈ ks → Room k (lamCx1 X X.A.in1 s' H' x y scope f c').A → EV tb (lamCx1 X X.A.in1 s' H' x y scope f c') [some (kRow r).ty, some KS.ty] body (val (tN (numR p r))))
    (hg : Gl X "min" := by rfl) (hst : starEach [a] X.env = (false, eval a X.env) :: starEach [] X.env := by rfl) : EV tb X G (.Call (.Name "min" p1) [a] [⟨some "key", .Lambda params body scope lpos, kp⟩] pos) (val (kRow (headN p ks)).ty) := by
  intro σ H t ff Q q pins s I
  refine wpAny_Call_Name_kw (ld_blt I hg hm (by decide +kernel : bootBuiltins "min" = some (.builtin "min")) ?_)
  refine callWith_kw ?_ (by rw [hst]; rfl) (by rw [hst]; rfl) rfl rfl
  rw [hst]
  show wpAny _ _ (spliced ((false, eval a X.env) :: backTo pos (starEach [] X.env))) _ _ _
  refine Calls.spliced_cons (thn (hd σ H t ff (fun v H1 => Ex tb H H1 ∧ (tD z ks).is v H1) (fun v H1 e h => ⟨e, h⟩) pins s I) fun u s1 ⟨v, H1, I1, r1, e1, hv⟩ => Calls.spliced_nil ?_)
  obtain ⟨ev, hz⟩ := hv
  subst ev
  cases r1
  refine kws_cons (lam_make3 hne I1 TB hcode hq (e1.tab t) hdef (closure1 L I1.ok) fun f c' pm ctv H2 s2 I2 e2 hf hfn hfr hco => kws_nil ?_)
  show wpAny _ _ (call (.builtin "min") [.ref z] [(Str.ofString "key", .ref f)]) _ _ _
  have hz2 : H2 z = some (.dT (keysN ks)) := e2.keep _ _ hz (fun _ z => nomatch z)
  obtain ⟨od, I3⟩ := I2.lock hz2 trivial
  have hnf := I2.nofrz hz2 trivial
  have hfz : f ≠ z := fun w => by rw [w, hz2] at hfn; cases hfn
  have hcz : c' ≠ z := fun w => by
    rw [w, hz2] at hco
    exact notC_dT.2 _ _ (Option.some.inj hco)
  obtain ⟨hs, hgd, hx, es, ep, hdt, hsz, ent⟩ := I3.frzT upd_same
  rw [keysN_len] at hsz
  have hpos : 0 < ks.length := List.length_pos_iff.mpr hks
  obtain ⟨vs, hσ, hvs⟩ := ff.get hG
  have hvs2 : KS.is vs H2 := KS.ex e2 (KS.ex e1 (hKS vs H hvs |> fun h => h))
  have hvs3 : KS.is vs (upd H2 z (.frz od (.dT (keysN ks)))) := KS.mono (fun b o e im => by
    rw [upd_ne (fun w => by rw [w, hz2] at e; cases e; cases im)]; exact e) hvs2
  have t3 : Tbl tb (upd H2 z (.frz od (.dT (keysN ks)))) := (e2.tab (e1.tab t)).upd fun u q => by rw [hz2] at q; cases q; exact notC_dT
  have zlt : z < s2.heap.objs.size := Heap.lt_size hgd
  have flt : f < s2.heap.objs.size := Heap.lt_size hf
  have nofr : ∀ b, s2.heap.objs.size ≤ b → b ∉ frs X.stack := fun b hb w => by
    rcases List.mem_cons.mp (I2.stkSub _ w) with e | e
    · have h1 := I2.lt
      rw [← e] at h1
      exact Nat.lt_irrefl _ (Nat.lt_of_lt_of_le h1 hb)
    · exact I2.nofs hb e
  refine call_min_walkK (iter_keys hs hgd hx hdt ?_)
  have szI : (s2.heap.push { cls := .type "dict_keyiterator", data := .fields #[.ref z, .int 0 0, .int es.size 0, .int ep 0] }).objs.size = s2.heap.objs.size + 1 := Heap.size_push ..
  generalize hoI : ({ cls := .type "dict_keyiterator", data := .fields #[.ref z, .int 0 0, .int es.size 0, .int ep 0] } : Obj) = oI at szI
  have hfp2 : ∀ (H' : Hp) (b : Addr), s2.heap.objs.size ≤ b → H' b = none → FpOk X pins H' b := fun H' b hb hn => I2.fpOk hb hn
  refine ⟨s2.heap.objs.size, [s2.heap.objs.size, z], [s2.heap.objs.size], (fun a b => b = a), es.size, _, _, fun s' => ∃ H', Inv X pins σ H' s' ∧ Ex tb (upd H2 z (.frz od (.dT (keysN ks)))) H' ∧ s'.heap.get? f = some (PySem.W.kla_obj "<lambda>" (X.env.qual ++ "<lambda>") params body scope (cloFrom X.env.cells scope.names []) pm c' ctv) ∧ H' f = none ∧ H' (s2.heap.objs.size + 1) = none ∧ H' s2.heap.objs.size = none, fun i k _ => ∃ t, k = .int ((numR p (ks.getD i []) : Nat) : Int) t, bestF p ks, rfl, (walks_raw (show X.A.in1.handled = none from hr.hd) s2.heap.objs.size z (Nat.ne_of_lt zlt) hdt).toS, ?_, ?_, by omega, ?_, ?_, ?_⟩
  · exact ⟨⟨oI, Heap.get?_push_size _ (by rw [← hoI]; rfl), by rw [← hoI], by rw [← hoI]; rfl⟩, Heap.get?_push_of_some _ hgd⟩
  · intro b hb
    show b < (s2.heap.push oI).objs.size
    rw [szI]
    rcases List.mem_cons.mp hb with w | w
    · rw [w]; exact Nat.lt_succ_self _
    · rw [List.mem_singleton.mp w]; exact Nat.lt_succ_of_lt zlt
  · show PySem.KeyRun _ _ _ _ _ (s2.heap.push oI).objs.size _ _ _ _ _ _ _ _
    rw [szI]
    refine ⟨?_, fun i k s s' h _ => h, ?_, ?_⟩
    · rintro s s' ⟨H', I', e', hf', hfn', hS', hI'⟩ hm
      refine ⟨H', ?_, e', hm.heap f _ (fun w => ?_) hf', hfn', hS', hI'⟩
      · rw [Moved.eq_with hm]
        refine I'.turnedL (ch := [s2.heap.objs.size + 1, s2.heap.objs.size]) (fun b o hb e => hm.heap b o hb e) (fun b hb => ?_)
        rcases List.mem_cons.mp hb with w | w
        · rw [w]; exact hfp2 _ _ (Nat.le_succ _) hS'
        · rw [List.mem_singleton.mp w]; exact hfp2 _ _ (Nat.le_refl _) hI'
      · rcases List.mem_cons.mp w with w | w
        · exact Nat.ne_of_lt (Nat.lt_succ_of_lt flt) w
        · exact Nat.ne_of_lt flt (List.mem_singleton.mp w)
    · rintro i v s' o Q' E' hi ⟨en, hen, rfl⟩ ⟨H', I', e', hf', hfn', hS', hI'⟩ hst' hSo hk
      obtain ⟨en', qa, hen', hkey, hqt⟩ := ent i _ _ (keysN_at (by omega))
      rw [hen] at hen'
      cases hen'
      have hrow : (kRow (ks.getD i [])).is (.ref qa) H' := (kRow _).ex e' (row_of_key hqt)
      have hcc : H' c' = some (LamX.CodeO c' (X.env.qual ++ "<lambda>")) := e'.keep c' _ (by rw [upd_ne hcz]; exact hco) LamX.codeO_ne
      have hr2 : Room (k + 1) X.A.in1 := hr.in1
      have hmem : ks.getD i [] ∈ ks := List.mem_of_getElem? (getD_row (by omega))
      refine wpAny_call (codeAny_mono (lam_call1 (k := k) (Q := fun v H'' => v = .int ((numR p (ks.getD i []) : Nat) : Int) ∧ Ex tb H' H'') I' L hN hσ I'.env0.in1 hr2 hf' hcc (hbind _ _ _ _ _ _) (show RelV (.ref qa) en.key from hkey) pe_RE ?_) (fun r s'' hq => ?_))
      · exact hbody s' H' f c' _ hmem (hr2.deeper _) [some (.ref qa), some vs] H' (e'.tab t3) ⟨⟨_, rfl, hrow⟩, ⟨_, rfl, KS.ex e' hvs3⟩, trivial⟩ _ fun v H'' e'' h => ⟨h, e''⟩
      · obtain ⟨u', rfl, w', H'', os, bare, un, hok, rv, ew, e''⟩ := hq
        subst ew
        obtain ⟨_, _, J, _, rfl, rfl⟩ := I'.after (Q := fun z Hz => z = .int ((numR p (ks.getD i []) : Nat) : Int) ∧ Hz = H'') ⟨_, H'', os, bare, un, hok, rv, rfl, rfl⟩
        have hz'' := (e'.trans e'').keep z _ upd_same (fun _ z => nomatch z)
        obtain ⟨oIt, hoIt, _⟩ := id hst'.1
        refine hk u' s'' ⟨_, J, e'.trans e'', un.keep f _ hf' hfn' hfr (by simp), un.free f _ hf' hfn' (by simp), un.free _ o hSo hS' (by simp), un.free _ _ hoIt hI' (by simp)⟩ ⟨hst'.1.at fun ob e => un.keep _ ob e hI' (nofr _ (Nat.le_refl _)) (by simp), (J.frzT hz'').2.1⟩ (un.keep _ o hSo hS' (nofr _ (Nat.le_succ _)) (by simp)) rv fun _ _ h => h
    · rintro i j ki kj s' Q' E' _ ⟨ti, rfl⟩ ⟨tj, rfl⟩ hq'
      have e : bestF p ks i j = decide (((numR p (ks.getD i []) : Nat) : Int) < ((numR p (ks.getD j []) : Nat) : Int)) := by
        unfold bestF
        exact decide_eq_decide.mpr Int.ofNat_lt.symm
      rw [e] at hq'
      exact CmpOf.ints_lt (P := fun i v => ∃ t, v = .int ((numR p (ks.getD i []) : Nat) : Int) t) (fun i => ((numR p (ks.getD i []) : Nat) : Int)) (fun i v h => h) i j _ _ s' Q' E' ⟨ti, rfl⟩ ⟨tj, rfl⟩ hq'
  · exact ⟨_, I3.kept (t' := s2.toks) fun b o e => Heap.get?_push_of_some _ e, Ex.refl, Heap.get?_push_of_some _ hf, by rw [upd_ne hfz]; exact hfn, I3.hok.fresh (Nat.le_succ _), I3.hok.fresh (Nat.le_refl _)⟩
  · rintro v s' ⟨en, hen, rfl⟩ ⟨H', I', e', _⟩
    have hb := best_le (bestF p ks) (es.size - 1)
    obtain ⟨en', qa, hen', hkey, hqt⟩ := ent (argBest (bestF p ks) (es.size - 1)) _ _ (keysN_at (by omega))
    rw [hen] at hen'
    cases hen'
    have hz' : H' z = some (.frz od (.dT (keysN ks))) := e'.keep z _ upd_same (fun _ z => nomatch z)
    have hrow : (kRow (headN p ks)).is (.ref qa) H' := (kRow _).ex e' (by unfold headN; rw [← hsz]; exact row_of_key hqt)
    refine ⟨.ref qa, _, I'.unlock hz' hnf, hkey, q _ _ (ex_relock (e1.trans e2) hz2 e' hz') ((kRow _).mono (fun b o e im => ?_) hrow)⟩
    rw [upd_ne (fun w => by rw [w, hz'] at e; cases e; cases im)]
    exact e
end
end Tw
end STwX3
section STwX4
set_option Elab.async false
set_option linter.all false
set_option maxRecDepth 100000
set_option maxHeartbeats 4000000
set_option pp.maxSteps 600
set_option pp.deepTerms false
/-! Rules for gather. -/
namespace Tw
open PySem PySem.Spec PyProof.Rows L2
/-- a family and its dict -/
def tFam (Cf : Addr) (p : Nat) (z : Addr) (ks : List (List Nat)) : Ty where
  is := fun v H => (kFam Cf p z).is v H ∧ H z = some (.dT (keysN ks))
  fp := [z]
  mono := fun k ⟨h1, h2⟩ => ⟨(kFam Cf p z).mono (fun b o e i => k b o e (.inl i) (imm_ntbl i)) h1, k _ _ h2 (.inr List.mem_cons_self) (fun _ z => nomatch z)⟩
  dom := fun ⟨_, h2⟩ hb => by
    rw [List.mem_singleton.mp hb]
    exact ⟨_, h2, rfl, notC_dT⟩
  sl := (kFam Cf p z).sl
  slot := fun hs s ⟨h1, h2⟩ => ⟨(kFam Cf p z).slot hs s h1, slH_keep s h2 (fun _ _ _ z => nomatch z) (fun _ z => nomatch z) (fun _ z => nomatch z) (fun z => nomatch z)⟩
theorem tFam_put {Cf p : Nat} {z : Addr} {v : V} {H : Hp} {ks ks' : List (List Nat)} (h : (tFam Cf p z ks).is v H) : (tFam Cf p z ks').is v (upd H z (.dT (keysN ks'))) :=
  ⟨(kFam Cf p z).mono (fun b o e i => by rw [upd_ne (fun w => by rw [w, h.2] at e; cases e; cases i)]; exact e) h.1, upd_same⟩
/-- over something, the state being changed while it is told -/
def EIm (tb : Tb) (X : Cx) (H0 : Hp) (G G' : List (Option Ty)) (D : List (V × Ty)) (tg iter : Expr) (Ks : List Im) : Prop :=
  ∀ (σ : L2.St) (H : Hp), En tb H0 G D σ H → ∀ R : It → Hp → Prop,
    (∀ (J : It) (H' : Hp) (gv : List (V × Ty)) (Gd : Hp → Prop) (Y : Nat → Hp → V → Hp → Prop), En tb H0 G' D σ H' → Walk J Ks.length Gd Y → FitD H' gv → (∀ (i : Nat) (T : Ty) (b : Addr), G'[i]? = some (some T) → b ∈ T.fp → OffD b gv) → (∀ H2, FitD H2 gv → Gd H2) →
      (∀ (i : Nat) (T : Im) (H2 : Hp) (v : V) (H3 : Hp), Ks[i]? = some T → FitD H2 gv → Y i H2 v H3 → Ex tb H2 H3 ∧ T.is v H3) → R J H') → RI X tg iter σ H R
section
variable {tb : Tb} {X : Cx} {H0 : Hp} {G G' : List (Option Ty)} {D : List (V × Ty)} {a b c e o tg iter : Expr} {pos p tp apos ap2 cp : Pos} {x m : Str} {Ts Us Ks : List Im} {K : Im} {z : Addr} {rest body : List Stmt} {E : Ends} {k : Nat} {C : Addr} {fs : List (Option Im)}
theorem b_forM {ζ : Type} (nd : X.N.Nodup) (j : Nat) (hi : EIm tb X H0 G G' D (.Name x tp) iter Ks) (Gi : Nat → ζ → List (Option Ty)) (ok : Nat → ζ → Prop) (z0 : ζ) (ok0 : ok 0 z0) (w0 : Wk G' (Gi 0 z0))
    (hs : ∀ gv : List (V × Ty), (∀ (i : Nat) (T : Ty) (b : Addr), G'[i]? = some (some T) → b ∈ T.fp → OffD b gv) → ∀ i T z, i < Ks.length → Ks[i]? = some T → ok i z →
      BK tb X H0 ((Gi i z).set j (some T.ty)) (gv ++ D) body { E with nx := fun σ H => ∃ z', ok (i + 1) z' ∧ En tb H0 (Gi (i + 1) z') (gv ++ D) σ H, ct := fun σ H => ∃ z', ok (i + 1) z' ∧ En tb H0 (Gi (i + 1) z') (gv ++ D) σ H, bk := fun σ' H' => RB X rest E σ' H' })
    (hd : ∀ z, ok Ks.length z → BK tb X H0 (Gi Ks.length z) D rest E) (hp : PassesOwn (model X.prog X.w) X.A X.env X.xe := by exact PassesOwn.never) (hc : X.calm = true := by rfl) (hxi : X.N[j]? = some x := by rfl) (hx : Loc X.env.scope x := by first | exact Or.inl rfl | exact Or.inr rfl)
    (hf : X.fn x = true ∨ X.env.scope.names.lookup x = some .local := by first | exact .inl rfl | exact .inr rfl) (hfs : ∀ v, foldedSetIterable iter X.env v = pure v := by intro _; rfl) : BK tb X H0 G D (.For (.Name x tp) iter body [] pos :: rest) E :=
  bk_of fun σ H g => toS (ps_for hp hc pi_RI (pg_name nd hxi hx hf) pss_RB hfs) (hi σ H g _ fun J H1 gv Gd Y g1 wlk fd off hG hY =>
    for_it wlk (fun i σ H => ∃ z, ok i z ∧ En tb H0 (Gi i z) (gv ++ D) σ H) ⟨z0, ok0, g1.ex, g1.tab, g1.fit.wk w0, g1.more.app fd⟩
      (fun i σ H _ ⟨z, _, gi⟩ => hG H gi.more.left)
      (fun i v σ H H' hlt ⟨z, okz, gi⟩ y => by
        obtain ⟨T, hT⟩ : ∃ T, Ks[i]? = some T := ⟨Ks[i], List.getElem?_eq_getElem hlt⟩
        have m : FitD H gv := gi.more.left
        obtain ⟨e2, hv⟩ := hY i T H v H' hT m y
        exact hs gv off i T z hlt hT okz _ _ ((gi.step e2).set (T := T.ty) hv))
      (fun σ H ⟨z, okz, gi⟩ => hd z okz σ H ⟨gi.ex, gi.tab, gi.fit, gi.more.right⟩))
theorem pop_all {H : Hp} {xs : List V} (h : All (Ts ++ [K]) xs H) : ∃ v, xs[xs.length - 1]? = some v ∧ K.is v H ∧ All Ts xs.dropLast H := by
  have hl := h.length
  rw [List.length_append, List.length_singleton] at hl
  obtain ⟨v, hv, hk⟩ := h.at (i := Ts.length) (T := K) (by rw [List.getElem?_append_right (Nat.le_refl _), Nat.sub_self]; rfl)
  refine ⟨v, by rw [show xs.length - 1 = Ts.length by omega]; exact hv, hk, ?_⟩
  have h2 := h.take Ts.length
  rw [List.take_left] at h2
  rw [List.dropLast_eq_take, show xs.length - 1 = Ts.length by omega]
  exact h2
/-- for x in o.m(w.pop()), the result of m a new list; w in slot j -/
theorem i_pop {α : Type} {Pm : Prm α} {w : Expr} (j : Nat) (hL : G[j]? = some (some (tL z (Ts ++ [K])))) (h0 : H0 z = none) (f : Off z (G.set j none)) (fd : OffD z D) (F : Mth tb X.prog X.w X.K X.mg X.base C m k Pm) (c : SlX.SCls X.K C) (hr : Room k X.A) (i : α) (hok : Pm.ok i)
    (ho : EV tb X G o (val (kIns C fs).ty)) (hw : EV tb X G w (val (tL z (Ts ++ [K])))) (hA : Pm.args i = [ag (kIns C fs).ty, ag K.ty]) (hR : Pm.res i = newL Us)
    {pl : Sem Bool} (ht : eval (.Call (.Attribute o m apos) [.Call (.Attribute w "pop" ap2) [] [] cp] [] p) X.env = (do
      let ov ← eval o X.env
      standAt apos.atName
      let (f, first) ← holding [ov] (getMethod ov m pl)
      callWith p f first (backTo p (starEach [.Call (.Attribute w "pop" ap2) [] [] cp] X.env)) (backToKw p (keywordEach [] X.env))) := by rfl)
    (hst : starEach [.Call (.Attribute w "pop" ap2) [] [] cp] X.env = (false, eval (.Call (.Attribute w "pop" ap2) [] [] cp) X.env) :: starEach [] X.env := by rfl)
    (hpe : ∀ {to : TE}, PE X w to → PE X (.Call (.Attribute w "pop" ap2) [] [] cp) (tBM0 X.K "list" rPop to) := by exact fun h1 => pe_bm0 PySem.F.plainAttrs_list PySem.F.slot_list_pop PySem.F.type_list_pop mt_pop h1) :
    EIm tb X H0 G (G.set j (some (tL z Ts))) D tg (.Call (.Attribute o m apos) [.Call (.Attribute w "pop" ap2) [] [] cp] [] p) Us := by
  obtain ⟨gg, hm, _, F⟩ := F.ex
  refine fun σ H g R kk => toI (pi_list (SlX.pe_methSl pe_RE c hm F hr pass0 (pa_cons (hpe pe_RE) pa_nil hst) hst rfl ht)) (ho σ H g.tab g.fit _ fun v H1 e1 h1 => ?_)
  obtain ⟨y, dx, vs, ev, hs, _⟩ := kIns_slt h1
  refine ⟨y, dx, vs, ev, hs, hw σ H1 (e1.tab g.tab) (g.fit.ex e1) _ fun u H2 e2 h2 => ?_⟩
  obtain ⟨eu, xs, hx, hxA⟩ := h2
  have g2 := g.step (e1.trans e2)
  obtain ⟨uv, q1, q2, q3⟩ := pop_all hxA
  refine ⟨by rw [eu]; exact .inl ⟨rfl, xs, SqL.of hx⟩, z, xs, uv, eu, rfl, hx, q1, ?_⟩
  obtain ⟨v0, w1, w2⟩ := g2.fit.get hL
  have w2 : v0 = .ref z := w2.1
  subst w2
  have kp : ∀ b o, H2 b = some o → imm o = true → upd H2 z (.lst xs.dropLast) b = some o := fun b o q i => by
    rw [upd_ne (fun w => by rw [w, hx] at q; cases q; cases i)]; exact q
  have g4 : En tb H0 (G.set j none) D (σ.set j (some (.ref z))) H2 := ⟨g2.ex, g2.tab, g2.fit.clear j, g2.more⟩
  have g5 := g4.mut (o := .lst xs.dropLast) h0 hx rfl notC_lst f fd
  have g6 := g5.set (T := tL z Ts) (v := .ref z) (i := j) ⟨rfl, _, upd_same, q3.mono kp⟩
  rw [List.set_set, List.set_set, set_same w1] at g6
  refine ⟨i, hok, g6.tab, ?_, fun v' H' e3 h3 => ?_⟩
  · rw [hA]
    exact ⟨⟨0, (kIns C fs).mono kp ((kIns C fs).ex e2 h1)⟩, ⟨0, K.mono kp q2⟩, trivial⟩
  · rw [hR] at h3
    obtain ⟨z', hz', ev', ys, hy, hyA⟩ := h3
    subst ev'
    refine ⟨z', rfl, ⟨ys, SqL.of hy⟩, kk _ H' [(.ref z', tLx z' ys Us)] _ _ (g6.step e3) (by rw [hyA.length]; exact walk_list (xs := ys)) ⟨⟨rfl, hy, hyA⟩, trivial⟩ (fun i T b hT hb => ⟨fun q => ?_, trivial⟩) (fun H2 h => SqL.of h.1.2.1) ?_⟩
    · rw [List.mem_singleton.mp q] at hb
      exact (off_new (p := z') (fun o w => by rw [hz'] at w; cases w) g6.fit).at hT hb
    · rintro i T H2 v H3 hT h ⟨rfl, hv⟩
      exact ⟨Ex.refl, h.1.2.2.idx hT hv⟩
/-- o.own_rows -/
theorem e_rows {Cf : Addr} {p : Nat} {ks : List (List Nat)} {q : Addr} (he : EV tb X G e (val (tFam Cf p z ks))) (c : SlX.SCls X.K Cf) (t : SlX.Slot1 X.K Cf "own_rows" q 2) (hb : attributeBase e "own_rows" X.env (eval e X.env) = eval e X.env := by rfl) : EV tb X G (.Attribute e "own_rows" pos) (val (tD z ks)) := fun σ H tt ff Q k =>
  toE (SlX.pe_sl pe_RE hb) (he σ H tt ff _ fun v H1 e1 ⟨h1, h2⟩ => by
    obtain ⟨x, dx, vs, ev, hs, ho⟩ := kIns_slt h1
    obtain ⟨u, hu, ku⟩ := ho 2 (kC (.ref z)) rfl
    have ku : u = .ref z := ku
    subst ku
    exact ⟨x, Cf, dx, q, vs, 2, .ref z, ev, hs, c, t, hu, k _ H1 e1 ⟨rfl, h2⟩⟩)
theorem e_fam {Cf : Addr} {p : Nat} {ks : List (List Nat)} (he : EV tb X G e (val (tFam Cf p z ks))) : EV tb X G e (val (kFam Cf p z).ty) := he.imp fun _ _ _ h => h.1
end
end Tw
end STwX4
section STwX5
set_option Elab.async false
set_option linter.all false
set_option maxRecDepth 100000
set_option maxHeartbeats 4000000
set_option pp.maxSteps 600
set_option pp.deepTerms false
/-! Promise of gather. -/
namespace Tw
open PySem PySem.Spec PyProof.Rows L2
/-! ### mirrors -/
abbrev GSt := List (List Nat) × List (List Nat)
def gatStep (st : GSt) (r : List Nat) : GSt := if r ∈ st.1 then st else (st.1 ++ [r], st.2 ++ [r])
def lastR (ws : List (List Nat)) : List Nat := ws.getD (ws.length - 1) []
def gatTurn (p : Nat) (st : GSt) : GSt := if st.2 = [] then st else (nxtF p (lastR st.2)).foldl gatStep (st.1, st.2.dropLast)
def gatTo (p : Nat) (r : List Nat) : Nat → GSt
  | 0 => ([r], [r])
  | n + 1 => gatTurn p (gatTo p r n)
theorem gat_stop {p : Nat} {r : List Nat} {n : Nat} (h : (gatTo p r n).2 = []) : ∀ k, gatTo p r (n + k) = gatTo p r n
  | 0 => rfl
  | k + 1 => by
    show gatTurn p (gatTo p r (n + k)) = _
    rw [gat_stop h k]
    unfold gatTurn
    rw [if_pos h]
theorem last_app {ws : List (List Nat)} (h : ws ≠ []) : ws = ws.dropLast ++ [lastR ws] := by
  have e : lastR ws = ws.getLast h := by
    unfold lastR
    have hl : ws.length - 1 < ws.length := by
      have := List.length_pos_iff.mpr h
      omega
    rw [List.getLast_eq_getElem, List.getD_eq_getElem?_getD, List.getElem?_eq_getElem hl]
    rfl
  rw [e]
  exact (List.dropLast_concat_getLast h).symm
def RowsOk (p n : Nat) (l : List (List Nat)) : Prop := ∀ x ∈ l, RowOk p x ∧ x.length = n
theorem nxt_ok {p n : Nat} (hp : PrP p) {w : List Nat} (h : RowOk p w) (hl : w.length = n) : RowsOk p n (nxtF p w) := by
  have hp0 : 0 < p := by have := hp.le; omega
  have hlen := h.len
  intro x hx
  unfold nxtF at hx
  rcases List.mem_cons.mp hx with rfl | hx
  · exact ⟨movN_ok hp0 h, by rw [movN_len]; exact hl⟩
  rcases List.mem_cons.mp hx with rfl | hx
  · refine ⟨⟨fun y hy => ?_, by rw [strTo_len]; exact hlen⟩, by rw [strTo_len]; exact hl⟩
    obtain ⟨i, _, rfl⟩ := List.mem_map.mp hy
    exact Nat.mod_lt _ hp0
  rcases List.mem_cons.mp hx with rfl | hx
  · exact ⟨⟨fun y hy => h.lt y (List.mem_reverse.mp hy), by rw [List.length_reverse]; exact hlen⟩, by rw [List.length_reverse]; exact hl⟩
  rw [List.mem_singleton.mp hx]
  refine ⟨⟨fun y hy => ?_, by unfold sclR; rw [List.length_map]; exact hlen⟩, by unfold sclR; rw [List.length_map]; exact hl⟩
  obtain ⟨i, _, rfl⟩ := List.mem_map.mp hy
  exact Nat.mod_lt _ hp0
theorem RowsOk.drop {p n : Nat} {l : List (List Nat)} (h : RowsOk p n l) : RowsOk p n l.dropLast := fun x hx => h x (List.dropLast_subset _ hx)
theorem gatStep_ok {p n : Nat} {st : GSt} {r : List Nat} (h1 : RowsOk p n st.1) (h2 : RowsOk p n st.2) (hr : RowOk p r ∧ r.length = n) : RowsOk p n (gatStep st r).1 ∧ RowsOk p n (gatStep st r).2 := by
  unfold gatStep
  split
  · exact ⟨h1, h2⟩
  · refine ⟨fun x hx => ?_, fun x hx => ?_⟩
    · rcases List.mem_append.mp hx with hx | hx
      · exact h1 x hx
      · rw [List.mem_singleton.mp hx]; exact hr
    · rcases List.mem_append.mp hx with hx | hx
      · exact h2 x hx
      · rw [List.mem_singleton.mp hx]; exact hr
theorem gatFold_ok {p n : Nat} : ∀ {l : List (List Nat)} {st : GSt}, RowsOk p n st.1 → RowsOk p n st.2 → RowsOk p n l → RowsOk p n (l.foldl gatStep st).1 ∧ RowsOk p n (l.foldl gatStep st).2
  | [], _, h1, h2, _ => ⟨h1, h2⟩
  | r :: l, st, h1, h2, h => by
    have hs := gatStep_ok (st := st) h1 h2 (h r List.mem_cons_self)
    exact gatFold_ok (l := l) hs.1 hs.2 fun x hx => h x (List.mem_cons_of_mem _ hx)
theorem gatStep_len {st : GSt} {r : List Nat} : st.1.length ≤ (gatStep st r).1.length ∧ (gatStep st r).1.length ≤ st.1.length + 1 ∧ (gatStep st r).2.length ≤ st.2.length + 1 := by
  unfold gatStep
  split
  · exact ⟨Nat.le_refl _, Nat.le_succ _, Nat.le_succ _⟩
  · refine ⟨?_, ?_, ?_⟩ <;> simp only [List.length_append, List.length_singleton] <;> omega
theorem gatFold_len : ∀ (l : List (List Nat)) (st : GSt), st.1.length ≤ (l.foldl gatStep st).1.length ∧ (l.foldl gatStep st).1.length ≤ st.1.length + l.length ∧ (l.foldl gatStep st).2.length ≤ st.2.length + l.length
  | [], _ => ⟨Nat.le_refl _, Nat.le_refl _, Nat.le_refl _⟩
  | r :: l, st => by
    have h1 := gatStep_len (st := st) (r := r)
    have h2 := gatFold_len l (gatStep st r)
    rw [List.foldl_cons, List.length_cons]
    omega
theorem gatTo_ok {p : Nat} (hp : PrP p) {r : List Nat} (h : RowOk p r) : ∀ n, (RowsOk p r.length (gatTo p r n).1 ∧ RowsOk p r.length (gatTo p r n).2) ∧ 0 < (gatTo p r n).1.length ∧ (gatTo p r n).1.length ≤ 1 + 4 * n ∧ (gatTo p r n).2.length ≤ 1 + 4 * n
  | 0 => by
    have : RowsOk p r.length [r] := fun x hx => by rw [List.mem_singleton.mp hx]; exact ⟨h, rfl⟩
    exact ⟨⟨this, this⟩, Nat.one_pos, Nat.le_refl _, Nat.le_refl _⟩
  | n + 1 => by
    obtain ⟨⟨h1, h2⟩, h3, h4, h5⟩ := gatTo_ok hp h n
    show (RowsOk p r.length (gatTurn p (gatTo p r n)).1 ∧ RowsOk p r.length (gatTurn p (gatTo p r n)).2) ∧ 0 < (gatTurn p (gatTo p r n)).1.length ∧ (gatTurn p (gatTo p r n)).1.length ≤ _ ∧ (gatTurn p (gatTo p r n)).2.length ≤ _
    unfold gatTurn
    split
    · exact ⟨⟨h1, h2⟩, h3, by omega, by omega⟩
    · rename_i hne
      have hlast : lastR (gatTo p r n).2 ∈ (gatTo p r n).2 := by
        have e := last_app hne
        generalize lastR (gatTo p r n).2 = L at e
        rw [e]
        exact List.mem_append_right _ (List.mem_singleton_self _)
      obtain ⟨ho, hlw⟩ := h2 _ hlast
      have hf := gatFold_ok (l := nxtF p (lastR (gatTo p r n).2)) (st := ((gatTo p r n).1, (gatTo p r n).2.dropLast)) h1 h2.drop (nxt_ok hp ho hlw)
      have hl := gatFold_len (nxtF p (lastR (gatTo p r n).2)) ((gatTo p r n).1, (gatTo p r n).2.dropLast)
      have h4' : (nxtF p (lastR (gatTo p r n).2)).length = 4 := rfl
      simp only [List.length_dropLast] at hl
      exact ⟨hf, by omega, by omega, by omega⟩
structure GatOk (p : Nat) (r : List Nat) (N : Nat) : Prop where
  hp : PrP p
  row : RowOk p r
  two : 2 ≤ r.length
  few : N ≤ 4000
  stop : (gatTo p r N).2 = []
end Tw
end STwX5
section STwX6
set_option Elab.async false
set_option linter.all false
set_option maxRecDepth 100000
set_option maxHeartbeats 4000000
set_option pp.maxSteps 600
set_option pp.deepTerms false
/-! Promise of gather (2). -/
namespace Tw
open PySem PySem.Spec PyProof.Rows L2
/-- .. and the dict at z holds just these rows -/
def withDk (z : Addr) (ks : List (List Nat)) (R : Rs) : Rs := ⟨fun H0 v H => R.is H0 v H ∧ H z = some (.dT (keysN ks)), fun e0 ⟨h, q⟩ e => ⟨R.mono e0 h e, e.keep _ _ q (fun _ z => nomatch z)⟩⟩
theorem e_withDk {tb : Tb} {X : Cx} {G : List (Option Ty)} {a : Expr} {R : Rs} {Cf p : Nat} {z : Addr} {ks : List (List Nat)} (j : Nat) (hL : G[j]? = some (some (tFam Cf p z ks))) (h : EV tb X G a R) : EV tb X G a (withDk z ks R) := fun σ H t f Q k => h σ H t f Q fun v H' e hv => by
  obtain ⟨v0, _, _, hx⟩ := f.get hL
  exact k v H' e ⟨hv, e.keep _ _ hx (fun _ z => nomatch z)⟩
theorem Ex.undelD {tb : Tb} {H H' : Hp} {z : Addr} {u : HO} {ks : List (List Key × V)} (t : Tbl tb H) (hz : H z = some u) (hu : NotC u) (e : Ex tb (Tw.del H z) H') (h : H' z = some (.dT ks)) : Ex tb (upd H z (.dT ks)) H' := by
  refine ⟨fun b o q n => ?_, fun b q => ?_, fun _ => e.tab (t.del hz hu)⟩
  · by_cases w : b = z
    · rw [w, upd_same] at q
      rw [w, h]; exact q
    · rw [upd_ne w] at q
      exact e.keep b o (by rw [del_ne w]; exact q) n
  · have w : b ≠ z := fun w => by rw [w, h] at q; cases q
    rw [upd_ne w, ← del_ne (H := H) w]
    exact e.dom b q
/-- gather: the family's dict grows -/
def spGather (tb : Tb) (Cf : Addr) : Sp := fun vs H Q _ => ∃ (p : Nat) (r : List Nat) (N : Nat) (z : Addr) (v : V), vs = [v] ∧ GatOk p r N ∧ (tFam Cf p z [r]).is v H ∧ Tbl tb H ∧
  ∀ (v' : V) (H' : Hp), (kPair (headN p (gatTo p r N).1, chN p / (gatTo p r N).1.length)).is v' H' → Ex tb (upd H z (.dT (keysN (gatTo p r N).1))) H' → Q v' H'
section
variable {P : Program} {w : World} {K : PySem.W.Frag} {mg : Str → Option Value} {base : Heap} {tb : Tb} {Cf : Addr}
abbrev nGather : List Str := ["self", "waiting", "row", "head"]
theorem sc_gather : FnScope nGather ["self"] (defScope sGather) := ⟨rfl, rfl, rfl, by decide +kernel, rfl, by decide +kernel, by decide +kernel⟩
theorem gather_body {A : Around} {outer : List Env} {s : Shared} {f c : Addr} {E : XK} {H H0 : Hp} {z : Addr} {p N : Nat} {r : List Nat} {D : Ends} (B : Tx K mg) (Ff : FamF K mg Cf) (TB : LamX.TabB base mg c tb.L) (hne : tb.P ≠ tb.L) (hq : tb.q = ("Family.gather.<locals>." : Str) ++ "<lambda>")
    (Fn : Mth tb P w K mg base Cf "next_rows" 2 (pmNextRows Cf)) (Fp : DF P w K mg base tb "poly_number" 1 pmPolyNumber) (Fc : DF P w K mg base tb "changes_in" 1 pmChangesIn) (hr : Room 3 (A.deeper (envOfC "Family.gather" (defScope sGather) s.heap.objs.size f (.ref c)))) (h0 : H0 z = none) (ok : GatOk p r N)
    (hD : ∀ v H', Ex tb H0 H' → (withDk z (gatTo p r N).1 (val (kPair (headN p (gatTo p r N).1, chN p / (gatTo p r N).1.length)).ty)).is H0 v H' → D.rt v H') :
    BK tb (cxOf CX0 P w K mg base nGather "Family.gather" (defScope sGather) f (.ref c) A outer s H E).nox H0 [some (tFam Cf p z [r]), none, none, none] [] (defBody sGather) D := by
  have nd := sc_gather.nd
  have hp := ok.hp
  have hpl := hp.le
  obtain ⟨q1, h1⟩ := Ff.s1
  obtain ⟨q2, h2⟩ := Ff.s2
  refine b_new (Ts := [r].map kRow) nd 1 (e_listD rfl B.list (e_rows (e_v 0 rfl) Ff.sc h2)) fun y hy hyo _ => ?_
  have hyz : y ∉ [z] := hyo.at (i := 0) rfl
  refine b_while (fun n => [some (tFam Cf p z (gatTo p r n).1), some (tL y ((gatTo p r n).2.map kRow)), none, none]) (fun n => n ≤ N) (fun n => N - n) (fun n => !decide ((gatTo p r n).2 = [])) 0 (Nat.zero_le _) ⟨rfl, rfl, trivial⟩ (fun n _ => t_neRows hr (EV.anyL (e_v 1 rfl))) ?_ ?_
  · intro n hn hlt
    have hws : (gatTo p r n).2 ≠ [] := by simpa using hlt
    have hnN : n < N := by
      refine Nat.lt_of_le_of_ne hn fun e => hws ?_
      rw [e]; exact ok.stop
    obtain ⟨⟨o1, o2⟩, l0, l1, l2⟩ := gatTo_ok hp ok.row n
    have hfew := ok.few
    have etur : gatTo p r (n + 1) = (nxtF p (lastR (gatTo p r n).2)).foldl gatStep ((gatTo p r n).1, (gatTo p r n).2.dropLast) := by
      show gatTurn p (gatTo p r n) = _
      unfold gatTurn
      rw [if_neg hws]
    have hlast := last_app hws
    generalize gatTo p r n = st at hws o1 o2 l0 l1 l2 etur hlast
    obtain ⟨ks, ws⟩ := st
    have hws : ws ≠ [] := hws
    have o1 : RowsOk p r.length ks := o1
    have o2 : RowsOk p r.length ws := o2
    have l1 : ks.length ≤ 1 + 4 * n := l1
    have l2 : ws.length ≤ 1 + 4 * n := l2
    have etur2 : gatTo p r (n + 1) = (nxtF p (lastR ws)).foldl gatStep (ks, ws.dropLast) := etur
    have hlast2 : ws = ws.dropLast ++ [lastR ws] := hlast
    clear etur hlast
    generalize lastR ws = w0 at hlast2 etur2
    generalize ws.dropLast = wd at hlast2 etur2
    subst hlast2
    have hw0 := o2 w0 (List.mem_append_right _ (List.mem_singleton_self _))
    have o3 : RowsOk p r.length wd := fun x hx => o2 x (List.mem_append_left _ hx)
    rw [List.length_append, List.length_singleton] at l2
    have two := ok.two
    have eG : (wd ++ [w0]).map kRow = wd.map kRow ++ [kRow w0] := by rw [List.map_append]; rfl
    show BK tb _ H0 [some (tFam Cf p z ks), some (tL y ((wd ++ [w0]).map kRow)), none, none] [] _ _
    rw [eG]
    have hL4 : (nxtF p w0).length = 4 := rfl
    refine b_forM nd 2 (i_pop (K := kRow w0) (Ts := wd.map kRow) (Us := (nxtF p w0).map kRow) 1 rfl hy ⟨hyz, trivial⟩ trivial Fn Ff.sc (hr.mono (by decide)) ((p, z), w0) ⟨hp, hw0.1, by show 2 ≤ w0.length; omega⟩ (e_fam (e_v 0 rfl)) (e_v 1 rfl) rfl rfl)
      (fun i (_ : Unit) => [some (tFam Cf p z (((nxtF p w0).take i).foldl gatStep (ks, wd)).1), some (tL y ((((nxtF p w0).take i).foldl gatStep (ks, wd)).2.map kRow)), none, none]) (fun _ _ => True) () trivial ⟨rfl, rfl, trivial⟩ ?_ ?_
    · intro gv off i T _ hi hT _
      obtain ⟨rfl, hi2⟩ := rows_at hT
      rw [List.length_map] at hi
      generalize hR : (nxtF p w0).getD i [] = R at hi2
      have hsn := fold_snoc gatStep (ks, wd) hi2
      have hlen := gatFold_len ((nxtF p w0).take i) (ks, wd)
      have htl : ((nxtF p w0).take i).length ≤ 4 := by rw [List.length_take]; omega
      generalize ((nxtF p w0).take i).foldl gatStep (ks, wd) = st at hsn hlen
      obtain ⟨k1, w1⟩ := st
      have hlen1 : k1.length ≤ ks.length + ((nxtF p w0).take i).length := hlen.2.1
      have hlen2 : w1.length ≤ wd.length + ((nxtF p w0).take i).length := hlen.2.2
      have od1 : OffD z (gv ++ []) := OffD.app (D := []) trivial (off 0 _ z rfl (List.mem_singleton_self _))
      have od2 : OffD y (gv ++ []) := OffD.app (D := []) trivial (off 1 _ y rfl (List.mem_singleton_self _))
      refine b_when (t_notinD hr (e_v 2 rfl) (e_rows (e_v 0 rfl) Ff.sc h2)) (fun h => ?_) fun h => ?_
      · have h : ¬ R ∈ k1 := by simpa using h
        have e1 : gatStep (k1, w1) R = (k1 ++ [R], w1 ++ [R]) := by unfold gatStep; rw [if_neg h]
        rw [e1] at hsn
        have e2 : putR k1 R = k1 ++ [R] := by unfold putR; rw [if_neg h]
        refine b_dput (z := z) (T := tFam Cf p z) hr 0 rfl (fun _ _ _ h => h.2) (fun _ _ _ _ h => tFam_put h) h0 ⟨ne1' hyz, nm, trivial⟩ od1 e_b (e_rows (e_v 0 rfl) Ff.sc h2) (e_v 2 rfl) (show k1.length < 16000000 by omega) ?_
        rw [e2]
        refine b_app (z := y) (K := kRow R) 1 rfl hy ⟨hyz, nm, trivial⟩ od2 (by rw [List.length_map]; show w1.length < 16000000; omega) (e_v 1 rfl) (e_v 2 rfl) ?_
        refine b_then (b_fall fun _ _ g => ⟨(), trivial, g.wk ⟨by rw [hsn], ?_, trivial⟩⟩)
        rw [hsn]
        show some (tL y (w1.map kRow ++ [kRow R])) = some (tL y ((w1 ++ [R]).map kRow))
        rw [List.map_append]
        rfl
      · have h : R ∈ k1 := by simpa using h
        have e1 : gatStep (k1, w1) R = (k1, w1) := by unfold gatStep; rw [if_pos h]
        rw [e1] at hsn
        exact b_fall fun _ _ g => ⟨(), trivial, g.wk ⟨by rw [hsn], by rw [hsn], trivial⟩⟩
    · intro _ _
      rw [List.length_map, List.take_length, ← etur2]
      exact b_fall fun _ _ g => ⟨n + 1, hnN, by omega, g⟩
  · intro n hn hstop
    have hws : (gatTo p r n).2 = [] := by simpa using hstop
    have eN : gatTo p r N = gatTo p r n := by
      have := gat_stop hws (N - n)
      rw [show n + (N - n) = N by omega] at this
      exact this
    rw [eN] at hD
    obtain ⟨⟨o1, o2⟩, l0, l1, l2⟩ := gatTo_ok hp ok.row n
    have hfew := ok.few
    generalize (gatTo p r n).1 = ks at hD o1 l0 l1
    generalize (gatTo p r n).2 = ws at hws
    have hks : ks ≠ [] := List.length_pos_iff.mp l0
    refine b_set nd 3 (T := (kRow (headN p ks)).ty) (e_minKey (c := c) (z := z) (i := 0) (k := 1) (p := p) (x := "row") (y := "self") (KS := kFam Cf p z) hne TB rfl hq ?_ rfl rfl (fun _ _ h => h.1) hks (e_rows (e_v 0 rfl) Ff.sc h2) B.min rfl (fun _ _ _ _ _ _ => rfl) hr ?_) ?_
    · exact ⟨rfl, rfl, rfl, rfl, rfl, by decide +kernel, by decide +kernel, by decide +kernel, by decide +kernel, rfl⟩
    · intro s' H' f' c' r' hr' hrm
      exact e_call Fp hrm (p, r') (by show p ≤ 31; omega) (ea_v (e_attr (Ts := famTs p z) (e_v 1 rfl) Ff.sc h1 rfl) (ea_v (e_v 0 rfl) ea_nil))
    · refine b_ret (e_withDk 0 rfl (e_tup (em_cons (K := kRow (headN p ks)) (e_v 3 rfl) (em_cons (K := kN (chN p / ks.length)) (e_div (e_call Fc (hr.mono (by decide)) p hp (ea_v (e_attr (Ts := famTs p z) (e_fam (e_v 0 rfl)) Ff.sc h1 rfl) ea_nil)) (e_lenD B.len (e_rows (e_v 0 rfl) Ff.sc h2)) l0 (by omega)) em_nil)))) hD
theorem ok_gather {f c : Addr} {fd : FuncData} (B : Tx K mg) (Ff : FamF K mg Cf) (hc : fd.code = .ref c) (TB : LamX.TabB base mg c tb.L) (hne : tb.P ≠ tb.L) (hq : tb.q = ("Family.gather.<locals>." : Str) ++ "<lambda>")
    (Fn : Mth tb P w K mg base Cf "next_rows" 2 (pmNextRows Cf)) (Fp : DF P w K mg base tb "poly_number" 1 pmPolyNumber) (Fc : DF P w K mg base tb "changes_in" 1 pmChangesIn) (F : Fun K "gather" "Family.gather" sGather f fd) : FnOk P w K mg base CX0 4 f fd ["self"] (spGather tb Cf) := by
  refine fun_okC F sc_gather hc (fun vs H Q E h => ?_) (fun A outer s H vs Q E hr h => ?_)
  · obtain ⟨p, r, N, z, v, rfl, _⟩ := h
    rfl
  · obtain ⟨p, r, N, z, v, rfl, ok, hf, ht, hQ⟩ := h
    refine ⟨RB _ _, pss_RB, ?_⟩
    have hz : H z = some (.dT (keysN [r])) := hf.2
    refine gather_body (z := z) (p := p) (N := N) (r := r) B Ff TB hne hq Fn Fp Fc hr (del_same (H := H)) ok (fun v H' e ⟨h1, h2⟩ => hQ v H' h1 (Ex.undelD ht hz notC_dT e h2)) _ _ ⟨Ex.del ht, ht, ?_, trivial⟩
    exact ⟨⟨_, rfl, hf⟩, trivial⟩
end
end Tw
end STwX6
section STwX7
set_option Elab.async false
set_option linter.all false
set_option maxRecDepth 100000
set_option maxHeartbeats 4000000
set_option pp.maxSteps 600
set_option pp.deepTerms false
/-! Promise of families. -/
namespace Tw
open PySem PySem.Spec PyProof.Rows L2
/-! ### mirrors -/
theorem numR_trim {p : Nat} : ∀ l : List Nat, numR p (trimN l) = numR p l
  | [] => rfl
  | a :: l => by
    have ih := numR_trim (p := p) l
    unfold trimN
    show _ = numR p l * p + a
    rw [← ih]
    cases h : trimN l with
    | nil =>
      show numR p (if a = 0 then [] else [a]) = 0 * p + a
      split
      · rename_i z
        rw [z, Nat.zero_mul]
        rfl
      · rfl
    | cons b t => rfl
theorem numR_dig {p : Nat} (hp : 2 ≤ p) (n : Nat) : numR p (digN p n) = n := by
  induction n using Nat.strongRecOn with
  | ind n ih =>
    by_cases hn : n = 0
    · subst hn; rfl
    · rw [digN_step hp hn]
      show numR p (digN p (n / p)) * p + n % p = n
      rw [ih (n / p) (Nat.div_lt_self (by omega) (by omega))]
      rw [Nat.mul_comm]
      exact Nat.div_add_mod n p
def polN (p n : Nat) : List Nat := trimN (digN p n)
theorem polN_pos {p n : Nat} (hp : 2 ≤ p) (hn : 0 < n) : 0 < (polN p n).length := by
  refine List.length_pos_iff.mpr fun e => ?_
  have h := numR_trim (p := p) (digN p n)
  rw [numR_dig hp, show trimN (digN p n) = [] from e] at h
  have h : 0 = n := h
  omega
def famTake (p g : Nat) (known : List (List Nat)) (n : Nat) : Bool := decide (2 * g < (polN p n).length - 1) && (!decide (formN (polN p n) g ∈ known) && sqfN p (polN p n))
def famStep (p g : Nat) (L : List Nat → List (List Nat)) (st : LSt) (n : Nat) : LSt :=
  if famTake p g st.1 n = true then (mergeR st.1 (L (formN (polN p n) g)), st.2 ++ [(trimN (headN p (L (formN (polN p n) g))), chN p / (L (formN (polN p n) g)).length)]) else st
def famTo (p g : Nat) (L : List Nat → List (List Nat)) : Nat → LSt
  | 0 => ([], [])
  | k + 1 => famStep p g L (famTo p g L k) (p + k)
def hRow (r : List Nat) : Int := reduceHash (Builtin.Tuple.tupleHashOf (r.map fun n : Nat => hashInt (n : Int)))
theorem apart_of {P : Program} {w : World} {ms : List (List Nat)} (h : (ms.map hRow).Nodup) : HashApart P w (ms.map keyN) := by
  unfold HashApart
  rw [List.map_map]
  have e : ((fun k => (tupleKind (mixKind P w)).hash k) ∘ keyN) = hRow := by
    funext r
    show reduceHash (Builtin.Tuple.tupleHashOf ((keyN r).map (keyH w))) = hRow r
    unfold keyN hRow
    rw [List.map_map]
    rfl
  rw [e]
  exact h
/-- a family's rows -/
def rowsN (p N : Nat) (r : List Nat) : List (List Nat) := (gatTo p r N).1
structure StepOk (p N : Nat) (known : List (List Nat)) (r : List Nat) : Prop where
  stop : (gatTo p r N).2 = []
  lo : 2 ≤ (trimN (headN p (rowsN p N r))).length
  sq : sqfN p (trimN (headN p (rowsN p N r))) = true
  apart : known ≠ [] ∨ ((rowsN p N r).map hRow).Nodup
structure FamOk (p g N : Nat) : Prop where
  hp : PrP p
  hg : g ≤ 2
  cv : cvN p g ≤ 100000
  ch : chN p ≤ 100000
  sz : p ^ (2 * g + 3) ≤ 4000
  few : N ≤ 500
  step : ∀ k, k < p ^ (2 * g + 3) - p → famTake p g (famTo p g (rowsN p N) k).1 (p + k) = true → StepOk p N (famTo p g (rowsN p N) k).1 (formN (polN p (p + k)) g)
def famN (p g N : Nat) : List (List Nat × Nat) := (famTo p g (rowsN p N) (p ^ (2 * g + 3) - p)).2
theorem rowsN_ok {p N : Nat} (hp : PrP p) (hN : N ≤ 500) {r : List Nat} (h : RowOk p r) : RowsOk p r.length (rowsN p N r) ∧ 0 < (rowsN p N r).length ∧ (rowsN p N r).length ≤ 2001 := by
  obtain ⟨⟨h1, _⟩, h2, h3, _⟩ := gatTo_ok hp h N
  exact ⟨h1, h2, by show (gatTo p r N).1.length ≤ 2001; omega⟩
theorem famTo_len {p g : Nat} {L : List Nat → List (List Nat)} : ∀ k, (∀ i, i < k → famTake p g (famTo p g L i).1 (p + i) = true → (L (formN (polN p (p + i)) g)).length ≤ 2001) → (famTo p g L k).1.length ≤ 2001 * k ∧ (famTo p g L k).2.length ≤ k
  | 0, _ => ⟨Nat.zero_le _, Nat.zero_le _⟩
  | k + 1, hL => by
    obtain ⟨h1, h2⟩ := famTo_len k fun i hi => hL i (by omega)
    have hk := hL k (by omega)
    show (famStep p g L (famTo p g L k) (p + k)).1.length ≤ _ ∧ (famStep p g L (famTo p g L k) (p + k)).2.length ≤ _
    generalize famTo p g L k = st at h1 h2 hk
    unfold famStep
    split
    · rename_i ht
      have h3 := hk ht
      have h4 := mergeR_len (ks := st.1) (L (formN (polN p (p + k)) g))
      refine ⟨?_, ?_⟩
      · show (mergeR st.1 _).length ≤ _
        omega
      · show (st.2 ++ [_]).length ≤ _
        rw [List.length_append, List.length_singleton]
        omega
    · exact ⟨by omega, by omega⟩
/-- gather as a method -/
structure MthG (tb : Tb) (P : Program) (w : World) (K : PySem.W.Frag) (mg : Str → Option Value) (base : Heap) (Cf : Addr) (k : Nat) : Prop where
  ex : ∃ g, Meth K Cf "gather" g ∧ PySem.W.fnIn K g = true ∧ FnR P w K mg base CX0 k g (spGather tb Cf)
section
variable {tb : Tb} {X : Cx} {H0 : Hp} {G : List (Option Ty)} {D : List (V × Ty)} {e o : Expr} {pos p' : Pos} {x y : Str} {rest : List Stmt} {E : Ends} {Cf p k : Nat} {ks : List (List Nat)}
theorem b_newFam (nd : X.N.Nodup) (i : Nat) (he : EV tb X G e (newFam Cf p ks)) (kk : ∀ z, H0 z = none → Off z G → OffD z D → BK tb X H0 (G.set i (some (tFam Cf p z ks))) D rest E) (hi : X.N[i]? = some x := by rfl) (hx : Loc X.env.scope x := by first | exact Or.inl rfl | exact Or.inr rfl) (hs : swapsWith e (some (.Name x p')) pos.line X.env = pure false := by rfl)
    (hf : X.fn x = true ∨ X.env.scope.names.lookup x = some .local := by first | exact .inl rfl | exact .inr rfl) : BK tb X H0 G D (.Assign [.Name x p'] e pos :: rest) E :=
  bk_of fun σ H g => toS (ps_set nd hi hx pe_RE hs hf) (he σ H g.tab g.fit _ fun v H' e' ⟨z, hz, hT⟩ => kk z (g.ex.dom z hz) (off_new (fun o q => by rw [hz] at q; cases q) g.fit) (offD_new (fun o q => by rw [hz] at q; cases q) g.more) _ _ ((g.step e').set (T := tFam Cf p z ks) hT))
/-- a, b = o.gather(), o in slot l -/
theorem b_gather {r : List Nat} {N : Nat} {z : Addr} {px py pt apos : Pos} {kt : Nat} (nd : X.N.Nodup) (l i j : Nat) (hL : G[l]? = some (some (tFam Cf p z [r]))) (h0 : H0 z = none) (f : Off z (G.set l none)) (fd : OffD z D) (F : MthG tb X.prog X.w X.K X.mg X.base Cf k) (c : SlX.SCls X.K Cf) (hr : Room k X.A) (ok : GatOk p r N)
    (ho : EV tb X G o (val (tFam Cf p z [r]))) (kk : BK tb X H0 (((G.set l (some (tFam Cf p z (rowsN p N r)))).set i (some (kRow (headN p (rowsN p N r))).ty)).set j (some (tN (chN p / (rowsN p N r).length)))) D rest E)
    (hc : X.calm = true := by rfl) (hi : X.N[i]? = some x := by rfl) (hj : X.N[j]? = some y := by rfl)
    (hx : Loc X.env.scope x := by first | exact Or.inl rfl | exact Or.inr rfl) (hy : Loc X.env.scope y := by first | exact Or.inl rfl | exact Or.inr rfl) (hfx : X.fn x = true ∨ X.env.scope.names.lookup x = some .local := by first | exact .inl rfl | exact .inr rfl) (hfy : X.fn y = true ∨ X.env.scope.names.lookup y = some .local := by first | exact .inl rfl | exact .inr rfl)
    (hss : swapsWithSole [.Tuple [.Name x px, .Name y py] kt pt] (.Call (.Attribute o "gather" apos) [] [] p') pos.line X.env = pure false := by rfl) (hw : swappedStores [.Tuple [.Name x px, .Name y py] kt pt] (.Call (.Attribute o "gather" apos) [] [] p') X.env = pure none := by rfl) (h1 : (assignEach [.Tuple [.Name x px, .Name y py] kt pt] X.env).map (·.2) = [assign (.Tuple [.Name x px, .Name y py] kt pt) X.env] := by rfl)
    (hs1 : (assignEach [.Name x px, .Name y py] X.env).map (·.2) = assign (.Name x px) X.env :: (assignEach [.Name y py] X.env).map (·.2) := by rfl) (hs2 : (assignEach [.Name y py] X.env).map (·.2) = assign (.Name y py) X.env :: (assignEach [] X.env).map (·.2) := by rfl)
    (hn : (assignEach [.Name x px, .Name y py] X.env).length = 2 := by rfl) (hst : (assignEach [.Name x px, .Name y py] X.env).findIdx? (·.1) = none := by rfl)
    {pl : Sem Bool} (ht : eval (.Call (.Attribute o "gather" apos) [] [] p') X.env = (do
      let ov ← eval o X.env
      standAt apos.atName
      let (f, first) ← holding [ov] (getMethod ov "gather" pl)
      callWith p' f first (backTo p' (starEach [] X.env)) (backToKw p' (keywordEach [] X.env))) := by rfl) : BK tb X H0 G D (.Assign [.Tuple [.Name x px, .Name y py] kt pt] (.Call (.Attribute o "gather" apos) [] [] p') pos :: rest) E := by
  obtain ⟨gg, hm, _, F⟩ := F.ex
  refine bk_of fun σ H g => toS (ps_asg (SlX.pe_methSl0 pe_RE c hm F hr pass0 ht) (pg_tup hc (pgs_cons (pg_name nd hi hx hfx) (pgs_cons (pg_name nd hj hy hfy) pgs_nil hs2) hs1) hn hst) hss hw h1) (ho σ H g.tab g.fit _ fun v H1 e1 hv => ?_)
  have g1 := g.step e1
  obtain ⟨y0, dx, vs, ev, hs, _⟩ := kIns_slt hv.1
  refine ⟨y0, dx, vs, ev, hs, p, r, N, z, v, rfl, ok, hv, g1.tab, fun v' H' hpair hE => ?_⟩
  obtain ⟨v0, w1, w2⟩ := g1.fit.get hL
  have g4 : En tb H0 (G.set l none) D (σ.set l (some v0)) H1 := ⟨g1.ex, g1.tab, g1.fit.clear l, g1.more⟩
  have g5 := g4.mut (o := .dT (keysN (rowsN p N r))) h0 w2.2 rfl notC_dT f fd
  have g6 := g5.set (T := tFam Cf p z (rowsN p N r)) (v := v0) (i := l) (tFam_put w2)
  rw [List.set_set, List.set_set, set_same w1] at g6
  have g7 := g6.step hE
  obtain ⟨qa, xs, eq', hq, hA⟩ := hpair
  match xs, hA with
  | [u, w'], ⟨k1, k2, _⟩ => exact ⟨qa, [u, w'], eq', SqT.of hq, rfl, u, [w'], rfl, w', [], rfl, rfl, kk _ _ ((g7.set (T := (kRow (headN p (rowsN p N r))).ty) k1).set (T := tN (chN p / (rowsN p N r).length)) k2)⟩
end
end Tw
end STwX7
section STwX8
set_option Elab.async false
set_option linter.all false
set_option maxRecDepth 100000
set_option maxHeartbeats 4000000
set_option pp.maxSteps 600
set_option pp.deepTerms false
/-! Promise of families (2). -/
namespace Tw
open PySem PySem.Spec PyProof.Rows L2
section
variable {P : Program} {w : World} {K : PySem.W.Frag} {mg : Str → Option Value} {base : Heap} {tb : Tb} {Cp Cc Cf : Addr}
abbrev nFamilies : List Str := ["prime", "genus", "known", "found", "number", "poly", "row", "family", "head", "many"]
theorem sc_families : FnScope nFamilies ["prime", "genus"] (defScope sFamilies) := ⟨rfl, rfl, rfl, by decide +kernel, rfl, by decide +kernel, by decide +kernel⟩
def pmFamilies (Cp Cc : Addr) (N : Nat) : Prm (Nat × Nat) := ⟨fun a => [ag (tN a.1), ag (tN a.2)], fun a => FamOk a.1 a.2 N, fun a => val (tT ((famN a.1 a.2 N).map (kCP Cp Cc a.1)))⟩
theorem ok_families {f : Addr} {fd : FuncData} {N : Nat} (B : Tx K mg) (Pc : PolyF K mg Cp) (Ff : FamF K mg Cf) (Fq : DF P w K mg base tb "require_prime" 3 pmReqPrime) (Fcn : DF P w K mg base tb "require_count" 3 pmReqCount) (Fi : DF P w K mg base tb "curves_in" 2 pmCurvesIn) (Fch : DF P w K mg base tb "changes_in" 1 pmChangesIn) (Fr : DF P w K mg base tb "raised" 1 pmRaised)
    (Fa : DF P w K mg base tb "poly_at" 6 (pmPolyAt Cp)) (Fo : DF P w K mg base tb "form_row" 3 (pmFormRow Cp)) (Fg : Prp tb P w K mg base Cp "degree" 1 (pmPDegree Cp)) (Fs : DF P w K mg base tb "is_square_free" 10 (pmSqf Cp)) (Fm : DefI tb P w K mg base "Family" Cf 4 (pmFam Cf)) (Fga : MthG tb P w K mg base Cf 4) (Fc : DF P w K mg base tb "curve_of" 13 (pmCurveOf Cp Cc))
    (F : Fun K "families" "families" sFamilies f fd) : FN P w K mg base tb 14 f fd ["prime", "genus"] (pmFamilies Cp Cc N) := by
  refine fun_tw F sc_families (fun _ => rfl) ?_
  rintro ⟨p, g⟩ cdv A outer s H0 E as D ok hr ht hD hX
  have ok : FamOk p g N := ok
  have hp := ok.hp
  have hpl := hp.le
  have hg := ok.hg
  have hpr : PrOk p := by unfold PrOk; rcases hp with h | h | h <;> omega
  have nd := sc_families.nd
  have hsz := ok.sz
  obtain ⟨t1, g1⟩ := B.maxFamily
  obtain ⟨t2, g2⟩ := B.maxListed
  obtain ⟨qr, hrows⟩ := Ff.s2
  have hD : ∀ v H', Ex tb H0 H' → (val (tT ((famN p g N).map (kCP Cp Cc p)))).is H0 v H' → D.rt v H' := hD
  have hstep := ok.step
  have hfew := ok.few
  have hrow : ∀ k, k < p ^ (2 * g + 3) - p → RowOk p (polN p (p + k)) ∧ (polN p (p + k)).length ≤ 2 * g + 3 ∧ RowOk p (formN (polN p (p + k)) g) ∧ (formN (polN p (p + k)) g).length = 2 * g + 3 := fun k hk => by
    have hl : (digN p (p + k)).length ≤ 2 * g + 3 := digN_len (by omega) _ _ (by omega)
    have hr1 : RowOk p (digN p (p + k)) := ⟨digN_lt (by omega) _, by omega⟩
    have hr2 : RowOk p (polN p (p + k)) := hr1.trim
    have hl2 : (polN p (p + k)).length ≤ 2 * g + 3 := Nat.le_trans (trim_len _) hl
    refine ⟨hr2, hl2, formN_ok (by omega) hr2 (by omega), ?_⟩
    unfold formN
    rw [List.length_append, List.length_replicate]
    omega
  have hlenF : ∀ k, k ≤ p ^ (2 * g + 3) - p → (famTo p g (rowsN p N) k).1.length ≤ 2001 * k ∧ (famTo p g (rowsN p N) k).2.length ≤ k := fun k hk => famTo_len k fun i hi _ => (rowsN_ok hp hfew (hrow i (by omega)).2.2.1).2.2
  have hfin : famN p g N = (famTo p g (rowsN p N) (p ^ (2 * g + 3) - p)).2 := rfl
  rw [hfin] at hD
  generalize hnum : p ^ (2 * g + 3) - p = num at hstep hrow hlenF hD
  show BK tb _ H0 [some (tN p), some (tN g), none, none, none, none, none, none, none, none] [] _ _
  refine b_expr (e_call Fq (hr.mono (by decide)) p hpr (ea_v (e_v 0 rfl) ea_nil)) ?_
  refine b_expr (e_call Fcn (hr.mono (by decide)) (g, 0, 3) ⟨Nat.zero_le _, by show g ≤ 3; omega, by show g < _; omega⟩ (ea_v (e_v 1 rfl) (ea_v (e_n 0) (ea_v (e_g (v := .int 3) g2 ⟨_, rfl⟩) ea_nil)))) ?_
  refine b_skip (t_or (d := false) (d' := false) (EVT.cast (t_gt (n := cvN p g) (m := 100000) (e_call Fi (hr.mono (by decide)) (p, g) ⟨hpr, by show g ≤ 3; omega⟩ (ea_v (e_v 0 rfl) (ea_v (e_v 1 rfl) ea_nil))) (e_g (v := .int 100000) g1 ⟨_, rfl⟩)) (decide_eq_false (by have := ok.cv; omega))) fun _ => EVT.cast (t_gt (n := chN p) (m := 100000) (e_call Fch (hr.mono (by decide)) p hp (ea_v (e_v 0 rfl) ea_nil)) (e_g (v := .int 100000) g1 ⟨_, rfl⟩)) (decide_eq_false (by have := ok.ch; omega))) ?_
  refine b_parDL (ks := []) (Us := ([] : List (List Nat × Nat)).map (kCP Cp Cc p)) nd 2 3 e_newD (e_lst em_nil) fun zk zf hk0 hko _ hf0 hfo _ hne => ?_
  have hne2 : zk ∉ [zf] := ne1' hne
  refine b_for nd 4 (i_range2 (n := p) (m := p ^ (2 * g + 3)) B.range (e_v 0 rfl) (e_call Fr (hr.mono (by decide)) (p, 2 * g + 3) ⟨by show p < _; omega, by show 2 * g + 3 < _; omega⟩ (R := val (tN (p ^ (2 * g + 3)))) (ea_v (e_v 0 rfl) (ea_v (e_add (e_mul (n := 2) (e_n 2) (e_v 1 rfl) (.inl (by decide))) (e_n 3)) ea_nil))) ⟨by omega, by omega⟩)
    (fun k (_ : Unit) => [some (tN p), some (tN g), some (tD zk (famTo p g (rowsN p N) k).1), some (tL zf ((famTo p g (rowsN p N) k).2.map (kCP Cp Cc p))), none, none, none, none, none, none]) (fun _ _ => True) () trivial ⟨rfl, rfl, rfl, rfl, trivial⟩ ?_ ?_
  · intro gv off k T _ hk hT _
    rw [rangeK_len, hnum] at hk
    obtain ⟨rfl, _⟩ := rangeK_at hT
    obtain ⟨o1, o2, o3, o4⟩ := hrow k hk
    obtain ⟨l1, l2⟩ := hlenF k (by omega)
    have hst := hstep k hk
    have hsucc : famTo p g (rowsN p N) (k + 1) = famStep p g (rowsN p N) (famTo p g (rowsN p N) k) (p + k) := rfl
    have hpos : 0 < (polN p (p + k)).length := polN_pos (by omega) (by omega)
    have hten : p + k < p ^ 10 := by
      have h1 : p ^ (2 * g + 3) ≤ p ^ 10 := Nat.pow_le_pow_right (by omega) (by omega)
      omega
    have htr : Tr (polN p (p + k)) := trim_tr _
    generalize famTo p g (rowsN p N) k = st at l1 l2 hst hsucc
    obtain ⟨ks, fs⟩ := st
    have l1 : ks.length ≤ 2001 * k := l1
    have l2 : fs.length ≤ k := l2
    have od1 : OffD zk (gv ++ []) := OffD.app (D := []) trivial (off 2 _ zk rfl (List.mem_singleton_self _) nm)
    have od2 : OffD zf (gv ++ []) := OffD.app (D := []) trivial (off 3 _ zf rfl (List.mem_singleton_self _) nm)
    refine b_set nd 5 (T := (kPoly Cp p (polN p (p + k))).ty) (e_call Fa (hr.mono (by decide)) (p, p + k) ⟨hp, hten⟩ (ea_v (e_v 0 rfl) (ea_v (e_v 4 rfl) ea_nil))) ?_
    have hsx : famStep p g (rowsN p N) (ks, fs) (p + k) = if famTake p g ks (p + k) = true then (mergeR ks (rowsN p N (formN (polN p (p + k)) g)), fs ++ [(trimN (headN p (rowsN p N (formN (polN p (p + k)) g))), chN p / (rowsN p N (formN (polN p (p + k)) g)).length)]) else (ks, fs) := rfl
    rw [hsx] at hsucc
    have htk : famTake p g ks (p + k) = (decide (2 * g < (polN p (p + k)).length - 1) && (!decide (formN (polN p (p + k)) g ∈ ks) && sqfN p (polN p (p + k)))) := rfl
    have hst : famTake p g ks (p + k) = true → StepOk p N ks (formN (polN p (p + k)) g) := hst
    generalize famTake p g ks (p + k) = take at htk hst hsucc
    generalize polN p (p + k) = pol at *
    refine b_set nd 6 (T := tRow (formN pol g)) (e_call Fo (hr.mono (by decide)) ((p, pol), g) ⟨o2, by show g ≤ 3; omega⟩ (ea_v (e_v 5 rfl) (ea_v (e_v 1 rfl) ea_nil))) ?_
    generalize formN pol g = row at *
    have hne3 : pol ≠ [] := List.length_pos_iff.mp hpos
    refine b_when (d := take) (EVT.cast (t_w (w_and (t_gt (e_prop Fg Pc.sc (hr.mono (by decide)) (p, pol) hpos (Ts := polyTs p pol) (R := val (tN (pol.length - 1))) (e_v 5 rfl)) (e_mul (n := 2) (e_n 2) (e_v 1 rfl) (.inl (by decide)))) fun _ => w_and (t_notinD hr (e_v 6 rfl) (e_v 2 rfl)) fun _ => w_and1 (t_val (e_call Fs (hr.mono (by decide)) (p, pol) ⟨hp, o1, hne3, htr⟩ (R := val (tB (sqfN p pol))) (ea_v (e_v 5 rfl) ea_nil))))) htk.symm) (fun h => ?_) fun h => ?_
    · have hS := hst h
      rw [if_pos h] at hsucc
      obtain ⟨w1, w2, w3⟩ := rowsN_ok hp hfew o3
      have hgat : GatOk p row N := ⟨hp, o3, by omega, by omega, hS.stop⟩
      have hml := mergeR_len (ks := ks) (rowsN p N row)
      have hap := hS.apart
      have hlo := hS.lo
      have hsq := hS.sq
      have hhead : RowOk p (headN p (rowsN p N row)) ∧ (headN p (rowsN p N row)).length = row.length := by
        refine w1 _ ?_
        unfold headN
        have hb := best_le (bestF p (rowsN p N row)) ((rowsN p N row).length - 1)
        exact List.mem_of_getElem? (getD_row (by omega))
      have hcur : CurveOk p (trimN (headN p (rowsN p N row))) := ⟨hp, hhead.1.trim, hlo, by have := trim_len (headN p (rowsN p N row)); omega, trim_tr _, hsq⟩
      refine b_newFam (Cf := Cf) (p := p) (ks := [row]) nd 7 (e_make Fm (hr.mono (by decide)) (p, row) hp (ea_v (e_v 0 rfl) (ea_v (e_v 6 rfl) ea_nil))) fun z hz hzo _ => ?_
      have hzk : zk ∉ [z] := ne1' (hzo.at (i := 2) rfl)
      have hzf : zf ∉ [z] := ne1' (hzo.at (i := 3) rfl)
      have odz : OffD z (gv ++ []) := by
        rename_i hzd
        exact hzd
      refine b_gather (k := 4) (N := N) (r := row) (z := z) nd 7 8 9 rfl hz ⟨nm, nm, ne1' hzk, ne1' hzf, nm, nm, nm, trivial⟩ odz Fga Ff.sc (hr.mono (by decide)) hgat (e_v 7 rfl) ?_
      refine b_upd (hpe := fun h1 h2 => pe_bm PySem.F.plainAttrs_dict PySem.F.slot_dict_update PySem.F.type_dict_update (mt_updT (hu_of hr)) h1 h2) (z2 := z) hr 2 rfl hk0 ⟨nm, nm, hne2, nm, nm, nm, hzk, nm, nm, trivial⟩ od1 (e_v 2 rfl) (e_rows (e_v 7 rfl) Ff.sc hrows) hzk (by omega) (hap.imp_right apart_of) ?_
      refine b_app (z := zf) (K := kCP Cp Cc p (trimN (headN p (rowsN p N row)), chN p / (rowsN p N row).length)) 3 rfl hf0 ⟨nm, nm, hne, nm, nm, nm, hzf, nm, nm, trivial⟩ od2 (by rw [List.length_map]; omega) (e_v 3 rfl) (e_tup (em_cons (K := kCurve Cp Cc p (trimN (headN p (rowsN p N row)))) (e_call Fc hr (p, headN p (rowsN p N row)) ⟨hhead.1, hcur⟩ (ea_v (e_v 0 rfl) (ea_v (e_v 8 rfl) ea_nil))) (em_cons (K := kN (chN p / (rowsN p N row).length)) (e_v 9 rfl) em_nil))) ?_
      refine b_then (b_fall fun _ _ g => ⟨(), trivial, g.wk ⟨rfl, rfl, by rw [hsucc], ?_, trivial⟩⟩)
      rw [hsucc]
      show some (tL zf (fs.map (kCP Cp Cc p) ++ [_])) = some (tL zf ((fs ++ [_]).map (kCP Cp Cc p)))
      rw [List.map_append]
      rfl
    · rw [if_neg (by rw [h]; decide)] at hsucc
      exact b_fall fun _ _ g => ⟨(), trivial, g.wk ⟨rfl, rfl, by rw [hsucc], by rw [hsucc], trivial⟩⟩
  · intro _ _
    rw [rangeK_len, hnum]
    exact b_ret (e_tupL B.tuple (e_v 3 rfl)) hD
end
end Tw
end STwX8
section STwY1
set_option Elab.async false
set_option linter.all false
set_option maxRecDepth 100000
set_option maxHeartbeats 4000000
set_option pp.maxSteps 600
set_option pp.deepTerms false
/-! Promise of a pick. -/
namespace Tw
open PySem PySem.Spec PyProof.Rows L2
def sixN : List (Nat × Nat) := [(3, 0), (3, 1), (3, 2), (5, 0), (5, 1), (7, 0)]
abbrev kPG (q : Nat × Nat) : Im := kT [kN q.1, kN q.2]
/-- a pick of the six -/
def spPick (tb : Tb) : Sp := fun vs H Q _ => ∃ (z y : Addr) (l m : Nat), vs = [.ref z, .ref y] ∧ H z = some (.lst [.int (l : Int), .int (m : Int), .int ((0 : Nat) : Int)]) ∧ m < 2 ^ 70 ∧ (tL y (sixN.map kPG)).is (.ref y) H ∧ z ≠ y ∧ Tbl tb H ∧
  ∀ (q : Nat × Nat) (v : V) (xs : List V) (H' : Hp), q ∈ sixN → (kPG q).is v H' → Ex tb (upd H z (.lst xs)) H' → Q v H'
section
variable {P : Program} {w : World} {K : PySem.W.Frag} {mg : Str → Option Value} {base : Heap} {tb : Tb}
theorem sc_lPick : FnScope ["_law_dice_here", "_law_items"] ["_law_dice_here", "_law_items"] (defScope sLPick) := ⟨rfl, rfl, rfl, by decide +kernel, rfl, by decide +kernel, by decide +kernel⟩
/-- a def of the module's with a promise of its own -/
structure DefS (P : Program) (w : World) (K : PySem.W.Frag) (mg : Str → Option Value) (base : Heap) (x : Str) (k : Nat) (sp : Sp) : Prop where
  ex : ∃ (f : Addr) (fd : FuncData) (ps : List Str), FnOk P w K mg base CX0 k f fd ps sp ∧ mg x = some (.ref f) ∧ PySem.W.keepIn K (.ref f) = true ∧ Binds K fd ps []
theorem ok_lPick {f : Addr} {fd : FuncData} (B : Tx K mg) (Fr : DefS P w K mg base "_law_roll" 1 (spRoll tb)) (F : Fun K "_law_pick" "_law_pick" sLPick f fd) : FnOk P w K mg base CX0 2 f fd ["_law_dice_here", "_law_items"] (spPick tb) := by
  refine F.ok sc_lPick (fun vs H Q E h => ?_) (fun cdv A outer s H vs Q E hr h => ?_)
  · obtain ⟨z, y, l, m, rfl, _⟩ := h
    rfl
  · obtain ⟨z, y, l, m, rfl, hz, hm, hy, hzy, ht, hQ⟩ := h
    obtain ⟨g, gd, gp, Fg, hmg, hk, hb⟩ := Fr.ex
    refine ⟨_, pss_cons (ps_ret (pe_ix ix_list pe_RE (pe_call Fg hr rfl hmg hk hb .nil pass0 (pa_cons pe_RE (pa_cons pe_RE pa_nil))) (fun _ _ => rfl))) pss_nil, ?_⟩
    have fit : Fit H [some (tLx z [.int (l : Int), .int (m : Int), .int ((0 : Nat) : Int)] [kN l, kN m, kN 0]), some (tL y (sixN.map kPG))] [some (.ref z), some (.ref y)] := ⟨⟨_, rfl, rfl, hz, rfl, rfl, rfl, trivial⟩, ⟨_, rfl, hy⟩, trivial⟩
    refine (e_v (T := tL y (sixN.map kPG)) 1 rfl) _ H ht fit _ fun v1 H1 e1 h1 => ?_
    refine (e_v (T := tLx z [.int (l : Int), .int (m : Int), .int ((0 : Nat) : Int)] [kN l, kN m, kN 0]) 0 rfl) _ H1 (e1.tab ht) (fit.ex e1) _ fun v2 H2 e2 h2 => ?_
    refine (e_lenL B.len (e_v (T := tL y (sixN.map kPG)) 1 rfl)) _ H2 ((e1.trans e2).tab ht) (fit.ex (e1.trans e2)) _ fun v3 H3 e3 h3 => ?_
    have h2' : v2 = .ref z := h2.1
    have h3' : v3 = .int ((6 : Nat) : Int) := h3
    have h1' : v1 = .ref y := h1.1
    subst h2' h3' h1'
    have E3 := (e1.trans e2).trans e3
    have hz3 : H3 z = some (.lst [.int (l : Int), .int (m : Int), .int ((0 : Nat) : Int)]) := E3.keep _ _ hz (fun _ z => nomatch z)
    refine ⟨z, l, m, rfl, hz3, hm, E3.tab ht, fun i xs H' hi e' => ?_⟩
    have hy3 := (tL y (sixN.map kPG)).ex E3 hy
    have hyU : (tL y (sixN.map kPG)).is (.ref y) (upd H3 z (.lst xs)) := (tL y (sixN.map kPG)).mono (upd_kept hz3 rfl (fun w => hzy (List.mem_singleton.mp w))) hy3
    obtain ⟨_, ys, hys, hA⟩ := (tL y (sixN.map kPG)).ex e' hyU
    obtain ⟨q, hq⟩ : ∃ q, sixN[i]? = some q := ⟨sixN[i]'hi, List.getElem?_eq_getElem hi⟩
    obtain ⟨v, hv, hk'⟩ := hA.at (i := i) (T := kPG q) (by rw [List.getElem?_map, hq]; rfl)
    refine ⟨y, ys, (i : Int), v, rfl, rfl, SqL.of hys, atI_nat hv, ?_⟩
    refine hQ q v xs H' (List.mem_of_getElem? hq) hk' ?_
    refine Ex.trans ⟨fun b o e n => ?_, fun b e => ?_, fun t => ?_⟩ e'
    · by_cases hb : b = z
      · rw [hb, upd_same] at e
        rw [hb, upd_same]; exact e
      · rw [upd_ne hb] at e
        rw [upd_ne hb]
        exact E3.keep b o e n
    · have hb : b ≠ z := fun w => by rw [w, upd_same] at e; cases e
      rw [upd_ne hb] at e
      rw [upd_ne hb]
      exact E3.dom b e
    · exact (E3.tab ht).upd fun u e => by rw [hz3] at e; cases e; exact notC_lst
end
end Tw
end STwY1
section STwY2
set_option Elab.async false
set_option linter.all false
set_option maxRecDepth 100000
set_option maxHeartbeats 4000000
set_option pp.maxSteps 600
set_option pp.deepTerms false
/-! Promise of the law. -/
namespace Tw
open PySem PySem.Spec PyProof.Rows L2
/-- what is to be reckoned for a prime and a genus -/
structure PlainOk (p g N : Nat) : Prop where
  lt : LtOk (p, g)
  fam : FamOk p g N
  same : famN p g N = lotsN p g
  many : ManyOk (lotsN p g)
  count : cvN p g = partsN p (lotsN p g)
  share : shareN p g (lotsN p g) (lotsN p g) = true
section
variable {tb : Tb} {X : Cx} {H0 : Hp} {G : List (Option Ty)} {D : List (V × Ty)} {e : Expr} {es : List Expr} {pos p' : Pos} {x y : Str} {rest : List Stmt} {E : Ends} {k : Nat}
theorem b_dice (nd : X.N.Nodup) (i : Nat) (he : EV tb X G e newDice) (kk : ∀ z l m, H0 z = none → Off z G → OffD z D → m < 2 ^ 70 → BK tb X H0 (G.set i (some (tL z [kN l, kN m, kN 0]))) D rest E) (hi : X.N[i]? = some x := by rfl) (hx : Loc X.env.scope x := by first | exact Or.inl rfl | exact Or.inr rfl) (hs : swapsWith e (some (.Name x p')) pos.line X.env = pure false := by rfl)
    (hf : X.fn x = true ∨ X.env.scope.names.lookup x = some .local := by first | exact .inl rfl | exact .inr rfl) : BK tb X H0 G D (.Assign [.Name x p'] e pos :: rest) E :=
  bk_of fun σ H g => toS (ps_set nd hi hx pe_RE hs hf) (he σ H g.tab g.fit _ fun v H' e' ⟨l, m, ⟨z, hz, hT⟩, hm⟩ => kk z l m (g.ex.dom z hz) (off_new (fun o q => by rw [hz] at q; cases q) g.fit) (offD_new (fun o q => by rw [hz] at q; cases q) g.more) hm _ _ ((g.step e').set hT))
/-- a, b = pick(dice, six) -/
theorem b_pick {z : Addr} {l m : Nat} {px py pt pn : Pos} {kt : Nat} {fx : Str} {a b : Expr} (nd : X.N.Nodup) (d i j : Nat) (hL : G[d]? = some (some (tL z [kN l, kN m, kN 0]))) (h0 : H0 z = none) (f : Off z (G.set d none)) (fd : OffD z D) (hm : m < 2 ^ 70) (F : DefS X.prog X.w X.K X.mg X.base fx k (spPick tb)) (hr : Room k X.A)
    (ha : EV tb X G a (val (tL z [kN l, kN m, kN 0]))) (hb : EV tb X G b (newL (sixN.map kPG))) (kk : ∀ q ∈ sixN, BK tb X H0 (((G.set d none).set i (some (tN q.1))).set j (some (tN q.2))) D rest E) (hij : i ≠ d := by decide) (hjd : j ≠ d := by decide)
    (hg : Gl X fx := by rfl) (hdb : (fx == ("__debug__" : Str)) = false := by decide) (hsa : starEach [a, b] X.env = (false, eval a X.env) :: starEach [b] X.env := by rfl) (hsb : starEach [b] X.env = (false, eval b X.env) :: starEach [] X.env := by rfl) (hpl : (backTo p' (starEach [b] X.env)).any (·.1) = false := by rfl)
    (hc : X.calm = true := by rfl) (hi : X.N[i]? = some x := by rfl) (hj : X.N[j]? = some y := by rfl)
    (hx : Loc X.env.scope x := by first | exact Or.inl rfl | exact Or.inr rfl) (hy : Loc X.env.scope y := by first | exact Or.inl rfl | exact Or.inr rfl) (hfx : X.fn x = true ∨ X.env.scope.names.lookup x = some .local := by first | exact .inl rfl | exact .inr rfl) (hfy : X.fn y = true ∨ X.env.scope.names.lookup y = some .local := by first | exact .inl rfl | exact .inr rfl)
    (hss : swapsWithSole [.Tuple [.Name x px, .Name y py] kt pt] (.Call (.Name fx pn) [a, b] [] p') pos.line X.env = pure false := by rfl) (hw : swappedStores [.Tuple [.Name x px, .Name y py] kt pt] (.Call (.Name fx pn) [a, b] [] p') X.env = pure none := by rfl) (h1 : (assignEach [.Tuple [.Name x px, .Name y py] kt pt] X.env).map (·.2) = [assign (.Tuple [.Name x px, .Name y py] kt pt) X.env] := by rfl)
    (hs1 : (assignEach [.Name x px, .Name y py] X.env).map (·.2) = assign (.Name x px) X.env :: (assignEach [.Name y py] X.env).map (·.2) := by rfl) (hs2 : (assignEach [.Name y py] X.env).map (·.2) = assign (.Name y py) X.env :: (assignEach [] X.env).map (·.2) := by rfl)
    (hn : (assignEach [.Name x px, .Name y py] X.env).length = 2 := by rfl) (hst : (assignEach [.Name x px, .Name y py] X.env).findIdx? (·.1) = none := by rfl) : BK tb X H0 G D (.Assign [.Tuple [.Name x px, .Name y py] kt pt] (.Call (.Name fx pn) [a, b] [] p') pos :: rest) E := by
  obtain ⟨fa, fd', ps, F, hmg, hk, hbi⟩ := F.ex
  refine bk_of fun σ H g => toS (ps_asg (pe_call F hr hg hmg hk hbi .nil pass0 (pa_cons pe_RE (pa_cons pe_RE pa_nil hsb) hsa) hdb hsa hpl) (pg_tup hc (pgs_cons (pg_name nd hi hx hfx) (pgs_cons (pg_name nd hj hy hfy) pgs_nil hs2) hs1) hn hst) hss hw h1) (ha σ H g.tab g.fit _ fun v H1 e1 hv => hb σ H1 (e1.tab g.tab) (g.fit.ex e1) _ fun u H2 e2 hu => ?_)
  obtain ⟨yy, hyn, hu⟩ := hu
  have g2 := g.step (e1.trans e2)
  obtain ⟨ev, xs, hxs, hA⟩ := _root_.id hv
  have eu : u = .ref yy := hu.1
  subst ev eu
  have hzy : z ≠ yy := fun w => by rw [w, hyn] at hxs; cases hxs
  have hz2 : H2 z = some (.lst [.int (l : Int), .int (m : Int), .int ((0 : Nat) : Int)]) := by
    match xs, hA with
    | [a1, a2, a3], ⟨b1, b2, b3, _⟩ =>
      have b1 : a1 = .int (l : Int) := b1
      have b2 : a2 = .int (m : Int) := b2
      have b3 : a3 = .int ((0 : Nat) : Int) := b3
      subst b1 b2 b3
      exact e2.keep _ _ hxs (fun _ z => nomatch z)
  refine ⟨z, yy, l, m, rfl, hz2, hm, hu, hzy, g2.tab, fun q v xs' H' hq hkq hE => ?_⟩
  obtain ⟨v0, w1, w2⟩ := g2.fit.get hL
  have g4 : En tb H0 (G.set d none) D (σ.set d (some v0)) H2 := ⟨g2.ex, g2.tab, g2.fit.clear d, g2.more⟩
  rw [set_same w1] at g4
  have g5 := g4.mut (o := .lst xs') h0 hz2 rfl notC_lst f fd
  have g7 := g5.step hE
  obtain ⟨qa, ys, eq', hq', hA'⟩ := hkq
  match ys, hA' with
  | [u1, u2], ⟨k1, k2, _⟩ => exact ⟨qa, [u1, u2], eq', SqT.of hq', rfl, u1, [u2], rfl, u2, [], rfl, rfl, kk q hq _ _ ((g7.set (T := tN q.1) k1).set (T := tN q.2) k2)⟩
end
end Tw
end STwY2
section STwY3
set_option Elab.async false
set_option linter.all false
set_option maxRecDepth 100000
set_option maxHeartbeats 4000000
set_option pp.maxSteps 600
set_option pp.deepTerms false
/-! Promise of the law (2). -/
namespace Tw
open PySem PySem.Spec PyProof.Rows L2
theorem e_pg {tb : Tb} {X : Cx} {G : List (Option Ty)} {a b : Nat} {i j k : Nat} {p1 p2 p3 : Pos} : EV tb X G (.Tuple [.Constant (.int (a : Int)) i p1, .Constant (.int (b : Int)) j p2] k p3) (val (kPG (a, b)).ty) := e_tup (em_cons (K := kN a) (e_n a) (em_cons (K := kN b) (e_n b) em_nil))
theorem e_six {tb : Tb} {X : Cx} {G : List (Option Ty)} {a1 a2 a3 a4 a5 a6 : Expr} {pos : Pos} (h1 : EV tb X G a1 (val (kPG (3, 0)).ty)) (h2 : EV tb X G a2 (val (kPG (3, 1)).ty)) (h3 : EV tb X G a3 (val (kPG (3, 2)).ty)) (h4 : EV tb X G a4 (val (kPG (5, 0)).ty)) (h5 : EV tb X G a5 (val (kPG (5, 1)).ty)) (h6 : EV tb X G a6 (val (kPG (7, 0)).ty))
    (s1 : starEach [a1, a2, a3, a4, a5, a6] X.env = (false, eval a1 X.env) :: starEach [a2, a3, a4, a5, a6] X.env) (s2 : starEach [a2, a3, a4, a5, a6] X.env = (false, eval a2 X.env) :: starEach [a3, a4, a5, a6] X.env) (s3 : starEach [a3, a4, a5, a6] X.env = (false, eval a3 X.env) :: starEach [a4, a5, a6] X.env) (s4 : starEach [a4, a5, a6] X.env = (false, eval a4 X.env) :: starEach [a5, a6] X.env) (s5 : starEach [a5, a6] X.env = (false, eval a5 X.env) :: starEach [a6] X.env) (s6 : starEach [a6] X.env = (false, eval a6 X.env) :: starEach [] X.env) :
    EV tb X G (.List [a1, a2, a3, a4, a5, a6] pos) (newL (sixN.map kPG)) := e_lst (em_cons h1 (em_cons h2 (em_cons h3 (em_cons h4 (em_cons h5 (em_cons h6 em_nil s6) s5) s4) s3) s2) s1)
section
variable {P : Program} {w : World} {K : PySem.W.Frag} {mg : Str → Option Value} {base : Heap} {tb : Tb} {Cp Cc : Addr}
abbrev nLaw : List Str := ["_law_script", "_law_spot", "_law_dice_here", "_law_prime", "_law_genus_here", "_law_due", "_law_told", "_law_whole", "_law_head", "_law_many", "_law_row"]
theorem sc_law : FnScope nLaw ["_law_script"] (defScope sLaw) := ⟨rfl, rfl, rfl, by decide +kernel, rfl, by decide +kernel, by decide +kernel⟩
def pmLaw (K : PySem.W.Frag) : Prm (List Int) := ⟨fun ns => [agQ K (ns.map V.int)], fun _ => True, fun _ => val (tB true)⟩
theorem ok_law {f : Addr} {fd : FuncData} {N : Nat} (B : Tx K mg) (Pc : PolyF K mg Cp) (Cf : CurveF K mg Cp Cc) (plain : ∀ q ∈ sixN, PlainOk q.1 q.2 N) (Fd : DF P w K mg base tb "_law_dice" 1 (pmLDice K)) (Fp : DefS P w K mg base "_law_pick" 2 (spPick tb)) (Fl : DF P w K mg base tb "_law_lots" 7 pmLLots) (Ff : DF P w K mg base tb "families" 14 (pmFamilies Cp Cc N))
    (Fw : DF P w K mg base tb "_law_many_changes" 1 pmLMany) (Fn : DF P w K mg base tb "count_curves" 4 pmCurvesIn) (Fs : DF P w K mg base tb "_law_is_share" 5 (pmLShare Cp Cc)) (Fm : DF P w K mg base tb "mass" 4 pmMass) (Fr : DF P w K mg base tb "_law_raised" 1 pmRaised) (Fcf : Prp tb P w K mg base Cc "f" 1 (pmCurveF Cp Cc)) (Fe : Prp tb P w K mg base Cp "entries" 1 (pmPEntries Cp))
    (F : Fun K "law" "law" sLaw f fd) : FN P w K mg base tb 15 f fd ["_law_script"] (pmLaw K) := by
  refine fun_tw F sc_law (fun _ => rfl) ?_
  intro ns cdv A outer s H0 E as D _ hr ht hD hX
  have nd := sc_law.nd
  have ea : ∃ (zs : Addr) (qs : Bool), gam ((pmLaw K).args ns) as 10 = [some (tQ K zs (ns.map V.int) qs), none, none, none, none, none, none, none, none, none, none] := ⟨_, _, rfl⟩
  obtain ⟨zs, qs, ea⟩ := ea
  show BK tb _ H0 (gam ((pmLaw K).args ns) as 10) [] _ _
  rw [ea]
  refine b_for nd 1 (i_range1 B.range (e_n 1) (by decide)) (fun k (_ : Unit) => [some (tQ K zs (ns.map V.int) qs), none, none, none, none, none, none, none, none, none, none]) (fun _ _ => True) () trivial ⟨rfl, trivial⟩ ?_ ?_
  · intro gv off k T _ hk hT _
    rw [rangeK_len] at hk
    obtain ⟨rfl, _⟩ := rangeK_at hT
    have hk0 : k = 0 := by omega
    subst hk0
    refine b_dice nd 2 (e_call Fd (hr.mono (by decide)) ns trivial (R := newDice) (ea_cons (e_v 0 rfl) (fun _ _ _ q => agQ_at q) (ea_v (e_v 1 rfl) ea_nil))) fun z l m hz0 hzo hzd hm => ?_
    have hzs : z ∉ (tQ K zs (ns.map V.int) qs).fp := hzo.at (i := 0) rfl
    refine b_pick nd 2 3 4 rfl hz0 ⟨hzs, nm, trivial⟩ hzd hm Fp (hr.mono (by decide)) (e_v 2 rfl) ?_ fun q hq => ?_
    · refine e_six ?_ ?_ ?_ ?_ ?_ ?_ ?_ ?_ ?_ ?_ ?_ ?_
      · exact e_pg (a := 3) (b := 0)
      · exact e_pg (a := 3) (b := 1)
      · exact e_pg (a := 3) (b := 2)
      · exact e_pg (a := 5) (b := 0)
      · exact e_pg (a := 5) (b := 1)
      · exact e_pg (a := 7) (b := 0)
      all_goals rfl
    have pl := plain q hq
    obtain ⟨p, g⟩ := q
    have pl : PlainOk p g N := pl
    have hp : PrP p := pl.fam.hp
    have hpl := hp.le
    have hg : g ≤ 2 := pl.fam.hg
    have hpr : PrOk p := by unfold PrOk; rcases hp with h | h | h <;> omega
    have hmc := mcN_lt hp
    show BK tb _ H0 [some (tQ K zs (ns.map V.int) qs), some (tN (0 + 0)), none, some (tN p), some (tN g), none, none, none, none, none, none] _ _ _
    refine b_parLV (Ts := (lotsN p g).map kPair) (U := tT ((lotsN p g).map (kCP Cp Cc p))) nd 5 6 (e_call Fl (hr.mono (by decide)) (p, g) pl.lt (R := newL ((lotsN p g).map kPair)) (ea_v (e_v 3 rfl) (ea_v (e_v 4 rfl) ea_nil))) (e_call Ff (hr.mono (by decide)) (p, g) pl.fam (hR := by show val (tT ((famN p g N).map (kCP Cp Cc p))) = _; rw [pl.same]) (ea_v (e_v 3 rfl) (ea_v (e_v 4 rfl) ea_nil))) fun zd hd0 hdo _ => ?_
    have hmany := pl.many
    have hcount := pl.count
    have hshare := pl.share
    generalize lotsN p g = due at hmany hcount hshare
    obtain ⟨hdl, hdv⟩ := hmany
    refine b_skip (EVT.cast (t_nePairs (l := due) (m := due) hr (EV.any (EV.cast (R := newL (pick (due.map (kCP Cp Cc p)).length (fun _ => true) fun k => kPair ((due.getD k ([], 0)).1, (due.getD k ([], 0)).2))) (e_lc2 nd 8 9 (i_tup (e_v 6 rfl)) (fun k => kCurve Cp Cc p (due.getD k ([], 0)).1) (fun k => kN (due.getD k ([], 0)).2) (fun k T h => (cps_at h).1) (blk_of nLaw (defScope sLaw)) (fun _ => true) (fun k => kPair ((due.getD k ([], 0)).1, (due.getD k ([], 0)).2)) (fun _ _ _ _ _ _ _ _ _ => ts_nil) ?_ (by rw [List.length_map]; exact hdl)) ?_)) (EV.anyL (e_v 5 rfl))) (by simp)) ?_
    · intro s H' C cl fp k T hk hT _
      exact e_tup (em_cons (K := kRow (due.getD k ([], 0)).1) (e_prop Fe Pc.sc (hr.mono (by decide)) (p, (due.getD k ([], 0)).1) trivial (Ts := polyTs p (due.getD k ([], 0)).1) (R := val (tRow (due.getD k ([], 0)).1)) (e_prop Fcf Cf.sc (hr.mono (by decide)) (p, (due.getD k ([], 0)).1) trivial (Ts := curveTs Cp p (due.getD k ([], 0)).1) (e_v 8 rfl))) (em_cons (K := kN (due.getD k ([], 0)).2) (e_v 9 rfl) em_nil))
    · rw [List.length_map, pick_all due (fun q => kPair q) _ _ (fun _ _ => rfl) (fun i b hb => by rw [List.getD_eq_getElem?_getD, hb]; rfl)]
    refine b_set nd 7 (T := tN (mcN p)) (e_call Fw (hr.mono (by decide)) p hp (ea_v (e_v 3 rfl) ea_nil)) ?_
    refine b_skip (EVT.cast (t_ne (n := cvN p g) (m := (due.map fun q => mcN p / q.2).sum) (e_call Fn (hr.mono (by decide)) (p, g) ⟨hpr, by show g ≤ 3; omega⟩ (ea_v (e_v 3 rfl) (ea_v (e_v 4 rfl) ea_nil))) ?_) (by
      have e : cvN p g = (due.map fun q => mcN p / q.2).sum := hcount
      rw [decide_eq_true e]; rfl)) ?_
    · refine @e_sum _ _ _ _ _ _ (due.map fun q => mcN p / q.2) ?_ ?_ (EV.any ?_) ?_ ?_
      rotate_left 3
      · exact rfl
      · exact rfl
      · exact rfl
      · exact B.sum
      refine EV.cast (R := newL (pick (due.map kPair).length (fun _ => true) fun k => kN (mcN p / (due.getD k ([], 0)).2))) (e_lc2 nd 10 9 (i_list (e_v 5 rfl)) (fun k => kRow (due.getD k ([], 0)).1) (fun k => kN (due.getD k ([], 0)).2) (fun k T h => (pairs_at h).1) (blk_of nLaw (defScope sLaw)) (fun _ => true) (fun k => kN (mcN p / (due.getD k ([], 0)).2)) (fun _ _ _ _ _ _ _ _ _ => ts_nil) ?_ (by rw [List.length_map]; exact hdl)) ?_
      · intro s H' C cl fp k T hk hT _
        obtain ⟨_, hk2⟩ := pairs_at hT
        obtain ⟨m1, m2⟩ := hdv _ (List.mem_of_getElem? hk2)
        exact e_div (e_v 7 rfl) (e_v 9 rfl) m1 m2
      · rw [List.length_map, pick_all due (fun q => kN (mcN p / q.2)) _ _ (fun _ _ => rfl) (fun i b hb => by rw [List.getD_eq_getElem?_getD, hb]; rfl), List.map_map]
        rfl
    refine b_skip (t_not (d := true) (t_val (e_call Fs (hr.mono (by decide)) ((p, g), due, due) ⟨hp, hg, ⟨hdl, hdv⟩, hdl, hdv⟩ (R := val (tB true)) (ea_v (e_v 3 rfl) (ea_v (e_v 4 rfl) (ea_v (e_v 6 rfl) (ea_l (e_v 5 rfl) ea_nil)))) (hR := by show val (tB (shareN p g due due)) = _; rw [hshare])))) ?_
    exact b_fall fun _ _ g => ⟨(), trivial, g.wk ⟨rfl, trivial⟩⟩
  · intro _ _
    refine b_ret (EV.cast (e_and (d := true) (EV.cast (e_eqR (r := [27, 1]) (s := [27, 1]) hr (e_call Fm (hr.mono (by decide)) (3, 2) ⟨by unfold PrOk; decide, by decide⟩ (ea_v (e_n 3) (ea_v (e_n 2) ea_nil))) (e_tup (em_cons (K := kN 27) (e_n 27) (em_cons (K := kN 1) (e_n 1) em_nil)))) rfl) fun _ => e_one (e_eq (n := cvN 31 3) (m := 30 * (31 ^ 8 - 31 ^ 6)) (e_call Fn (hr.mono (by decide)) (31, 3) ⟨by unfold PrOk; decide, by decide⟩ (ea_v (e_n 31) (ea_v (e_n 3) ea_nil))) (e_mul (n := 30) (m := 31 ^ 8 - 31 ^ 6) (e_n 30) (e_sub (e_call Fr (hr.mono (by decide)) (31, 8) ⟨by decide, by decide⟩ (ea_v (e_n 31) (ea_v (e_n 8) ea_nil))) (e_call Fr (hr.mono (by decide)) (31, 6) ⟨by decide, by decide⟩ (ea_v (e_n 31) (ea_v (e_n 6) ea_nil))) (by decide)) (.inl (by decide))))) (val_eq (by decide +kernel))) hD
end
end Tw
end STwY3
section STwL1
set_option Elab.async false
set_option linter.all false
set_option maxRecDepth 100000
set_option maxHeartbeats 4000000
/-! The plain law (1): rows and their numbers, closures. -/
namespace Tw
/-! ### lists -/
theorem perm_of {α : Type} [DecidableEq α] : ∀ {l m : List α}, l.Nodup → m.Nodup → (∀ x, x ∈ l ↔ x ∈ m) → l.Perm m
  | [], m, _, _, h => by
    cases m with
    | nil => exact .nil
    | cons a t => exact absurd ((h a).mpr List.mem_cons_self) List.not_mem_nil
  | a :: l, m, h1, h2, h => by
    have ha : a ∈ m := (h a).mp List.mem_cons_self
    have hn := List.nodup_cons.mp h1
    refine .trans (List.Perm.cons a (perm_of hn.2 (h2.erase a) fun x => ?_)) (List.perm_cons_erase ha).symm
    rw [h2.mem_erase_iff]
    constructor
    · intro hx
      exact ⟨fun e => hn.1 (by rw [← e]; exact hx), (h x).mp (List.mem_cons_of_mem _ hx)⟩
    · rintro ⟨q1, q2⟩
      rcases List.mem_cons.mp ((h x).mpr q2) with e | q
      · exact absurd e q1
      · exact q
theorem few_of {α : Type} [DecidableEq α] : ∀ {l m : List α}, l.Nodup → (∀ x, x ∈ l → x ∈ m) → l.length ≤ m.length
  | [], _, _, _ => Nat.zero_le _
  | a :: l, m, h1, h => by
    have ha : a ∈ m := h a List.mem_cons_self
    have hn := List.nodup_cons.mp h1
    have := few_of (m := m.erase a) hn.2 fun x hx => (List.mem_erase_of_ne (fun e => hn.1 (by rw [← e]; exact hx))).mpr (h x (List.mem_cons_of_mem _ hx))
    rw [List.length_erase_of_mem ha] at this
    have := List.length_pos_of_mem ha
    rw [List.length_cons]
    omega
theorem nodup_of_map {α β : Type} (f : α → β) {l : List α} (h : (l.map f).Nodup) : l.Nodup :=
  (List.pairwise_map.mp h).imp fun q e => q (by rw [e])
theorem nodup_map {α β : Type} {f : α → β} : ∀ {l : List α}, (∀ a ∈ l, ∀ b ∈ l, f a = f b → a = b) → l.Nodup → (l.map f).Nodup
  | [], _, _ => .nil
  | a :: l, hf, h => by
    have hn := List.nodup_cons.mp h
    rw [List.map_cons]
    refine List.nodup_cons.mpr ⟨fun hm => ?_, nodup_map (fun x hx y hy => hf x (List.mem_cons_of_mem _ hx) y (List.mem_cons_of_mem _ hy)) hn.2⟩
    obtain ⟨b, h1, h2⟩ := List.mem_map.mp hm
    exact hn.1 (by rw [← hf b (List.mem_cons_of_mem _ h1) a List.mem_cons_self h2]; exact h1)
theorem nodup_snoc {α : Type} {l : List α} {a : α} (h : l.Nodup) (ha : a ∉ l) : (l ++ [a]).Nodup := by
  refine List.nodup_append.mpr ⟨h, List.nodup_cons.mpr ⟨List.not_mem_nil, .nil⟩, fun x hx y hy e => ?_⟩
  rw [List.mem_singleton.mp hy] at e
  exact ha (e ▸ hx)
/-! ### rows -/
theorem num_trim {p : Nat} : ∀ {r s : List Nat}, (∀ x ∈ r, x < p) → (∀ x ∈ s, x < p) → numR p r = numR p s → trimN r = trimN s
  | [], [], _, _, _ => rfl
  | [], b :: s, h1, h2, h => by
    have hb := h2 b List.mem_cons_self
    have h : 0 = numR p s * p + b := h
    have hb0 : b = 0 := by omega
    have hs : numR p s = 0 := by
      rcases Nat.eq_zero_or_pos (numR p s) with q | q
      · exact q
      · have := Nat.mul_pos q (show 0 < p by omega)
        omega
    have ih := num_trim (r := []) (s := s) h1 (fun x hx => h2 x (List.mem_cons_of_mem _ hx)) hs.symm
    show _ = trimN (b :: s)
    unfold trimN
    rw [← ih, hb0]
    rfl
  | a :: r, [], h1, h2, h => by
    have hb := h1 a List.mem_cons_self
    have h : numR p r * p + a = 0 := h
    have hb0 : a = 0 := by omega
    have hs : numR p r = 0 := by
      rcases Nat.eq_zero_or_pos (numR p r) with q | q
      · exact q
      · have := Nat.mul_pos q (show 0 < p by omega)
        omega
    have ih := num_trim (r := r) (s := []) (fun x hx => h1 x (List.mem_cons_of_mem _ hx)) h2 hs
    show trimN (a :: r) = _
    unfold trimN
    rw [ih, hb0]
    rfl
  | a :: r, b :: s, h1, h2, h => by
    have ha := h1 a List.mem_cons_self
    have hb := h2 b List.mem_cons_self
    have h : numR p r * p + a = numR p s * p + b := h
    have e1 : (numR p r * p + a) % p = a := by rw [Nat.mul_add_mod_self_right]; exact Nat.mod_eq_of_lt ha
    have e2 : (numR p s * p + b) % p = b := by rw [Nat.mul_add_mod_self_right]; exact Nat.mod_eq_of_lt hb
    have e : a = b := by rw [← e1, h, e2]
    subst e
    have e3 : numR p r = numR p s := Nat.eq_of_mul_eq_mul_right (show 0 < p by omega) (by omega)
    have ih := num_trim (fun x hx => h1 x (List.mem_cons_of_mem _ hx)) (fun x hx => h2 x (List.mem_cons_of_mem _ hx)) e3
    unfold trimN
    rw [ih]
theorem trim_pad : ∀ r : List Nat, r = trimN r ++ List.replicate (r.length - (trimN r).length) 0
  | [] => rfl
  | a :: r => by
    have ih := trim_pad r
    have hl := trim_len r
    unfold trimN
    cases h : trimN r with
    | nil =>
      rw [h] at ih
      have ih : r = List.replicate r.length 0 := by
        rw [List.nil_append] at ih
        exact ih
      show a :: r = (if a = 0 then [] else [a]) ++ _
      split
      · rename_i z
        rw [z]
        show 0 :: r = List.replicate (r.length + 1) 0
        rw [List.replicate_succ, ← ih]
      · show a :: r = a :: List.replicate (r.length + 1 - 1) 0
        rw [Nat.add_sub_cancel, ← ih]
    | cons b t =>
      rw [h] at ih hl
      show a :: r = a :: ((b :: t) ++ List.replicate (r.length + 1 - ((b :: t).length + 1)) 0)
      rw [Nat.add_sub_add_right, ← ih]
theorem num_inj {p : Nat} {r s : List Nat} (h1 : ∀ x ∈ r, x < p) (h2 : ∀ x ∈ s, x < p) (hl : r.length = s.length) (h : numR p r = numR p s) : r = s := by
  rw [trim_pad r, trim_pad s, num_trim h1 h2 h, hl]
theorem numR_app0 {p : Nat} : ∀ (r : List Nat) (n : Nat), numR p (r ++ List.replicate n 0) = numR p r
  | [], 0 => rfl
  | [], n + 1 => by
    show numR p (List.replicate n 0) * p + 0 = 0
    have := numR_app0 (p := p) [] n
    rw [List.nil_append] at this
    rw [this]
    show 0 * p + 0 = 0
    rw [Nat.zero_mul]
  | a :: r, n => by
    show numR p (r ++ List.replicate n 0) * p + a = numR p r * p + a
    rw [numR_app0 r n]
/-- rows of one length -/
structure VR (p L : Nat) (r : List Nat) : Prop where
  lt : ∀ x ∈ r, x < p
  len : r.length = L
theorem VR.inj {p L : Nat} {r s : List Nat} (h1 : VR p L r) (h2 : VR p L s) (h : numR p r = numR p s) : r = s := num_inj h1.lt h2.lt (by rw [h1.len, h2.len]) h
theorem VR.num_lt {p L : Nat} {r : List Nat} (hp : 0 < p) (h : VR p L r) : numR p r < p ^ L := by rw [← h.len]; exact numR_lt hp r h.lt
/-- the digits, all L of them -/
def dgN (p : Nat) : Nat → Nat → List Nat
  | 0, _ => []
  | L + 1, n => n % p :: dgN p L (n / p)
theorem dgN_ok {p : Nat} (hp : 0 < p) : ∀ L n, VR p L (dgN p L n)
  | 0, _ => ⟨fun _ h => (List.not_mem_nil h).elim, rfl⟩
  | L + 1, n => by
    obtain ⟨h1, h2⟩ := dgN_ok hp L (n / p)
    refine ⟨fun x hx => ?_, by show (dgN p L (n / p)).length + 1 = _; rw [h2]⟩
    rcases List.mem_cons.mp hx with rfl | hx
    · exact Nat.mod_lt _ hp
    · exact h1 x hx
theorem dgN_num {p : Nat} (hp : 0 < p) : ∀ L n, n < p ^ L → numR p (dgN p L n) = n
  | 0, n, h => by
    have h : n < 1 := h
    show 0 = n
    omega
  | L + 1, n, h => by
    show numR p (dgN p L (n / p)) * p + n % p = n
    rw [dgN_num hp L (n / p) (Nat.div_lt_of_lt_mul (by rw [Nat.mul_comm]; exact h)), Nat.mul_comm]
    exact Nat.div_add_mod n p
theorem dgN_of {p L : Nat} {r : List Nat} (hp : 0 < p) (h : VR p L r) : dgN p L (numR p r) = r := (dgN_ok hp L _).inj h (dgN_num hp L _ (h.num_lt hp))
theorem polN_num {p : Nat} (hp : 2 ≤ p) (n : Nat) : numR p (polN p n) = n := by unfold polN; rw [numR_trim, numR_dig hp]
theorem polN_lt {p : Nat} (hp : 2 ≤ p) (n : Nat) : ∀ x ∈ polN p n, x < p := fun x hx => digN_lt hp n x (trim_sub _ x hx)
theorem trim_app0 (r : List Nat) : ∀ n, trimN (r ++ List.replicate n 0) = trimN r
  | 0 => by rw [List.replicate_zero, List.append_nil]
  | n + 1 => by rw [List.replicate_succ', ← List.append_assoc, trimN_snoc0, trim_app0 r n]
theorem trim_trim (r : List Nat) : trimN (trimN r) = trimN r := by
  have h := congrArg trimN (trim_pad r)
  rw [trim_app0] at h
  exact h.symm
theorem polN_trim {p n : Nat} : trimN (polN p n) = polN p n := trim_trim _
/-- a row without zeros at its end is its number's -/
theorem polN_of {p : Nat} (hp : 2 ≤ p) {r : List Nat} (h : ∀ x ∈ r, x < p) (ht : trimN r = r) : polN p (numR p r) = r := by
  have := num_trim (polN_lt hp (numR p r)) h (polN_num hp _)
  rw [polN_trim, ht] at this
  exact this
theorem polN_dg {p L n : Nat} (hp : 2 ≤ p) (hn : n < p ^ L) : polN p n = trimN (dgN p L n) := by
  have := num_trim (polN_lt hp n) (dgN_ok (by omega) L n).lt (by rw [polN_num hp, dgN_num (by omega) L n hn])
  rwa [polN_trim] at this
theorem formN_dg {p g n : Nat} (hp : 2 ≤ p) (hn : n < p ^ (2 * g + 3)) : formN (polN p n) g = dgN p (2 * g + 3) n := by
  have h := trim_pad (dgN p (2 * g + 3) n)
  rw [← polN_dg hp hn, (dgN_ok (show 0 < p by omega) (2 * g + 3) n).len] at h
  exact h.symm
theorem polN_short {p L n : Nat} (hp : 2 ≤ p) (hn : n < p ^ L) : (polN p n).length ≤ L := by
  rw [polN_dg hp hn]
  have := trim_len (dgN p L n)
  rw [(dgN_ok (show 0 < p by omega) L n).len] at this
  exact this
/-! ### closures -/
/-- what a start leads to -/
def Reach {α : Type} (nx : α → List α) (r x : α) : Prop := ∀ C : α → Prop, C r → (∀ y, C y → ∀ z ∈ nx y, C z) → C x
theorem Reach.self {α : Type} {nx : α → List α} {r : α} : Reach nx r r := fun _ h _ => h
theorem Reach.step {α : Type} {nx : α → List α} {r x y : α} (h : Reach nx r x) (hy : y ∈ nx x) : Reach nx r y := fun C h1 h2 => h2 x (h C h1 h2) y hy
/-- a list of all that a start leads to, each once -/
structure Whole {α : Type} (nx : α → List α) (r : α) (ks : List α) : Prop where
  nd : ks.Nodup
  to : ∀ x ∈ ks, Reach nx r x
  self : r ∈ ks
  cl : ∀ x ∈ ks, ∀ y ∈ nx x, y ∈ ks
theorem Whole.all {α : Type} {nx : α → List α} {r : α} {ks : List α} (h : Whole nx r ks) {x : α} : x ∈ ks ↔ Reach nx r x := ⟨h.to x, fun q => q (· ∈ ks) h.self h.cl⟩
theorem Whole.perm {α : Type} [DecidableEq α] {nx : α → List α} {r : α} {ks ms : List α} (h : Whole nx r ks) (h' : Whole nx r ms) : ks.Perm ms := perm_of h.nd h'.nd fun x => h.all.trans h'.all.symm
end Tw
end STwL1
section STwL2
set_option Elab.async false
set_option linter.all false
set_option maxRecDepth 100000
set_option maxHeartbeats 4000000
/-! The plain law (2): depth first and breadth first find the same. -/
namespace Tw
open PySem
/-- a turn's new finds -/
structure Adds {α : Type} (l ks ws ks' ws' : List α) : Prop where
  keep : ∀ x ∈ ks, x ∈ ks'
  new : ∀ x ∈ l, x ∈ ks'
  back : ∀ x ∈ ks', x ∈ ks ∨ (x ∈ l ∧ x ∈ ws')
  wk : ∀ x ∈ ws', x ∈ ws ∨ x ∈ ks'
  wkeep : ∀ x ∈ ws, x ∈ ws'
  nd : ks.Nodup → ks'.Nodup
  len : ks'.length + ws.length = ks.length + ws'.length
theorem Adds.nil {α : Type} {ks ws : List α} : Adds [] ks ws ks ws := ⟨fun _ h => h, fun _ h => (List.not_mem_nil h).elim, fun _ h => .inl h, fun _ h => .inl h, fun _ h => h, fun h => h, rfl⟩
theorem Adds.old {α : Type} {l ks ws ks' ws' : List α} {a : α} (ha : a ∈ ks) (h : Adds l ks ws ks' ws') : Adds (a :: l) ks ws ks' ws' :=
  ⟨h.keep, fun x hx => by
    rcases List.mem_cons.mp hx with rfl | hx
    · exact h.keep _ ha
    · exact h.new x hx, fun x hx => (h.back x hx).imp id fun q => ⟨List.mem_cons_of_mem _ q.1, q.2⟩, h.wk, h.wkeep, h.nd, h.len⟩
theorem Adds.cons {α : Type} {l ks ws k1 w1 ks' ws' : List α} {a : α} (ha : a ∉ ks) (hk : ∀ x, x ∈ k1 ↔ x = a ∨ x ∈ ks) (hw : ∀ x, x ∈ w1 ↔ x = a ∨ x ∈ ws) (hn : ks.Nodup → k1.Nodup) (l1 : k1.length = ks.length + 1) (l2 : w1.length = ws.length + 1) (h : Adds l k1 w1 ks' ws') : Adds (a :: l) ks ws ks' ws' :=
  ⟨fun x hx => h.keep x ((hk x).mpr (.inr hx)), fun x hx => by
    rcases List.mem_cons.mp hx with rfl | hx
    · exact h.keep _ ((hk _).mpr (.inl rfl))
    · exact h.new x hx, fun x hx => by
    rcases h.back x hx with q | q
    · rcases (hk x).mp q with rfl | q
      · exact .inr ⟨List.mem_cons_self, h.wkeep _ ((hw _).mpr (.inl rfl))⟩
      · exact .inl q
    · exact .inr ⟨List.mem_cons_of_mem _ q.1, q.2⟩, fun x hx => by
    rcases h.wk x hx with q | q
    · rcases (hw x).mp q with rfl | q
      · exact .inr (h.keep _ ((hk _).mpr (.inl rfl)))
      · exact .inl q
    · exact .inr q, fun x hx => h.wkeep x ((hw x).mpr (.inr hx)), fun q => h.nd (hn q), by have := h.len; omega⟩
/-- between two turns -/
structure Mid {α : Type} (nx : α → List α) (r : α) (t : Nat) (ks ws : List α) : Prop where
  nd : ks.Nodup
  to : ∀ x ∈ ks, Reach nx r x
  self : r ∈ ks
  wk : ∀ x ∈ ws, x ∈ ks
  cl : ∀ x ∈ ks, x ∈ ws ∨ ∀ y ∈ nx x, y ∈ ks
  len : ks.length = t + ws.length
theorem Mid.start {α : Type} {nx : α → List α} {r : α} : Mid nx r 0 [r] [r] :=
  ⟨List.nodup_cons.mpr ⟨List.not_mem_nil, .nil⟩, fun x hx => by rw [List.mem_singleton.mp hx]; exact .self, List.mem_singleton_self _, fun _ h => h, fun _ h => .inl h, rfl⟩
theorem Mid.whole {α : Type} {nx : α → List α} {r : α} {t : Nat} {ks : List α} (h : Mid nx r t ks []) : Whole nx r ks :=
  ⟨h.nd, h.to, h.self, fun x hx => (h.cl x hx).resolve_left List.not_mem_nil⟩
theorem Mid.turn {α : Type} {nx : α → List α} {r w : α} {t : Nat} {ks w0 ws ks' ws' : List α} (h : Mid nx r t ks w0) (hw : ∀ x, x ∈ w0 ↔ x = w ∨ x ∈ ws) (hl : w0.length = ws.length + 1) (A : Adds (nx w) ks ws ks' ws') : Mid nx r (t + 1) ks' ws' :=
  ⟨A.nd h.nd, fun x hx => by
    rcases A.back x hx with q | q
    · exact h.to x q
    · exact (h.to w (h.wk w ((hw w).mpr (.inl rfl)))).step q.1, A.keep _ h.self, fun x hx => by
    rcases A.wk x hx with q | q
    · exact A.keep _ (h.wk x ((hw x).mpr (.inr q)))
    · exact q, fun x hx => by
    rcases A.back x hx with q | q
    · rcases h.cl x q with q | q
      · rcases (hw x).mp q with rfl | q
        · exact .inr A.new
        · exact .inl (A.wkeep x q)
      · exact .inr fun y hy => A.keep _ (q y hy)
    · exact .inl q.2, by have := A.len; have := h.len; omega⟩
/-! ### depth first -/
theorem gat_adds : ∀ (l : List (List Nat)) (st : GSt), Adds l st.1 st.2 (l.foldl gatStep st).1 (l.foldl gatStep st).2
  | [], _ => .nil
  | a :: l, st => by
    rw [List.foldl_cons]
    by_cases h : a ∈ st.1
    · rw [show gatStep st a = st by unfold gatStep; rw [if_pos h]]
      exact .old h (gat_adds l st)
    · have ih := gat_adds l (gatStep st a)
      refine .cons (k1 := (gatStep st a).1) (w1 := (gatStep st a).2) h ?_ ?_ ?_ ?_ ?_ ih <;> rw [show gatStep st a = (st.1 ++ [a], st.2 ++ [a]) by unfold gatStep; rw [if_neg h]]
      · intro x
        rw [List.mem_append, List.mem_singleton]
        exact Or.comm
      · intro x
        rw [List.mem_append, List.mem_singleton]
        exact Or.comm
      · exact fun q => nodup_snoc q h
      · exact List.length_append
      · exact List.length_append
theorem gat_mid {p : Nat} {r : List Nat} : ∀ n, ∃ t, t ≤ n ∧ Mid (nxtF p) r t (gatTo p r n).1 (gatTo p r n).2 ∧ ((gatTo p r n).2 = [] ∨ t = n)
  | 0 => ⟨0, Nat.le_refl _, .start, .inr rfl⟩
  | n + 1 => by
    obtain ⟨t, h1, h2, h3⟩ := gat_mid (p := p) (r := r) n
    show ∃ t, t ≤ n + 1 ∧ Mid (nxtF p) r t (gatTurn p (gatTo p r n)).1 (gatTurn p (gatTo p r n)).2 ∧ ((gatTurn p (gatTo p r n)).2 = [] ∨ t = n + 1)
    by_cases e : (gatTo p r n).2 = []
    · rw [show gatTurn p (gatTo p r n) = gatTo p r n by unfold gatTurn; rw [if_pos e]]
      exact ⟨t, by omega, h2, .inl e⟩
    · rw [show gatTurn p (gatTo p r n) = (nxtF p (lastR (gatTo p r n).2)).foldl gatStep ((gatTo p r n).1, (gatTo p r n).2.dropLast) by unfold gatTurn; rw [if_neg e]]
      have hl := last_app e
      have ht : t = n := h3.resolve_left e
      refine ⟨t + 1, by omega, h2.turn (w := lastR (gatTo p r n).2) (ws := (gatTo p r n).2.dropLast) (fun x => ?_) ?_ (gat_adds _ ((gatTo p r n).1, (gatTo p r n).2.dropLast)), .inr (by omega)⟩
      · generalize lastR (gatTo p r n).2 = w at hl ⊢
        generalize (gatTo p r n).2.dropLast = ws at hl ⊢
        rw [hl, List.mem_append, List.mem_singleton]
        exact Or.comm
      · generalize lastR (gatTo p r n).2 = w at hl ⊢
        generalize (gatTo p r n).2.dropLast = ws at hl ⊢
        rw [hl]
        exact List.length_append
theorem gat_whole {p N : Nat} {r : List Nat} {C : List (List Nat)} (hC : Whole (nxtF p) r C) (hN : C.length ≤ N) : (gatTo p r N).2 = [] ∧ Whole (nxtF p) r (gatTo p r N).1 := by
  obtain ⟨t, h1, h2, h3⟩ := gat_mid (p := p) (r := r) N
  have e : (gatTo p r N).2 = [] := by
    rcases h3 with h3 | h3
    · exact h3
    · have a := few_of h2.nd fun x hx => hC.all.mpr (h2.to x hx)
      have b := h2.len
      exact List.eq_nil_iff_length_eq_zero.mpr (by omega)
  rw [e] at h2
  exact ⟨e, h2.whole⟩
/-! ### breadth first -/
theorem putR_mem {ks : List (List Nat)} {m x : List Nat} : x ∈ putR ks m ↔ x ∈ ks ∨ x = m := by
  unfold putR
  split
  · rename_i h
    exact ⟨.inl, fun q => q.elim id fun e => e ▸ h⟩
  · rw [List.mem_append, List.mem_singleton]
theorem mergeR_mem : ∀ {ms ks : List (List Nat)} {x : List Nat}, x ∈ mergeR ks ms ↔ x ∈ ks ∨ x ∈ ms
  | [], ks, x => ⟨.inl, fun h => h.elim id fun q => (List.not_mem_nil q).elim⟩
  | m :: ms, ks, x => by
    show x ∈ mergeR (putR ks m) ms ↔ _
    rw [mergeR_mem, putR_mem, List.mem_cons, or_assoc]
theorem putR_nd {ks : List (List Nat)} {m : List Nat} (h : ks.Nodup) : (putR ks m).Nodup := by
  unfold putR
  split
  · exact h
  · exact nodup_snoc h ‹_›
theorem mergeR_nd : ∀ {ms ks : List (List Nat)}, ks.Nodup → (mergeR ks ms).Nodup
  | [], _, h => h
  | m :: ms, ks, h => mergeR_nd (ms := ms) (putR_nd h)
theorem putR_pre {ks : List (List Nat)} {m : List Nat} {j : Nat} {d : List Nat} (h : ks[j]? = some d) : (putR ks m)[j]? = some d := by
  unfold putR
  split
  · exact h
  · rw [List.getElem?_append_left (List.getElem?_eq_some_iff.mp h).1]; exact h
theorem mergeR_pre : ∀ {ms ks : List (List Nat)} {j : Nat} {d : List Nat}, ks[j]? = some d → (mergeR ks ms)[j]? = some d
  | [], _, _, _, h => h
  | m :: ms, ks, _, _, h => mergeR_pre (ms := ms) (ks := putR ks m) (putR_pre h)
theorem fac_pow {p g : Nat} (hp : 2 ≤ p) : ∀ i, facN p g i = g ^ i % p
  | 0 => by
    show 1 = 1 % p
    rw [Nat.mod_eq_of_lt (by omega)]
  | i + 1 => by
    show facN p g i * g % p = _
    rw [fac_pow hp i, Nat.pow_succ, Nat.mod_mul_mod]
theorem nxt_same {p : Nat} (hp : 2 ≤ p) (hm : makN p = fgN p) (r : List Nat) : nxtL p (makN p) r.length r = nxtF p r := by
  have e : zipM p r (powsN p (fgN p) r.length) = strTo p (fgN p) r r.length := by
    unfold zipM strTo
    refine List.map_congr_left fun i hi => ?_
    have hi := List.mem_range.mp hi
    rw [fac_pow hp i]
    unfold powsN
    rw [List.getD_eq_getElem?_getD (l := List.map _ _), List.getElem?_map, List.getElem?_range hi]
    rfl
  unfold nxtL nxtF
  rw [hm, e]
  rfl
structure CMid (p L : Nat) (r : List Nat) (i : Nat) (ks : List (List Nat)) : Prop where
  nd : ks.Nodup
  to : ∀ x ∈ ks, Reach (nxtF p) r x
  self : r ∈ ks
  cl : ∀ j d, j < i → ks[j]? = some d → ∀ y ∈ nxtF p d, y ∈ ks
theorem clan_mid {p L : Nat} (hp : 2 ≤ p) (hm : makN p = fgN p) {r : List Nat} (hL : ∀ x, Reach (nxtF p) r x → x.length = L) : ∀ i, CMid p L r i (clanTo p (makN p) L r i)
  | 0 => ⟨List.nodup_cons.mpr ⟨List.not_mem_nil, .nil⟩, fun x hx => by rw [List.mem_singleton.mp hx]; exact .self, List.mem_singleton_self _, fun _ _ h => absurd h (Nat.not_lt_zero _)⟩
  | i + 1 => by
    have ih := clan_mid hp hm hL i
    by_cases h : i < (clanTo p (makN p) L r i).length
    · rw [show clanTo p (makN p) L r (i + 1) = mergeR (clanTo p (makN p) L r i) (nxtL p (makN p) L ((clanTo p (makN p) L r i).getD i [])) by
        show (if i < (clanTo p (makN p) L r i).length then _ else _) = _
        rw [if_pos h]]
      generalize clanTo p (makN p) L r i = ks at ih h
      have hd : ks[i]? = some (ks.getD i []) := getD_row h
      generalize ks.getD i [] = d at hd
      have hm1 := List.mem_of_getElem? hd
      have hr := ih.to d hm1
      have e := nxt_same hp hm d
      rw [hL d hr] at e
      rw [e]
      refine ⟨mergeR_nd ih.nd, fun x hx => ?_, mergeR_mem.mpr (.inl ih.self), fun j d' hj hd' y hy => ?_⟩
      · rcases mergeR_mem.mp hx with q | q
        · exact ih.to x q
        · exact hr.step q
      · rcases Nat.lt_succ_iff_lt_or_eq.mp hj with hj | rfl
        · obtain ⟨d2, h2⟩ : ∃ d2, ks[j]? = some d2 := ⟨_, List.getElem?_eq_getElem (show j < ks.length by omega)⟩
          have h3 := mergeR_pre (ms := nxtF p d) h2
          rw [hd'] at h3
          cases h3
          exact mergeR_mem.mpr (.inl (ih.cl j d' hj h2 y hy))
        · have h3 := mergeR_pre (ms := nxtF p d) hd
          rw [hd'] at h3
          cases h3
          exact mergeR_mem.mpr (.inr hy)
    · rw [show clanTo p (makN p) L r (i + 1) = clanTo p (makN p) L r i by
        show (if i < (clanTo p (makN p) L r i).length then _ else _) = _
        rw [if_neg h]]
      refine ⟨ih.nd, ih.to, ih.self, fun j d hj hd y hy => ih.cl j d ?_ hd y hy⟩
      have := (List.getElem?_eq_some_iff.mp hd).1
      omega
theorem clan_whole {p L N : Nat} (hp : 2 ≤ p) (hm : makN p = fgN p) {r : List Nat} (hL : ∀ x, Reach (nxtF p) r x → x.length = L) {C : List (List Nat)} (hC : Whole (nxtF p) r C) (hN : C.length ≤ N) : Whole (nxtF p) r (clanTo p (makN p) L r N) := by
  have h := clan_mid hp hm hL N
  refine ⟨h.nd, h.to, h.self, fun x hx y hy => ?_⟩
  obtain ⟨j, hj, e⟩ := List.mem_iff_getElem.mp hx
  refine h.cl j x ?_ (by rw [List.getElem?_eq_getElem hj, e]) y hy
  have := few_of h.nd fun x hx => hC.all.mpr (h.to x hx)
  omega
/-! ### the head -/
theorem arg_low (v : Nat → Nat) : ∀ n j, j ≤ n → v (argBest (fun i j => decide (v i < v j)) n) ≤ v j
  | 0, j, h => by
    have : j = 0 := by omega
    subst this
    exact Nat.le_refl _
  | n + 1, j, h => by
    have ih := arg_low v n
    unfold argBest
    generalize argBest (fun i j => decide (v i < v j)) n = b at ih
    by_cases q : v (n + 1) < v b
    · rw [if_pos (by exact decide_eq_true q)]
      rcases Nat.lt_or_ge j (n + 1) with w | w
      · have := ih j (by omega); omega
      · rw [show j = n + 1 by omega]; exact Nat.le_refl _
    · rw [if_neg (by rw [decide_eq_true_eq]; exact q)]
      rcases Nat.lt_or_ge j (n + 1) with w | w
      · exact ih j (by omega)
      · rw [show j = n + 1 by omega]; omega
theorem head_is {p L : Nat} {ks : List (List Nat)} {r : List Nat} (hV : ∀ x ∈ ks, VR p L x) (hr : r ∈ ks) (hl : ∀ x ∈ ks, numR p r ≤ numR p x) : headN p ks = r := by
  have h0 := List.length_pos_of_mem hr
  have hb := best_le (bestF p ks) (ks.length - 1)
  have hm : headN p ks ∈ ks := List.mem_of_getElem? (getD_row (show argBest (bestF p ks) (ks.length - 1) < ks.length by omega))
  refine (hV _ hm).inj (hV _ hr) ?_
  obtain ⟨j, hj, e⟩ := List.mem_iff_getElem.mp hr
  have := arg_low (fun i => numR p (ks.getD i [])) (ks.length - 1) j (by omega)
  have e2 : ks.getD j [] = r := by rw [List.getD_eq_getElem?_getD, List.getElem?_eq_getElem hj, e]; rfl
  simp only [e2] at this
  have h3 := hl _ hm
  exact Nat.le_antisymm this h3
end Tw
end STwL2
section STwL3
set_option Elab.async false
set_option linter.all false
set_option maxRecDepth 100000
set_option maxHeartbeats 4000000
/-! The plain law (3): the fast walk over numbers. -/
namespace Tw
open PySem
def nxn (p L x : Nat) : List Nat := (nxtF p (dgN p L x)).map (numR p)
def addAll {β : Type} : List Nat → Nat → List Nat → List Nat → (Nat → List Nat → List Nat → β) → β
  | [], A, ks, ws, k => k A ks ws
  | x :: l, A, ks, ws, k => bif A.testBit x then addAll l A ks ws k else addAll l (A ||| 1 <<< x) (x :: ks) (x :: ws) k
def gfL (p L : Nat) : Nat → Nat → List Nat → List Nat → Option (Nat × List Nat)
  | 0, _, _, _ => none
  | f + 1, A, ks, ws => match ws with
    | [] => some (A, ks)
    | w :: ws => addAll (nxn p L w) A ks ws (gfL p L f)
def BRep (A : Nat) (ks : List Nat) : Prop := ∀ n, A.testBit n = true ↔ n ∈ ks
theorem bit_one {n m : Nat} : (1 <<< n).testBit m = true ↔ m = n := by
  rw [Nat.testBit_shiftLeft]
  simp only [ge_iff_le, Bool.and_eq_true, decide_eq_true_eq, Nat.testBit_one_eq_true_iff_self_eq_zero]
  omega
theorem BRep.one {n : Nat} : BRep (1 <<< n) [n] := fun m => by rw [bit_one, List.mem_singleton]
theorem BRep.add {A x : Nat} {ks : List Nat} (h : BRep A ks) : BRep (A ||| 1 <<< x) (x :: ks) := fun m => by
  rw [Nat.testBit_or, Bool.or_eq_true, h m, bit_one, List.mem_cons]
  exact Or.comm
theorem addAll_ok {β : Type} : ∀ (l : List Nat) (A : Nat) (ks ws : List Nat) (k : Nat → List Nat → List Nat → β), BRep A ks → ∃ A' ks' ws', BRep A' ks' ∧ Adds l ks ws ks' ws' ∧ addAll l A ks ws k = k A' ks' ws'
  | [], A, ks, ws, k, h => ⟨A, ks, ws, h, .nil, rfl⟩
  | x :: l, A, ks, ws, k, h => by
    cases q : A.testBit x with
    | true =>
      obtain ⟨A', ks', ws', h1, h2, h3⟩ := addAll_ok l A ks ws k h
      refine ⟨A', ks', ws', h1, .old ((h x).mp q) h2, ?_⟩
      unfold addAll
      rw [q]
      exact h3
    | false =>
      obtain ⟨A', ks', ws', h1, h2, h3⟩ := addAll_ok l (A ||| 1 <<< x) (x :: ks) (x :: ws) k h.add
      have hx : x ∉ ks := fun w => by rw [(h x).mpr w] at q; cases q
      refine ⟨A', ks', ws', h1, .cons hx (fun _ => List.mem_cons) (fun _ => List.mem_cons) (fun n => List.nodup_cons.mpr ⟨hx, n⟩) rfl rfl h2, ?_⟩
      unfold addAll
      rw [q]
      exact h3
theorem gfL_ok {p L r : Nat} : ∀ (f t A : Nat) (ks ws : List Nat) (A' : Nat) (ks' : List Nat), Mid (nxn p L) r t ks ws → BRep A ks → gfL p L f A ks ws = some (A', ks') → BRep A' ks' ∧ Whole (nxn p L) r ks'
  | 0, _, _, _, _, _, _, _, _, h => nomatch h
  | f + 1, t, A, ks, [], A', ks', hm, hb, h => by
    have h : some (A, ks) = some (A', ks') := h
    cases h
    exact ⟨hb, hm.whole⟩
  | f + 1, t, A, ks, w :: ws, A', ks', hm, hb, h => by
    obtain ⟨A1, k1, w1, h1, h2, h3⟩ := addAll_ok (nxn p L w) A ks ws (gfL p L f) hb
    have h : addAll (nxn p L w) A ks ws (gfL p L f) = some (A', ks') := h
    rw [h3] at h
    exact gfL_ok f (t + 1) A1 k1 w1 A' ks' (hm.turn (w := w) (ws := ws) (fun _ => List.mem_cons) rfl h2) h1 h
theorem nxt_vr {p L : Nat} (hp : PrP p) (hL : L ≤ 20) {w x : List Nat} (h : VR p L w) (hx : x ∈ nxtF p w) : VR p L x := by
  obtain ⟨q1, q2⟩ := nxt_ok hp ⟨h.lt, by rw [h.len]; exact hL⟩ h.len x hx
  exact ⟨q1.lt, q2⟩
theorem reach_vr {p L : Nat} (hp : PrP p) (hL : L ≤ 20) {r x : List Nat} (h : VR p L r) (hx : Reach (nxtF p) r x) : VR p L x := hx _ h fun y hy z hz => nxt_vr hp hL hy hz
theorem nxn_to {p L : Nat} (hp : PrP p) (hL : L ≤ 20) {x y : Nat} (h : y ∈ nxn p L x) : y < p ^ L ∧ dgN p L y ∈ nxtF p (dgN p L x) := by
  have hp0 : 0 < p := by have := hp.le; omega
  obtain ⟨s, h1, rfl⟩ := List.mem_map.mp h
  have hs := nxt_vr hp hL (dgN_ok hp0 L x) h1
  exact ⟨hs.num_lt hp0, by rw [dgN_of hp0 hs]; exact h1⟩
theorem rows_whole {p L n : Nat} (hp : PrP p) (hL : L ≤ 20) (hn : n < p ^ L) {ks : List Nat} (h : Whole (nxn p L) n ks) : Whole (nxtF p) (dgN p L n) (ks.map (dgN p L)) ∧ ∀ x ∈ ks, x < p ^ L := by
  have hp0 : 0 < p := by have := hp.le; omega
  have hk : ∀ x ∈ ks, x < p ^ L := fun x hx => h.to x hx (· < p ^ L) hn fun y _ z hz => (nxn_to hp hL hz).1
  refine ⟨⟨?_, fun x hx => ?_, List.mem_map_of_mem h.self, fun x hx y hy => ?_⟩, hk⟩
  · refine nodup_map (fun a ha b hb e => ?_) h.nd
    rw [← dgN_num hp0 L a (hk a ha), e, dgN_num hp0 L b (hk b hb)]
  · obtain ⟨m, hm, rfl⟩ := List.mem_map.mp hx
    refine h.to m hm (fun m => Reach (nxtF p) (dgN p L n) (dgN p L m)) .self fun y hy z hz => hy.step (nxn_to hp hL hz).2
  · obtain ⟨m, hm, rfl⟩ := List.mem_map.mp hx
    have hs := nxt_vr hp hL (dgN_ok hp0 L m) hy
    refine List.mem_map.mpr ⟨numR p y, h.cl m hm _ (List.mem_map_of_mem hy), dgN_of hp0 hs⟩
/-- what a family's walk finds -/
structure NewOk (p g N n c A : Nat) : Prop where
  stop : (gatTo p (dgN p (2 * g + 3) n) N).2 = []
  vr : ∀ x ∈ rowsN p N (dgN p (2 * g + 3) n), VR p (2 * g + 3) x
  bits : ∀ x, VR p (2 * g + 3) x → (x ∈ rowsN p N (dgN p (2 * g + 3) n) ↔ A.testBit (numR p x) = true)
  len : (rowsN p N (dgN p (2 * g + 3) n)).length = c
  head : headN p (rowsN p N (dgN p (2 * g + 3) n)) = dgN p (2 * g + 3) n
  llen : (lotN p (polN p n)).length = c
  lmem : ∀ y, y ∈ lotN p (polN p n) ↔ ∃ x ∈ rowsN p N (dgN p (2 * g + 3) n), y = trimN x
def newB (p L n c A : Nat) (ks : List Nat) : Bool := Nat.beq ks.length c && Nat.beq ((A >>> n) <<< n) A
theorem genN_of {g : Nat} {r : List Nat} (h1 : 2 * g + 2 ≤ r.length) (h2 : r.length ≤ 2 * g + 3) : genN r = g := by
  unfold genN
  omega
theorem new_ok {p g N n c A f : Nat} {ks : List Nat} (hp : PrP p) (hg : g ≤ 2) (hm : makN p = fgN p) (hn : n < p ^ (2 * g + 3)) (hd : 2 * g < (polN p n).length - 1) (hc : c ≤ N) (hc5 : c ≤ 5000) (h : gfL p (2 * g + 3) f (1 <<< n) [n] [n] = some (A, ks)) (hb : newB p (2 * g + 3) n c A ks = true) : NewOk p g N n c A := by
  have hp0 : 0 < p := by have := hp.le; omega
  have hp2 : 2 ≤ p := by have := hp.le; omega
  have hL : 2 * g + 3 ≤ 20 := by omega
  obtain ⟨hB, hW⟩ := gfL_ok _ 0 _ _ _ _ _ .start .one h
  obtain ⟨hR, hlt⟩ := rows_whole hp hL hn hW
  unfold newB at hb
  obtain ⟨b1, b2⟩ := Bool.and_eq_true_iff.mp hb
  have b1 : ks.length = c := Nat.eq_of_beq_eq_true b1
  have b2 := Nat.eq_of_beq_eq_true b2
  have hlen : (ks.map (dgN p (2 * g + 3))).length = c := by rw [List.length_map]; exact b1
  obtain ⟨g1, g2⟩ := gat_whole hR (N := N) (by omega)
  have hv0 := dgN_ok hp0 (2 * g + 3) n
  have hvr : ∀ x ∈ rowsN p N (dgN p (2 * g + 3) n), VR p (2 * g + 3) x := fun x hx => reach_vr hp hL hv0 (g2.to x hx)
  have hbits : ∀ x, VR p (2 * g + 3) x → (x ∈ rowsN p N (dgN p (2 * g + 3) n) ↔ A.testBit (numR p x) = true) := fun x hx => by
    refine g2.all.trans (hR.all.symm.trans ((?_ : _ ↔ _).trans (hB _).symm))
    constructor
    · intro q
      obtain ⟨m, h1, e⟩ := List.mem_map.mp q
      rw [← e, dgN_num hp0 _ m (hlt m h1)]
      exact h1
    · intro q
      exact List.mem_map.mpr ⟨_, q, dgN_of hp0 hx⟩
  have hgen : genN (polN p n) = g := genN_of (by omega) (polN_short hp2 hn)
  have hpad : padN (polN p n) = dgN p (2 * g + 3) n := by
    rw [← formN_dg hp2 hn]
    unfold padN szN
    rw [hgen]
    rfl
  have hC : clanN p (polN p n) = clanTo p (makN p) (2 * g + 3) (dgN p (2 * g + 3) n) 5000 := by
    unfold clanN szN
    rw [hpad, hgen]
  have hcw : Whole (nxtF p) (dgN p (2 * g + 3) n) (clanN p (polN p n)) := by
    rw [hC]
    generalize e5 : 5000 = z at hc5
    exact clan_whole hp2 hm (fun x hx => (reach_vr hp hL hv0 hx).len) hR (by omega)
  refine ⟨g1, hvr, hbits, (g2.perm hR).length_eq.trans hlen, ?_, ?_, fun y => ?_⟩
  · refine head_is hvr g2.self fun x hx => ?_
    rw [dgN_num hp0 _ n hn]
    have q := (hbits x (hvr x hx)).mp hx
    rw [← b2, Nat.testBit_shiftLeft] at q
    obtain ⟨q, _⟩ := Bool.and_eq_true_iff.mp q
    exact of_decide_eq_true q
  · unfold lotN
    rw [List.length_map]
    exact (hcw.perm hR).length_eq.trans hlen
  · unfold lotN
    rw [List.mem_map]
    constructor
    · rintro ⟨x, h1, h2⟩
      exact ⟨x, (hcw.perm g2).mem_iff.mp h1, h2.symm⟩
    · rintro ⟨x, h1, h2⟩
      exact ⟨x, (hcw.perm g2).mem_iff.mpr h1, h2.symm⟩
def goodN (p g n : Nat) : Bool := Nat.blt (2 * g) ((polN p n).length - 1) && sqfN p (polN p n)
/-- the scan over all numbers -/
def chk (p g tm : Nat) : Nat → Nat → Nat → List (Nat × Nat) → Bool
  | 0, _, _, F => F.isEmpty
  | k + 1, n, M, F =>
    bif tm.testBit n then
      bif M.testBit n then chk p g tm k (n + 1) M F
      else match F with
        | [] => false
        | q :: F => (goodN p g n && Nat.beq q.1 n) && (match gfL p (2 * g + 3) (q.2 + 1) (1 <<< n) [n] [n] with
          | none => false
          | some (A, ks) => newB p (2 * g + 3) n q.2 A ks && chk p g tm k (n + 1) (M ||| A) F)
    else !goodN p g n && chk p g tm k (n + 1) M F
def outF (p : Nat) (F : List (Nat × Nat)) : List (List Nat × Nat) := F.map fun q => (polN p q.1, chN p / q.2)
inductive Scan (p g tm N : Nat) : Nat → Nat → Nat → List (Nat × Nat) → Prop
  | done {n M} : Scan p g tm N 0 n M []
  | seen {k n M F} : tm.testBit n = true → M.testBit n = true → Scan p g tm N k (n + 1) M F → Scan p g tm N (k + 1) n M F
  | off {k n M F} : tm.testBit n = false → goodN p g n = false → Scan p g tm N k (n + 1) M F → Scan p g tm N (k + 1) n M F
  | new {k n M A c F} : tm.testBit n = true → M.testBit n = false → goodN p g n = true → c ≤ N → NewOk p g N n c A → Scan p g tm N k (n + 1) (M ||| A) F → Scan p g tm N (k + 1) n M ((n, c) :: F)
theorem scan_of {p g tm N : Nat} (hp : PrP p) (hg : g ≤ 2) (hm : makN p = fgN p) (hN : N ≤ 5000) : ∀ (k n M : Nat) (F : List (Nat × Nat)), n + k ≤ p ^ (2 * g + 3) → (∀ q ∈ F, q.2 ≤ N) → chk p g tm k n M F = true → Scan p g tm N k n M F
  | 0, n, M, F, _, _, h => by
    have h : F.isEmpty = true := h
    rw [List.isEmpty_iff.mp h]
    exact .done
  | k + 1, n, M, F, hn, hF, h => by
    unfold chk at h
    cases h1 : tm.testBit n with
    | false =>
      rw [h1] at h
      obtain ⟨h2, h3⟩ := Bool.and_eq_true_iff.mp h
      exact .off h1 (by simpa using h2) (scan_of hp hg hm hN k (n + 1) M F (by omega) hF h3)
    | true =>
      rw [h1] at h
      cases h2 : M.testBit n with
      | true =>
        rw [h2] at h
        exact .seen h1 h2 (scan_of hp hg hm hN k (n + 1) M F (by omega) hF h)
      | false =>
        rw [h2] at h
        match F, hF, h with
        | [], _, h => cases h
        | (m, c) :: F, hF, h =>
          obtain ⟨h3, h4⟩ := Bool.and_eq_true_iff.mp h
          obtain ⟨h3, h5⟩ := Bool.and_eq_true_iff.mp h3
          have h5 : m = n := Nat.eq_of_beq_eq_true h5
          subst h5
          simp only at h4
          split at h4
          · cases h4
          · rename_i A ks hw
            obtain ⟨h6, h7⟩ := Bool.and_eq_true_iff.mp h4
            have hc : c ≤ N := hF (m, c) List.mem_cons_self
            have hd : 2 * g < (polN p m).length - 1 := by
              unfold goodN at h3
              exact Nat.lt_of_lt_of_le (Nat.le_of_ble_eq_true (Bool.and_eq_true_iff.mp h3).1) (Nat.le_refl _)
            exact .new h1 h2 h3 hc (new_ok hp hg hm (by omega) hd hc (by omega) hw h6) (scan_of hp hg hm hN k (m + 1) (M ||| A) F (by omega) (fun q hq => hF q (List.mem_cons_of_mem _ hq)) h7)
end Tw
end STwL3
section STwL4
set_option Elab.async false
set_option linter.all false
set_option maxRecDepth 100000
set_option maxHeartbeats 4000000
/-! The plain law (4): families and lots are the scan's finds. -/
namespace Tw
open PySem
def KnowF (p L : Nat) (known : List (List Nat)) (M : Nat) : Prop := ∀ x, VR p L x → (x ∈ known ↔ M.testBit (numR p x) = true)
def KnowL (p L : Nat) (known : List (List Nat)) (M : Nat) : Prop := ∀ m, m < p ^ L → (polN p m ∈ known ↔ M.testBit m = true)
theorem take_eq {p g n M : Nat} {known : List (List Nat)} (hp : PrP p) (hn : n < p ^ (2 * g + 3)) (K : KnowF p (2 * g + 3) known M) : famTake p g known n = (goodN p g n && !M.testBit n) := by
  have hp2 : 2 ≤ p := by have := hp.le; omega
  have h := K _ (dgN_ok (show 0 < p by omega) (2 * g + 3) n)
  rw [dgN_num (by omega) _ n hn] at h
  unfold famTake goodN
  rw [formN_dg hp2 hn]
  have e : decide (dgN p (2 * g + 3) n ∈ known) = M.testBit n := by
    cases q : M.testBit n with
    | true => exact decide_eq_true (h.mpr q)
    | false => exact decide_eq_false fun w => by rw [h.mp w] at q; cases q
  rw [e]
  have e2 : decide (2 * g < (polN p n).length - 1) = Nat.blt (2 * g) ((polN p n).length - 1) := by
    by_cases w : 2 * g < (polN p n).length - 1
    · rw [decide_eq_true w]
      exact (Nat.ble_eq_true_of_le w).symm
    · rw [decide_eq_false w]
      cases q : Nat.blt (2 * g) ((polN p n).length - 1) with
      | false => rfl
      | true => exact absurd (Nat.le_of_ble_eq_true q) w
  rw [e2]
  cases Nat.blt (2 * g) ((polN p n).length - 1) <;> cases M.testBit n <;> cases sqfN p (polN p n) <;> rfl
theorem famStep_no {p g : Nat} {R : List Nat → List (List Nat)} {st : LSt} {n : Nat} (h : famTake p g st.1 n = false) : famStep p g R st n = st := by
  unfold famStep
  rw [if_neg (by rw [h]; decide)]
theorem famStep_yes {p g : Nat} {R : List Nat → List (List Nat)} {st : LSt} {n : Nat} (h : famTake p g st.1 n = true) : famStep p g R st n = (mergeR st.1 (R (formN (polN p n) g)), st.2 ++ [(trimN (headN p (R (formN (polN p n) g))), chN p / (R (formN (polN p n) g)).length)]) := by
  unfold famStep
  rw [if_pos h]
theorem good_lo {p g n : Nat} (h : goodN p g n = true) : 2 ≤ (polN p n).length ∧ sqfN p (polN p n) = true := by
  unfold goodN at h
  obtain ⟨h1, h2⟩ := Bool.and_eq_true_iff.mp h
  have h1 : 2 * g + 1 ≤ (polN p n).length - 1 := Nat.le_of_ble_eq_true h1
  exact ⟨by omega, h2⟩
def FamGoal (p g N j k : Nat) (F : List (Nat × Nat)) : Prop :=
  (famTo p g (rowsN p N) (j + k)).2 = (famTo p g (rowsN p N) j).2 ++ outF p F ∧ ∀ i, j ≤ i → i < j + k → famTake p g (famTo p g (rowsN p N) i).1 (p + i) = true → StepOk p N (famTo p g (rowsN p N) i).1 (formN (polN p (p + i)) g)
theorem goal_skip {p g N j k : Nat} {F : List (Nat × Nat)} (hno : famTake p g (famTo p g (rowsN p N) j).1 (p + j) = false) (e : famTo p g (rowsN p N) (j + 1) = famTo p g (rowsN p N) j) (h : FamGoal p g N (j + 1) k F) : FamGoal p g N j (k + 1) F := by
  obtain ⟨h1, h2⟩ := h
  refine ⟨by rw [show j + (k + 1) = j + 1 + k by omega, h1, e], fun i hi hk ht => ?_⟩
  rcases Nat.lt_or_ge j i with w | w
  · exact h2 i (by omega) (by omega) ht
  · have : i = j := by omega
    subst this
    rw [hno] at ht
    cases ht
theorem scan_fam {p g tm N : Nat} (hp : PrP p) {k n M : Nat} {F : List (Nat × Nat)} (S : Scan p g tm N k n M F) : ∀ j, n = p + j → n + k ≤ p ^ (2 * g + 3) → KnowF p (2 * g + 3) (famTo p g (rowsN p N) j).1 M →
    ((famTo p g (rowsN p N) j).1 ≠ [] ∨ ∀ q F', F = q :: F' → ((rowsN p N (dgN p (2 * g + 3) q.1)).map hRow).Nodup) → FamGoal p g N j k F := by
  have hp2 : 2 ≤ p := by have := hp.le; omega
  have hp0 : 0 < p := by omega
  induction S with
  | done =>
    intro j _ _ _ _
    exact ⟨(List.append_nil _).symm, fun i h1 h2 => by omega⟩
  | @seen k n M F h1 h2 _ ih =>
    intro j hj hn K ap
    have t : famTake p g (famTo p g (rowsN p N) j).1 (p + j) = false := by
      rw [← hj, take_eq hp (by omega) K, h2]
      cases goodN p g n <;> rfl
    have e : famTo p g (rowsN p N) (j + 1) = famTo p g (rowsN p N) j := famStep_no t
    exact goal_skip t e (ih (j + 1) (by omega) (by omega) (by rw [e]; exact K) (by rw [e]; exact ap))
  | @off k n M F h1 h2 _ ih =>
    intro j hj hn K ap
    have t : famTake p g (famTo p g (rowsN p N) j).1 (p + j) = false := by
      rw [← hj, take_eq hp (by omega) K, h2]
      rfl
    have e : famTo p g (rowsN p N) (j + 1) = famTo p g (rowsN p N) j := famStep_no t
    exact goal_skip t e (ih (j + 1) (by omega) (by omega) (by rw [e]; exact K) (by rw [e]; exact ap))
  | @new k n M A c F h1 h2 h3 hc Q _ ih =>
    intro j hj hn K ap
    have hn' : n < p ^ (2 * g + 3) := by omega
    have t : famTake p g (famTo p g (rowsN p N) j).1 (p + j) = true := by
      rw [← hj, take_eq hp hn' K, h2, h3]
      rfl
    have e : famTo p g (rowsN p N) (j + 1) = _ := famStep_yes t
    rw [← hj, formN_dg hp2 hn', Q.head, Q.len, ← polN_dg hp2 hn'] at e
    have hne : (famTo p g (rowsN p N) (j + 1)).1 ≠ [] := by
      rw [e]
      intro w
      obtain ⟨_, _, m, _⟩ := gat_mid (p := p) (r := dgN p (2 * g + 3) n) N
      have this : dgN p (2 * g + 3) n ∈ mergeR (famTo p g (rowsN p N) j).1 (rowsN p N (dgN p (2 * g + 3) n)) := mergeR_mem.mpr (.inr m.self)
      have w : mergeR (famTo p g (rowsN p N) j).1 (rowsN p N (dgN p (2 * g + 3) n)) = [] := w
      rw [w] at this
      cases this
    have K' : KnowF p (2 * g + 3) (famTo p g (rowsN p N) (j + 1)).1 (M ||| A) := by
      rw [e]
      intro x hx
      rw [Nat.testBit_or, Bool.or_eq_true, ← K x hx, ← Q.bits x hx]
      exact mergeR_mem
    obtain ⟨g1, g2⟩ := ih (j + 1) (by omega) (by omega) K' (.inl hne)
    refine ⟨?_, fun i hi hk ht => ?_⟩
    · rw [show j + (k + 1) = j + 1 + k by omega, g1, e]
      show ((famTo p g (rowsN p N) j).2 ++ [(polN p n, chN p / c)]) ++ outF p F = (famTo p g (rowsN p N) j).2 ++ ((polN p n, chN p / c) :: outF p F)
      rw [List.append_assoc]
      rfl
    · rcases Nat.lt_or_ge j i with w | w
      · exact g2 i (by omega) (by omega) ht
      · have : i = j := by omega
        subst this
        rw [← hj, formN_dg hp2 hn']
        obtain ⟨q1, q2⟩ := good_lo h3
        refine ⟨Q.stop, ?_, ?_, ap.imp id fun q => q _ _ rfl⟩
        · rw [Q.head, ← polN_dg hp2 hn']; exact q1
        · rw [Q.head, ← polN_dg hp2 hn']; exact q2
def numsN (tm n k : Nat) : List Nat := (List.range' n k).filter tm.testBit
theorem nums_yes {tm n k : Nat} (h : tm.testBit n = true) : numsN tm n (k + 1) = n :: numsN tm (n + 1) k := by
  unfold numsN
  rw [List.range'_succ, List.filter_cons, if_pos h]
theorem nums_no {tm n k : Nat} (h : tm.testBit n = false) : numsN tm n (k + 1) = numsN tm (n + 1) k := by
  unfold numsN
  rw [List.range'_succ, List.filter_cons, if_neg (by rw [h]; decide)]
theorem lotStep_no {L : List Nat → List (List Nat)} {c : Nat} {st : LSt} {r : List Nat} (h : r ∈ st.1) : lotStep L c st r = st := by unfold lotStep; rw [if_pos h]
theorem lotStep_yes {L : List Nat → List (List Nat)} {c : Nat} {st : LSt} {r : List Nat} (h : r ∉ st.1) : lotStep L c st r = (mergeR st.1 (L r), st.2 ++ [(r, c / (L r).length)]) := by unfold lotStep; rw [if_neg h]
theorem scan_lot {p g tm N : Nat} {Lf : List Nat → List (List Nat)} (hp : PrP p) (hcm : chN p = mcN p) (hL : ∀ n c A, NewOk p g N n c A → (Lf (polN p n)).length = c ∧ ∀ y, y ∈ Lf (polN p n) ↔ ∃ x ∈ rowsN p N (dgN p (2 * g + 3) n), y = trimN x) {k n M : Nat} {F : List (Nat × Nat)} (S : Scan p g tm N k n M F) : ∀ st : LSt, n + k ≤ p ^ (2 * g + 3) → KnowL p (2 * g + 3) st.1 M →
    (((numsN tm n k).map (polN p)).foldl (lotStep Lf (mcN p)) st).2 = st.2 ++ outF p F ∧ (((numsN tm n k).map (polN p)).foldl (lotStep Lf (mcN p)) st).1.length ≤ st.1.length + (F.map (·.2)).sum := by
  have hp2 : 2 ≤ p := by have := hp.le; omega
  have hp0 : 0 < p := by omega
  induction S with
  | done =>
    intro st _ _
    exact ⟨(List.append_nil _).symm, Nat.le_refl _⟩
  | @seen k n M F h1 h2 _ ih =>
    intro st hn K
    rw [nums_yes h1, List.map_cons, List.foldl_cons, lotStep_no ((K n (by omega)).mpr h2)]
    exact ih st (by omega) K
  | @off k n M F h1 h2 _ ih =>
    intro st hn K
    rw [nums_no h1]
    exact ih st (by omega) K
  | @new k n M A c F h1 h2 h3 hc Q _ ih =>
    intro st hn K
    obtain ⟨Q1, Q2⟩ := hL n c A Q
    have hno : polN p n ∉ st.1 := fun w => by rw [(K n (by omega)).mp w] at h2; cases h2
    rw [nums_yes h1, List.map_cons, List.foldl_cons, lotStep_yes hno, Q1]
    have K' : KnowL p (2 * g + 3) (mergeR st.1 (Lf (polN p n))) (M ||| A) := fun m hm => by
      rw [Nat.testBit_or, Bool.or_eq_true, ← K m hm, mergeR_mem]
      have hd := dgN_ok hp0 (2 * g + 3) m
      have hb := Q.bits _ hd
      rw [dgN_num hp0 _ m hm] at hb
      refine ⟨Or.imp id fun q => ?_, Or.imp id fun q => (Q2 _).mpr ⟨_, hb.mpr q, polN_dg hp2 hm⟩⟩
      obtain ⟨x, q1, q2⟩ := (Q2 _).mp q
      have hx := Q.vr x q1
      have e : m = numR p x := by
        have := congrArg (numR p) q2
        rwa [polN_num hp2, numR_trim] at this
      rw [e]
      exact (Q.bits x hx).mp q1
    obtain ⟨g1, g2⟩ := ih (mergeR st.1 (Lf (polN p n)), st.2 ++ [(polN p n, mcN p / c)]) (by omega) K'
    refine ⟨?_, ?_⟩
    · rw [g1]
      show (st.2 ++ [(polN p n, mcN p / c)]) ++ outF p F = st.2 ++ ((polN p n, chN p / c) :: outF p F)
      rw [List.append_assoc, hcm]
      rfl
    · have h4 := mergeR_len (ks := st.1) (Lf (polN p n))
      rw [Q1] at h4
      rw [List.map_cons, List.sum_cons]
      have g2 : _ ≤ (mergeR st.1 (Lf (polN p n))).length + _ := g2
      omega
/-! ### sheets -/
def maskB : List Nat → Nat → Nat → Bool
  | [], A, T => Nat.beq A T
  | x :: l, A, T => bif A.testBit x then false else maskB l (A ||| 1 <<< x) T
theorem mask_ok : ∀ (l : List Nat) (A T : Nat), maskB l A T = true → (∀ x ∈ l, A.testBit x = false) ∧ l.Nodup ∧ ∀ n, T.testBit n = true ↔ A.testBit n = true ∨ n ∈ l
  | [], A, T, h => by
    have h : A = T := Nat.eq_of_beq_eq_true h
    subst h
    exact ⟨fun _ q => (List.not_mem_nil q).elim, .nil, fun n => ⟨.inl, fun q => q.elim id fun w => (List.not_mem_nil w).elim⟩⟩
  | x :: l, A, T, h => by
    unfold maskB at h
    cases q : A.testBit x with
    | true => rw [q] at h; cases h
    | false =>
      rw [q] at h
      obtain ⟨h1, h2, h3⟩ := mask_ok l (A ||| 1 <<< x) T h
      have hb : ∀ n, (A ||| 1 <<< x).testBit n = true ↔ A.testBit n = true ∨ n = x := fun n => by rw [Nat.testBit_or, Bool.or_eq_true, bit_one]
      refine ⟨fun y hy => ?_, List.nodup_cons.mpr ⟨fun w => ?_, h2⟩, fun n => ?_⟩
      · rcases List.mem_cons.mp hy with rfl | hy
        · exact q
        · cases w : A.testBit y with
          | false => rfl
          | true =>
            have h5 := h1 y hy
            rw [(hb y).mpr (.inl w)] at h5
            cases h5
      · have := h1 x w
        rw [(hb x).mpr (.inr rfl)] at this
        cases this
      · rw [h3 n, hb n, List.mem_cons, or_assoc]
theorem sheet_trim {p g : Nat} {r : List Nat} (h : r ∈ sheetAll p g) : trimN r = r := by
  obtain ⟨d, h1, h2⟩ := List.mem_flatMap.mp h
  obtain ⟨m, h3, h4⟩ := List.mem_flatMap.mp h2
  split at h4
  · obtain ⟨i, h5, rfl⟩ := List.mem_map.mp h4
    exact trim_trim _
  · cases h4
def inB (p L tm : Nat) : Bool := Nat.beq ((tm >>> p) <<< p) tm && Nat.blt tm (2 ^ (p ^ L))
theorem sheets_eq {p g tm : Nat} (hp : PrP p) (hg : g ≤ 2) (hM : maskB ((sheetAll p g).map (numR p)) 0 tm = true) (hI : inB p (2 * g + 3) tm = true) : sheetsN p g = (numsN tm p (p ^ (2 * g + 3) - p)).map (polN p) := by
  have hp2 : 2 ≤ p := by have := hp.le; omega
  obtain ⟨_, h2, h3⟩ := mask_ok _ _ _ hM
  have h3 : ∀ n, tm.testBit n = true ↔ n ∈ (sheetAll p g).map (numR p) := fun n => by
    rw [h3 n]
    exact ⟨fun q => q.elim (fun w => by rw [Nat.zero_testBit] at w; cases w) id, .inr⟩
  unfold inB at hI
  obtain ⟨i1, i2⟩ := Bool.and_eq_true_iff.mp hI
  have i1 := Nat.eq_of_beq_eq_true i1
  have i2 : tm < 2 ^ (p ^ (2 * g + 3)) := Nat.le_of_ble_eq_true i2
  have hin : ∀ n, tm.testBit n = true → p ≤ n ∧ n < p ^ (2 * g + 3) := fun n hn => by
    constructor
    · rw [← i1, Nat.testBit_shiftLeft] at hn
      exact of_decide_eq_true (Bool.and_eq_true_iff.mp hn).1
    · refine Nat.lt_of_not_le fun w => ?_
      have a := Nat.ge_two_pow_of_testBit hn
      have b := Nat.pow_le_pow_right (show 0 < 2 by decide) w
      omega
  have hmem : ∀ n, n ∈ numsN tm p (p ^ (2 * g + 3) - p) ↔ tm.testBit n = true := fun n => by
    unfold numsN
    rw [List.mem_filter, List.mem_range'_1]
    constructor
    · exact fun q => q.2
    · intro q
      have := hin n q
      exact ⟨by omega, q⟩
  have hrow : ∀ r ∈ sheetAll p g, polN p (numR p r) = r := fun r hr => polN_of hp2 (sheetAll_ok hp2 (by omega) r hr).1.lt (sheet_trim hr)
  have hnd : (numsN tm p (p ^ (2 * g + 3) - p)).Pairwise (· < ·) := List.Pairwise.filter _ List.pairwise_lt_range'
  have e := sortNR_eq (bs := numbered p (sheetAll p g)) (ys := (numsN tm p (p ^ (2 * g + 3) - p)).map fun n => (n, polN p n)) ?_ ?_
  · unfold sheetsN
    rw [e, List.map_map]
    rfl
  · refine perm_of ?_ ?_ fun q => ?_
    · refine nodup_of_map (·.1) ?_
      rw [List.map_map]
      show ((numsN tm p (p ^ (2 * g + 3) - p)).map id).Nodup
      rw [List.map_id]
      exact hnd.imp fun q => Nat.ne_of_lt q
    · refine nodup_of_map (·.1) ?_
      unfold numbered
      rw [List.map_map]
      exact h2
    · unfold numbered
      rw [List.mem_map, List.mem_map]
      constructor
      · rintro ⟨n, q1, rfl⟩
        obtain ⟨r, q2, rfl⟩ := List.mem_map.mp ((h3 n).mp ((hmem n).mp q1))
        exact ⟨r, q2, by rw [hrow r q2]⟩
      · rintro ⟨r, q1, rfl⟩
        exact ⟨numR p r, (hmem _).mpr ((h3 _).mpr (List.mem_map_of_mem q1)), by rw [hrow r q1]⟩
  · rw [List.pairwise_map]
    exact hnd
/-! ### a case -/
def ndB : List Int → Bool
  | [] => true
  | x :: l => l.all (fun y => !decide (x = y)) && ndB l
theorem nd_of : ∀ {l : List Int}, ndB l = true → l.Nodup
  | [], _ => .nil
  | x :: l, h => by
    unfold ndB at h
    obtain ⟨h1, h2⟩ := Bool.and_eq_true_iff.mp h
    refine List.nodup_cons.mpr ⟨fun w => ?_, nd_of h2⟩
    have := List.all_eq_true.mp h1 x w
    simp at this
/-- the first family's rows differ in their hashes -/
def apQ (p L n : Nat) : Option (Nat × List Nat) → Bool
  | none => false
  | some q => Nat.blt n (p ^ L) && Nat.ble q.2.length 500 && ndB (q.2.map fun x => hRow (dgN p L x))
def apB (p g : Nat) (F : List (Nat × Nat)) : Bool := apQ p (2 * g + 3) (F.headD (0, 0)).1 (gfL p (2 * g + 3) ((F.headD (0, 0)).2 + 1) (1 <<< (F.headD (0, 0)).1) [(F.headD (0, 0)).1] [(F.headD (0, 0)).1])
theorem ap_one {p L n f : Nat} (hp : PrP p) (hL : L ≤ 20) (h : apQ p L n (gfL p L f (1 <<< n) [n] [n]) = true) : ((rowsN p 500 (dgN p L n)).map hRow).Nodup := by
  cases hw : gfL p L f (1 <<< n) [n] [n] with
  | none => rw [hw] at h; cases h
  | some q =>
    obtain ⟨A, ks⟩ := q
    rw [hw] at h
    obtain ⟨h, h3⟩ := Bool.and_eq_true_iff.mp h
    obtain ⟨h1, h2⟩ := Bool.and_eq_true_iff.mp h
    have h1 : n < p ^ L := Nat.le_of_ble_eq_true h1
    have h2 := Nat.le_of_ble_eq_true h2
    obtain ⟨hB, hW⟩ := gfL_ok _ 0 _ _ _ _ _ .start .one hw
    obtain ⟨hR, hlt⟩ := rows_whole hp hL h1 hW
    obtain ⟨_, g2⟩ := gat_whole hR (N := 500) (by rw [List.length_map]; exact h2)
    have h3 := nd_of h3
    have e : (ks.map fun x => hRow (dgN p L x)) = (ks.map (dgN p L)).map hRow := by rw [List.map_map]; rfl
    simp only at h3
    rw [e] at h3
    exact ((g2.perm hR).map hRow).nodup_iff.mpr h3
theorem ap_ok {p g : Nat} (hp : PrP p) (hg : g ≤ 2) {F : List (Nat × Nat)} (h : apB p g F = true) : ∀ q F', F = q :: F' → ((rowsN p 500 (dgN p (2 * g + 3) q.1)).map hRow).Nodup := fun q F' e => by
  subst e
  exact ap_one hp (by omega) h
/-- what is reckoned by machine -/
structure Reckon (p g tm : Nat) (F : List (Nat × Nat)) : Prop where
  mask : maskB ((sheetAll p g).map (numR p)) 0 tm = true
  inn : inB p (2 * g + 3) tm = true
  scan : chk p g tm (p ^ (2 * g + 3) - p) p 0 F = true
  ap : apB p g F = true
  few : F.all (fun q => Nat.ble q.2 500) = true
  sum : (F.map (·.2)).sum ≤ 1000000
  count : cvN p g = partsN p (outF p F)
  share : shareN p g (outF p F) (outF p F) = true
  many : (outF p F).all (fun q => Nat.blt 0 q.2 && Nat.blt q.2 1073741824) = true
  fl : F.length ≤ 16000000
theorem plain_of {p g tm : Nat} {F : List (Nat × Nat)} (h : Reckon p g tm F) (hp : PrP p) (hg : g ≤ 2) (hm : makN p = fgN p) (hcm : chN p = mcN p) (hsz : p ^ (2 * g + 2) ≤ 100000) (hs2 : p ^ (2 * g + 3) ≤ 4000) (hcv : cvN p g ≤ 100000) (hch : chN p ≤ 100000) : PlainOk p g 500 := by
  have hp2 : 2 ≤ p := by have := hp.le; omega
  have hpl : p ≤ p ^ (2 * g + 3) := by
    have := Nat.pow_le_pow_right (show 0 < p by omega) (show 1 ≤ 2 * g + 3 by omega)
    rwa [Nat.pow_one] at this
  have S := scan_of (N := 500) hp hg hm (by decide) (p ^ (2 * g + 3) - p) p 0 F (by omega) (fun q hq => Nat.le_of_ble_eq_true (List.all_eq_true.mp h.few q hq)) h.scan
  obtain ⟨f1, f2⟩ := scan_fam hp S 0 rfl (by omega) (fun x hx => ⟨fun q => (List.not_mem_nil q).elim, fun q => by rw [Nat.zero_testBit] at q; cases q⟩) (.inr (ap_ok hp hg h.ap))
  obtain ⟨l1, l2⟩ := scan_lot (Lf := lotN p) hp hcm (fun n c A Q => ⟨Q.llen, Q.lmem⟩) S ([], []) (by omega) (fun x hx => ⟨fun q => (List.not_mem_nil q).elim, fun q => by rw [Nat.zero_testBit] at q; cases q⟩)
  rw [← sheets_eq hp hg h.mask h.inn] at l1 l2
  have e1 : famN p g 500 = outF p F := by
    unfold famN
    rw [← Nat.zero_add (p ^ (2 * g + 3) - p), f1]
    rfl
  have e2 : lotsN p g = outF p F := l1
  have hs := h.sum
  refine ⟨⟨⟨hp, hg, hsz⟩, Nat.le_trans l2 (by show 0 + _ ≤ _; omega)⟩, ⟨hp, hg, hcv, hch, hs2, Nat.le_refl _, fun k hk ht => f2 k (Nat.zero_le _) (by omega) ht⟩, e1.trans e2.symm, ?_, ?_, ?_⟩ <;> rw [e2]
  · refine ⟨by unfold outF; rw [List.length_map]; exact h.fl, fun q hq => ?_⟩
    obtain ⟨a, b⟩ := Bool.and_eq_true_iff.mp (List.all_eq_true.mp h.many q hq)
    exact ⟨Nat.le_of_ble_eq_true a, Nat.le_of_ble_eq_true b⟩
  · exact h.count
  · exact h.share
end Tw
end STwL4
section STwL4b
set_option Elab.async false
set_option linter.all false
set_option maxRecDepth 100000
set_option maxHeartbeats 4000000
/-! The plain law (4b): a scan and a mask in parts. -/
namespace Tw
/-- the scan of a part: it ends with the mask that is told -/
def chkP (p g tm M' : Nat) : Nat → Nat → Nat → List (Nat × Nat) → Bool
  | 0, _, M, F => F.isEmpty && Nat.beq M M'
  | k + 1, n, M, F =>
    bif tm.testBit n then
      bif M.testBit n then chkP p g tm M' k (n + 1) M F
      else match F with
        | [] => false
        | q :: F => (goodN p g n && Nat.beq q.1 n) && (match gfL p (2 * g + 3) (q.2 + 1) (1 <<< n) [n] [n] with
          | none => false
          | some (A, ks) => newB p (2 * g + 3) n q.2 A ks && chkP p g tm M' k (n + 1) (M ||| A) F)
    else !goodN p g n && chkP p g tm M' k (n + 1) M F
theorem chk_app {p g tm M' k2 : Nat} {F2 : List (Nat × Nat)} : ∀ (k n M : Nat) (F : List (Nat × Nat)), chkP p g tm M' k n M F = true → chk p g tm k2 (n + k) M' F2 = true → chk p g tm (k2 + k) n M (F ++ F2) = true
  | 0, n, M, F, h, h2 => by
    unfold chkP at h
    obtain ⟨h3, h4⟩ := Bool.and_eq_true_iff.mp h
    rw [List.isEmpty_iff.mp h3, Nat.eq_of_beq_eq_true h4]
    exact h2
  | k + 1, n, M, F, h, h2 => by
    have h2 : chk p g tm k2 (n + 1 + k) M' F2 = true := by rw [Nat.add_right_comm, Nat.add_assoc]; exact h2
    show chk p g tm (k2 + k + 1) n M (F ++ F2) = true
    unfold chkP at h
    unfold chk
    cases h1 : tm.testBit n with
    | false =>
      rw [h1] at h
      obtain ⟨h3, h4⟩ := Bool.and_eq_true_iff.mp h
      exact Bool.and_eq_true_iff.mpr ⟨h3, chk_app k (n + 1) M F h4 h2⟩
    | true =>
      rw [h1] at h
      cases h5 : M.testBit n with
      | true =>
        rw [h5] at h
        exact chk_app k (n + 1) M F h h2
      | false =>
        rw [h5] at h
        match F, h with
        | [], h => cases h
        | q :: F, h =>
          obtain ⟨h3, h4⟩ := Bool.and_eq_true_iff.mp h
          refine Bool.and_eq_true_iff.mpr ⟨h3, ?_⟩
          cases hw : gfL p (2 * g + 3) (q.2 + 1) (1 <<< n) [n] [n] with
          | none => rw [hw] at h4; cases h4
          | some z =>
            obtain ⟨A, ks⟩ := z
            rw [hw] at h4
            obtain ⟨h6, h7⟩ := Bool.and_eq_true_iff.mp h4
            exact Bool.and_eq_true_iff.mpr ⟨h6, chk_app k (n + 1) (M ||| A) F h7 h2⟩
theorem mask_app : ∀ (l : List Nat) {m : List Nat} {A B T : Nat}, maskB l A B = true → maskB m B T = true → maskB (l ++ m) A T = true
  | [], _, A, B, _, h, h2 => by
    have h : A = B := Nat.eq_of_beq_eq_true h
    subst h
    exact h2
  | x :: l, m, A, B, T, h, h2 => by
    unfold maskB at h
    show maskB (x :: (l ++ m)) A T = true
    unfold maskB
    cases q : A.testBit x with
    | true => rw [q] at h; cases h
    | false =>
      rw [q] at h
      exact mask_app l h h2
/-- the numbers of the rows over some monic ones -/
def numsOf (p : Nat) (ms : List (List Nat)) : List Nat := (ms.flatMap fun m => if freeN p m = true then (List.range (p - 1)).map fun i => timN p m (1 + i) else []).map (numR p)
theorem numsOf_app (p : Nat) (l m : List (List Nat)) : numsOf p (l ++ m) = numsOf p l ++ numsOf p m := by
  unfold numsOf
  rw [List.flatMap_append, List.map_append]
theorem numsOf_sheet {p g : Nat} : (sheetAll p g).map (numR p) = numsOf p ((degN g).flatMap (monsN p)) := by
  unfold numsOf sheetAll sheetD
  rw [List.flatMap_assoc]
/-- a part of the monic ones -/
def partM (p g a b : Nat) : List (List Nat) := (((degN g).flatMap (monsN p)).drop a).take b
theorem mask_part {p g a b c A B T : Nat} (h : maskB (numsOf p (partM p g a b)) A B = true) (e : a + b = c) (h2 : maskB (numsOf p (((degN g).flatMap (monsN p)).drop c)) B T = true) : maskB (numsOf p (((degN g).flatMap (monsN p)).drop a)) A T = true := by
  subst e
  rw [← List.take_append_drop b (((degN g).flatMap (monsN p)).drop a), numsOf_app, List.drop_drop]
  exact mask_app _ h h2
theorem mask_all {p g T : Nat} (h : maskB (numsOf p (((degN g).flatMap (monsN p)).drop 0)) 0 T = true) : maskB ((sheetAll p g).map (numR p)) 0 T = true := by
  rw [numsOf_sheet]
  exact h
theorem chk_join {p g tm M' k2 K n n2 M : Nat} {F F2 : List (Nat × Nat)} (k : Nat) (h : chkP p g tm M' k n M F = true) (e : n + k = n2) (e2 : k2 + k = K) (h2 : chk p g tm k2 n2 M' F2 = true) : chk p g tm K n M (F ++ F2) = true := by
  subst e
  subst e2
  exact chk_app k n M F h h2
theorem scan_all {p g tm n M k K : Nat} {F G : List (Nat × Nat)} (e : k = K) (eF : F = G) (h : chk p g tm K n M G = true) : chk p g tm k n M F = true := by
  rw [e, eF]
  exact h
end Tw
end STwL4b
section STwL5
set_option Elab.async false
set_option linter.all false
set_option maxRecDepth 1000000
set_option maxHeartbeats 4000000
/-! The plain law: p = 3, g = 0. -/
namespace Tw
def tm30 : Nat := 0x37addf8
def fi30 : List (Nat × Nat) := [(3, 12), (10, 6)]
theorem mask30 : maskB ((sheetAll 3 0).map (numR 3)) 0 tm30 = true := by decide +kernel
theorem scan30 : chk 3 0 tm30 (3 ^ (2 * 0 + 3) - 3) 3 0 fi30 = true := by decide +kernel
theorem ap30 : apB 3 0 fi30 = true := by decide +kernel
theorem share30 : shareN 3 0 (outF 3 fi30) (outF 3 fi30) = true := by decide +kernel
theorem count30 : cvN 3 0 = partsN 3 (outF 3 fi30) := by decide +kernel
theorem plain30 : PlainOk 3 0 500 :=
  plain_of ⟨mask30, by decide +kernel, scan30, ap30, by decide +kernel, by decide +kernel, count30, share30, by decide +kernel, by decide +kernel⟩ (by unfold PrP; decide) (by decide) (by decide +kernel) (by decide +kernel) (by decide +kernel) (by decide +kernel) (by decide +kernel) (by decide +kernel)
end Tw
end STwL5
section STwL6
set_option Elab.async false
set_option linter.all false
set_option maxRecDepth 1000000
set_option maxHeartbeats 4000000
/-! The plain law: p = 3, g = 1. -/
namespace Tw
def tm31 : Nat := 0x7f1aceefe27abdfab56dacdfaaf4bbf4ee6e7f36daecf7e2ecf6fc0000000
def fi31 : List (Nat × Nat) := [(30, 12), (33, 2), (34, 8), (35, 8), (37, 12), (38, 24), (46, 24), (47, 12), (82, 6), (86, 12), (92, 12), (101, 12)]
theorem mask31 : maskB ((sheetAll 3 1).map (numR 3)) 0 tm31 = true := by decide +kernel
theorem scan31 : chk 3 1 tm31 (3 ^ (2 * 1 + 3) - 3) 3 0 fi31 = true := by decide +kernel
theorem ap31 : apB 3 1 fi31 = true := by decide +kernel
theorem share31 : shareN 3 1 (outF 3 fi31) (outF 3 fi31) = true := by decide +kernel
theorem count31 : cvN 3 1 = partsN 3 (outF 3 fi31) := by decide +kernel
theorem plain31 : PlainOk 3 1 500 :=
  plain_of ⟨mask31, by decide +kernel, scan31, ap31, by decide +kernel, by decide +kernel, count31, share31, by decide +kernel, by decide +kernel⟩ (by unfold PrP; decide) (by decide) (by decide +kernel) (by decide +kernel) (by decide +kernel) (by decide +kernel) (by decide +kernel) (by decide +kernel)
end Tw
end STwL6
section STwL7
set_option Elab.async false
set_option linter.all false
set_option maxRecDepth 1000000
set_option maxHeartbeats 4000000
/-! The plain law: p = 5, g = 0. -/
namespace Tw
def tm50 : Nat := 0x1d7bfbebef77f6ef7df9fdebfdffffe0
def fi50 : List (Nat × Nat) := [(5, 60), (27, 40)]
theorem mask50 : maskB ((sheetAll 5 0).map (numR 5)) 0 tm50 = true := by decide +kernel
theorem scan50 : chk 5 0 tm50 (5 ^ (2 * 0 + 3) - 5) 5 0 fi50 = true := by decide +kernel
theorem ap50 : apB 5 0 fi50 = true := by decide +kernel
theorem share50 : shareN 5 0 (outF 5 fi50) (outF 5 fi50) = true := by decide +kernel
theorem count50 : cvN 5 0 = partsN 5 (outF 5 fi50) := by decide +kernel
theorem plain50 : PlainOk 5 0 500 :=
  plain_of ⟨mask50, by decide +kernel, scan50, ap50, by decide +kernel, by decide +kernel, count50, share50, by decide +kernel, by decide +kernel⟩ (by unfold PrP; decide) (by decide) (by decide +kernel) (by decide +kernel) (by decide +kernel) (by decide +kernel) (by decide +kernel) (by decide +kernel)
end Tw
end STwL7
section STwL8
set_option Elab.async false
set_option linter.all false
set_option maxRecDepth 1000000
set_option maxHeartbeats 4000000
/-! The plain law: p = 7, g = 0. -/
namespace Tw
def tm70 : Nat := 0x5f7fdfbbfbff9ff7bf7fbbffdbfdfdfbef7feef7dfbfbfdff7ddfefdeffbfbdfddfbfefbfdffffffffff80
def fi70 : List (Nat × Nat) := [(7, 168), (50, 126)]
theorem mask70 : maskB ((sheetAll 7 0).map (numR 7)) 0 tm70 = true := by decide +kernel
theorem scan70 : chk 7 0 tm70 (7 ^ (2 * 0 + 3) - 7) 7 0 fi70 = true := by decide +kernel
theorem ap70 : apB 7 0 fi70 = true := by decide +kernel
theorem share70 : shareN 7 0 (outF 7 fi70) (outF 7 fi70) = true := by decide +kernel
theorem count70 : cvN 7 0 = partsN 7 (outF 7 fi70) := by decide +kernel
theorem plain70 : PlainOk 7 0 500 :=
  plain_of ⟨mask70, by decide +kernel, scan70, ap70, by decide +kernel, by decide +kernel, count70, share70, by decide +kernel, by decide +kernel⟩ (by unfold PrP; decide) (by decide) (by decide +kernel) (by decide +kernel) (by decide +kernel) (by decide +kernel) (by decide +kernel) (by decide +kernel)
end Tw
end STwL8
section STwL9
set_option Elab.async false
set_option linter.all false
set_option maxRecDepth 1000000
set_option maxHeartbeats 4000000
/-! The plain law: p = 3, g = 2, in parts. -/
namespace Tw
def tm32 : Nat := 0x6fab5ec3d5d3e47ef777becfef66727ddeb54fba5f6ed5fbd5ee5b773a89ee56b375f6755f39d7e7f3d3ccfedf77af96af32eaf57ecb6f9f5ee7e2f1add8d7679f1767b7f9296e777f1ed5efe67b6dfab757aedf8776bbf1b66f7e2fdf6ed2fb55ee5f373c8ecdf769e47cfa778fdeef67d9fddeee4dbc5ea9775ae57ef76f9f5d66e4f335ccde573ecfa7f73afcfe7e69af9beef4eaf566fd57aedfa776bbf9b66f67bd1ae7b5e2ed22ff379eceefc67abdf8b76dbf0fef67da7c9eee4fbe1eaed5fbed2e5f7abe0beee76bd98efa7c87deeef1fbccd67e77af9bef36e2f566eb5e9f5eedf6e3acfcde6eb8cfabe1dafcfee70000000000000000000000000000000000000000000000000000000000000
def fi32 : List (Nat × Nat) := [(244, 24), (245, 24), (246, 12), (249, 6), (250, 24), (251, 24), (253, 12), (254, 24), (255, 24), (256, 24), (257, 24), (258, 24), (259, 24), (262, 24), (263, 12), (264, 24), (265, 24), (266, 24), (267, 24), (269, 24), (274, 24), (275, 24), (276, 24), (281, 24), (283, 24), (285, 8), (287, 24), (289, 24), (293, 24), (294, 8), (295, 24), (298, 24), (299, 24), (304, 24), (307, 24), (310, 12), (311, 24), (314, 24), (317, 24), (319, 24), (320, 12), (322, 24), (734, 24), (740, 12), (742, 24), (748, 12), (749, 12), (812, 12), (820, 1), (821, 4), (829, 12), (854, 8), (857, 24), (893, 12), (905, 24), (911, 4), (913, 24), (974, 24), (985, 24), (998, 24), (1003, 12), (1007, 24), (1021, 6), (1022, 24), (1042, 8), (1046, 24), (1469, 12), (1640, 1), (1742, 6)]
def mk32_1 : Nat := 0xfef67da7c9eee4fbe1ea000038c0000003e0beee76bd98efa7c87deeef1f8000000000003ef36e2f566eb5e9f5eedf6e3acfcde6eb8cfabe1dafcfee70000000000000000000000000000000000000000000000000000000000000
def mk32_2 : Nat := 0x1d8d767800007b7f9296e0000000000000000000057aedf8776bbf1b66f7e000000000000000000000000000000000000000000000000000000000000000000000000000000000000000000000000000000000000000000000000000000000000000000000000001ae7b5e2ed22ff379eceefc67abdf8b76dbf0fef67da7c9eee4fbe1eaed5fbed2e5f7abe0beee76bd98efa7c87deeef1fbccd67e77af9bef36e2f566eb5e9f5eedf6e3acfcde6eb8cfabe1dafcfee70000000000000000000000000000000000000000000000000000000000000
def mk32_3 : Nat := 0x7e0077800000000000000000001f6ed5fbd5ee5b773a89e0000000000000000000000000000000000000000000000000000000000001d8d7679f1767b7f9296e777f1ed5efe67b6dfab757aedf8776bbf1b66f7e000000000000000000000000000000000000000000000000000000000000000000000000000000000000000000000000073afcfe7e69af9beef4eaf566fd57aedfa776bbf9b66f67bd1ae7b5e2ed22ff379eceefc67abdf8b76dbf0fef67da7c9eee4fbe1eaed5fbed2e5f7abe0beee76bd98efa7c87deeef1fbccd67e77af9bef36e2f566eb5e9f5eedf6e3acfcde6eb8cfabe1dafcfee70000000000000000000000000000000000000000000000000000000000000
def mk32_4 : Nat := 0x6fab5ec3d5d3e47ef777becfef66727ddeb54fba5f6ed5fbd5ee5b773a89e00000000000000000000000000000000000000002f546cb00000007e2f1add8d7679f1767b7f9296e777f1ed5efe67b6dfab757aedf8776bbf1b66f7e0000000000000000000000000000000000000000000000001eee4dbc5ea9775ae57ef76f9f5d66e4f335ccde573ecfa7f73afcfe7e69af9beef4eaf566fd57aedfa776bbf9b66f67bd1ae7b5e2ed22ff379eceefc67abdf8b76dbf0fef67da7c9eee4fbe1eaed5fbed2e5f7abe0beee76bd98efa7c87deeef1fbccd67e77af9bef36e2f566eb5e9f5eedf6e3acfcde6eb8cfabe1dafcfee70000000000000000000000000000000000000000000000000000000000000
theorem pm32_0 : maskB (numsOf 3 (partM 3 2 0 195)) 0 mk32_1 = true := by decide +kernel
theorem pm32_1 : maskB (numsOf 3 (partM 3 2 195 195)) mk32_1 mk32_2 = true := by decide +kernel
theorem pm32_2 : maskB (numsOf 3 (partM 3 2 390 195)) mk32_2 mk32_3 = true := by decide +kernel
theorem pm32_3 : maskB (numsOf 3 (partM 3 2 585 195)) mk32_3 mk32_4 = true := by decide +kernel
theorem pm32_4 : maskB (numsOf 3 (partM 3 2 780 192)) mk32_4 tm32 = true := by decide +kernel
theorem rm32_5 : maskB (numsOf 3 (((degN 2).flatMap (monsN 3)).drop 972)) tm32 tm32 = true := by decide +kernel
theorem rm32_4 : maskB (numsOf 3 (((degN 2).flatMap (monsN 3)).drop 780)) mk32_4 tm32 = true := mask_part (c := 972) pm32_4 rfl rm32_5
theorem rm32_3 : maskB (numsOf 3 (((degN 2).flatMap (monsN 3)).drop 585)) mk32_3 tm32 = true := mask_part (c := 780) pm32_3 rfl rm32_4
theorem rm32_2 : maskB (numsOf 3 (((degN 2).flatMap (monsN 3)).drop 390)) mk32_2 tm32 = true := mask_part (c := 585) pm32_2 rfl rm32_3
theorem rm32_1 : maskB (numsOf 3 (((degN 2).flatMap (monsN 3)).drop 195)) mk32_1 tm32 = true := mask_part (c := 390) pm32_1 rfl rm32_2
theorem rm32_0 : maskB (numsOf 3 (((degN 2).flatMap (monsN 3)).drop 0)) 0 tm32 = true := mask_part (c := 195) pm32_0 rfl rm32_1
theorem mask32 : maskB ((sheetAll 3 2).map (numR 3)) 0 tm32 = true := mask_all rm32_0
def ms32_1 : Nat := 0x0
def ms32_2 : Nat := 0x90000c4000008800008000204200000800028000200800000110030008600800000240008020001800000040001020000a00000810001100000c0800000000000000000000020001080800050040024000885000031100048120d04000021100000200004800201000000200014400310200020050000004100a000a4020000008000200000120001008000580004210001c4000000400010000000400000040000000000000000000012800403000011080000890f8f60003018000800000ed0038c28003000000200028006001000000e31f980c000762f80080000014000061f4001f000000800020000014018003ee70000000000000000000000000000000000000000000000000000000000000
def ms32_3 : Nat := 0x1091080c400000880328805a2042018108000281522008090081100300086008000042418080202d1808880043281020000a09040812a81100000c081c000000700000000004c20181080884050044824100885004031100448120d84220029102000201804801221002800208114c20390a00824053000004108a100a6028100008060214000120045009100d84024210111c440c000402812a04882508890942422b8000290e000000012884403002811089000890fef67d8301aa00880048ed5fbec2a1430000142430280863014001eeef1f980c21477af9be810009142a0061f5eedf00108488422000181405afcfee70000000000000000000000000000000000000000000000000000000000000
def ms32_4 : Nat := 0x7891482c500000a82328885a304203998a00028552241819168110030818640a000c6241a084242d18188f00632a1028000a8b168812a89108000d181c886000f06400000004c263a18c4cac07a44d8b4128885025031109448120d852280a911a800321884817321a06800228194c24390a4d8a4053040015508a170a622910002c0713148001228c5829110d8d834210911c450c80142ac12a8ce8250bad0946c22b9000291e0000000128844c74028995890489b0fef67da7c9eee08a2048ed5fbed2e5f7a920142476bd98e3014015eeef1fbccd67e77af9be812809166eb5e9f5eedf24108488422084fabe1dafcfee70000000000000000000000000000000000000000000000000000000000000
def ms32_5 : Nat := 0xf891483c581a04ea6329c85a3642039d8a40ab85522d1b191e811323881ce44a131c6241a09c6c2d18188f88e32a9868a10e8b178812a9954c2c0f189c886228f064297e0004c263a18c4cac07a44d8b412a8d58250b9d0946c5a0d9522d0a911e80e32388481f321a078b03289d4c36390b5d8a4053854815508a178a62a994c42c0f131c8941238c582d138d8f834212991c650e8d142ac12a8ce8250bad0946c22b910c291e0c800fc1298c4c740789958b4489b0fef67da7c9eee4fbe1eaed5fbed2e5f7abe0beee76bd98efa7c87deeef1fbccd67e77af9bef36e2f566eb5e9f5eedf6e3acfcde6eb8cfabe1dafcfee70000000000000000000000000000000000000000000000000000000000000
def ms32_6 : Nat := 0x2f891483c5c1a04eb6329e85a3642039dab40ab85522d1b991ea11323881ee46a131d6241a09d6c2d18188face32a9968a10e8b17a812a9954e2c0f18dc886228f064297e0004c263a1ac4cac27a44d8b512a8d58250b9d0946c5a2d9522d2a951e80e32388681f329a078b03289d4e36398b5d8a605b85481554aa178b62a994c42c0f131c8945238c5a2d138dcf83621a991e650e8d142ac12a8ce8250bad0946c22b91ae291e2ec00fc1298ceefc07abdf8b46dbf0fef67da7c9eee4fbe1eaed5fbed2e5f7abe0beee76bd98efa7c87deeef1fbccd67e77af9bef36e2f566eb5e9f5eedf6e3acfcde6eb8cfabe1dafcfee70000000000000000000000000000000000000000000000000000000000000
def ms32_7 : Nat := 0x2f8956c3d5d1a44eb7329ec5a364323ddab54aba5522d5b9d5ea51333a89ee56b135d6255b09d6e2d191ccfacf32a996ab12eab57a892a9956e2e2f1adc8d7228f176297e8016e373b1ad4eae27b64dab552aad58352b9d0966d5a2dd522d2a955ea4f333886c5f329a478ba3289d6e363d8b5daa645b856a9554aa57ab72a994d62e0f135c8d6533ac5a2d13adcfa3629a999e650ead562fd57aedfa776bbf9b66f67bd1ae7b5e2ed22ff379eceefc67abdf8b76dbf0fef67da7c9eee4fbe1eaed5fbed2e5f7abe0beee76bd98efa7c87deeef1fbccd67e77af9bef36e2f566eb5e9f5eedf6e3acfcde6eb8cfabe1dafcfee70000000000000000000000000000000000000000000000000000000000000
def ms32_8 : Nat := 0x2fab5ec3d5d3e45ef777becfe766727ddab54fba5f66d5fbd5ea5b773a89ee56b375d6755f19d7e7f3d3ccfadf77ab96af32eaf57acb6f9b5ee7e2f1add8d7679f1767b7e9296e777f1ad5efe27b6dfab557aadf8772bbf1b66d7e2fdf6ed2fb55ee5f373c8ecdf769e47cfa778fdeef67d9fddeee4dbc5ea9775ae57ef76f9f5d66e4f335ccde573ecfa7f73afcfe7e69af9beef4eaf566fd57aedfa776bbf9b66f67bd1ae7b5e2ed22ff379eceefc67abdf8b76dbf0fef67da7c9eee4fbe1eaed5fbed2e5f7abe0beee76bd98efa7c87deeef1fbccd67e77af9bef36e2f566eb5e9f5eedf6e3acfcde6eb8cfabe1dafcfee70000000000000000000000000000000000000000000000000000000000000
def ms32_9 : Nat := 0x6fab5ec3d5d3e45ef777becfe766727ddeb54fba5f66d5fbd5ee5b773a89ee56b375f6755f19d7e7f3d3ccfedf77ab96af32eaf57ecb6f9b5ee7e2f1add8d7679f1767b7e9296e777f1ed5efe67b6dfab757aedf8776bbf1b66f7e2fdf6ed2fb55ee5f373c8ecdf769e47cfa778fdeef67d9fddeee4dbc5ea9775ae57ef76f9f5d66e4f335ccde573ecfa7f73afcfe7e69af9beef4eaf566fd57aedfa776bbf9b66f67bd1ae7b5e2ed22ff379eceefc67abdf8b76dbf0fef67da7c9eee4fbe1eaed5fbed2e5f7abe0beee76bd98efa7c87deeef1fbccd67e77af9bef36e2f566eb5e9f5eedf6e3acfcde6eb8cfabe1dafcfee70000000000000000000000000000000000000000000000000000000000000
def fi32_0 : List (Nat × Nat) := []
def fi32_1 : List (Nat × Nat) := [(244, 24), (245, 24), (246, 12), (249, 6), (250, 24), (251, 24), (253, 12), (254, 24), (255, 24), (256, 24), (257, 24)]
def fi32_2 : List (Nat × Nat) := [(258, 24), (259, 24), (262, 24), (263, 12), (264, 24), (265, 24), (266, 24), (267, 24), (269, 24), (274, 24)]
def fi32_3 : List (Nat × Nat) := [(275, 24), (276, 24), (281, 24), (283, 24), (285, 8), (287, 24), (289, 24), (293, 24), (294, 8), (295, 24), (298, 24)]
def fi32_4 : List (Nat × Nat) := [(299, 24), (304, 24), (307, 24), (310, 12), (311, 24), (314, 24), (317, 24), (319, 24), (320, 12), (322, 24)]
def fi32_5 : List (Nat × Nat) := [(734, 24), (740, 12), (742, 24)]
def fi32_6 : List (Nat × Nat) := [(748, 12), (749, 12), (812, 12), (820, 1), (821, 4), (829, 12), (854, 8), (857, 24), (893, 12), (905, 24), (911, 4), (913, 24)]
def fi32_7 : List (Nat × Nat) := [(974, 24), (985, 24), (998, 24), (1003, 12), (1007, 24), (1021, 6), (1022, 24), (1042, 8), (1046, 24)]
def fi32_8 : List (Nat × Nat) := [(1469, 12)]
def fi32_9 : List (Nat × Nat) := [(1640, 1), (1742, 6)]
theorem ps32_0 : chkP 3 2 tm32 ms32_1 238 3 0 fi32_0 = true := by decide +kernel
theorem ps32_1 : chkP 3 2 tm32 ms32_2 17 241 ms32_1 fi32_1 = true := by decide +kernel
theorem ps32_2 : chkP 3 2 tm32 ms32_3 17 258 ms32_2 fi32_2 = true := by decide +kernel
theorem ps32_3 : chkP 3 2 tm32 ms32_4 24 275 ms32_3 fi32_3 = true := by decide +kernel
theorem ps32_4 : chkP 3 2 tm32 ms32_5 24 299 ms32_4 fi32_4 = true := by decide +kernel
theorem ps32_5 : chkP 3 2 tm32 ms32_6 420 323 ms32_5 fi32_5 = true := by decide +kernel
theorem ps32_6 : chkP 3 2 tm32 ms32_7 171 743 ms32_6 fi32_6 = true := by decide +kernel
theorem ps32_7 : chkP 3 2 tm32 ms32_8 140 914 ms32_7 fi32_7 = true := by decide +kernel
theorem ps32_8 : chkP 3 2 tm32 ms32_9 567 1054 ms32_8 fi32_8 = true := by decide +kernel
theorem rs32_9 : chk 3 2 tm32 566 1621 ms32_9 fi32_9 = true := by decide +kernel
theorem rs32_8 : chk 3 2 tm32 1133 1054 ms32_8 (fi32_8 ++ fi32_9) = true := chk_join 567 ps32_8 rfl rfl rs32_9
theorem rs32_7 : chk 3 2 tm32 1273 914 ms32_7 (fi32_7 ++ (fi32_8 ++ fi32_9)) = true := chk_join 140 ps32_7 rfl rfl rs32_8
theorem rs32_6 : chk 3 2 tm32 1444 743 ms32_6 (fi32_6 ++ (fi32_7 ++ (fi32_8 ++ fi32_9))) = true := chk_join 171 ps32_6 rfl rfl rs32_7
theorem rs32_5 : chk 3 2 tm32 1864 323 ms32_5 (fi32_5 ++ (fi32_6 ++ (fi32_7 ++ (fi32_8 ++ fi32_9)))) = true := chk_join 420 ps32_5 rfl rfl rs32_6
theorem rs32_4 : chk 3 2 tm32 1888 299 ms32_4 (fi32_4 ++ (fi32_5 ++ (fi32_6 ++ (fi32_7 ++ (fi32_8 ++ fi32_9))))) = true := chk_join 24 ps32_4 rfl rfl rs32_5
theorem rs32_3 : chk 3 2 tm32 1912 275 ms32_3 (fi32_3 ++ (fi32_4 ++ (fi32_5 ++ (fi32_6 ++ (fi32_7 ++ (fi32_8 ++ fi32_9)))))) = true := chk_join 24 ps32_3 rfl rfl rs32_4
theorem rs32_2 : chk 3 2 tm32 1929 258 ms32_2 (fi32_2 ++ (fi32_3 ++ (fi32_4 ++ (fi32_5 ++ (fi32_6 ++ (fi32_7 ++ (fi32_8 ++ fi32_9))))))) = true := chk_join 17 ps32_2 rfl rfl rs32_3
theorem rs32_1 : chk 3 2 tm32 1946 241 ms32_1 (fi32_1 ++ (fi32_2 ++ (fi32_3 ++ (fi32_4 ++ (fi32_5 ++ (fi32_6 ++ (fi32_7 ++ (fi32_8 ++ fi32_9)))))))) = true := chk_join 17 ps32_1 rfl rfl rs32_2
theorem rs32_0 : chk 3 2 tm32 2184 3 0 (fi32_0 ++ (fi32_1 ++ (fi32_2 ++ (fi32_3 ++ (fi32_4 ++ (fi32_5 ++ (fi32_6 ++ (fi32_7 ++ (fi32_8 ++ fi32_9))))))))) = true := chk_join 238 ps32_0 rfl rfl rs32_1
theorem fe32 : fi32 = (fi32_0 ++ (fi32_1 ++ (fi32_2 ++ (fi32_3 ++ (fi32_4 ++ (fi32_5 ++ (fi32_6 ++ (fi32_7 ++ (fi32_8 ++ fi32_9))))))))) := by decide +kernel
theorem scan32 : chk 3 2 tm32 (3 ^ (2 * 2 + 3) - 3) 3 0 fi32 = true := scan_all (K := 2184) (by decide +kernel) fe32 rs32_0
theorem ap32 : apB 3 2 fi32 = true := by decide +kernel
theorem share32 : shareN 3 2 (outF 3 fi32) (outF 3 fi32) = true := by decide +kernel
theorem count32 : cvN 3 2 = partsN 3 (outF 3 fi32) := by decide +kernel
theorem plain32 : PlainOk 3 2 500 :=
  plain_of ⟨mask32, by decide +kernel, scan32, ap32, by decide +kernel, by decide +kernel, count32, share32, by decide +kernel, by decide +kernel⟩ (by unfold PrP; decide) (by decide) (by decide +kernel) (by decide +kernel) (by decide +kernel) (by decide +kernel) (by decide +kernel) (by decide +kernel)
end Tw
end STwL9
section STwL10
set_option Elab.async false
set_option linter.all false
set_option maxRecDepth 1000000
set_option maxHeartbeats 4000000
/-! The plain law: p = 5, g = 1, in parts. -/
namespace Tw
def tm51 : Nat := 0xfdddfeffec7d7f3f7fb7fffb8dff3f6ffb7fe65ffffbe7fdb5b7befeffdbcb7f7eff3ff7e7d6f9ffabbdfbf71bffd9f7dbfc7b7ffa7ff3ff7bffdf3fcfb6d5ffebcffbdf77bfff3bf5aff9bdef7eaf3ff77bff7eafd7dfd7faffefebf3e7ff75fbb7bbfdf7fbfae7ebf76a7fff177fffcfbdfbeff9ffd7ebfe3bff9eb9fff2ae7fffed5dfdbfbebfdfd3febfcffbdfb7f39feb3ffe75efffd67bdeff6ff5ffb6feefdefffb65bbffe7edf9b9df5ff9fefbf67ef7df7ffbafad3ffddf5fddcffbbfb777b7fabbfffdffcecefd7fbf6fafdfbbfffadffb97c9fedf77bfff68fff9edf39ff6ffbdfd77bdefaffff9df3ffbefff59b76fbef9bf77f57ef77efe7fab1fbfffbfebfddffb5dadf7b7f6bf9fdbffe9fdfbfbee737ffd7bffbbbbf3ffd9d7ff6eeefdf7ddf6ebeb5fddefffdcffbdfe2fff5baf7bdfdfdff9ab7fbfe6beffbbf7fbadf9b7febbbffb7ffa7bbffb779be7ffa9ffedf7feebd9faffdddb7ffcfff9bd37ff9fb9fdff5fefedcfbffa73bf7fdbed9ffc0000000000000000000000000000000
def fi51 : List (Nat × Nat) := [(126, 120), (127, 120), (130, 30), (131, 240), (132, 120), (135, 60), (136, 240), (140, 60), (142, 240), (145, 30), (146, 120), (147, 240), (626, 30), (627, 60), (628, 60), (634, 120), (651, 30), (652, 120), (662, 120), (663, 120), (679, 60), (682, 60)]
def mk51_1 : Nat := 0x15ffebcfe00070000000000001bdef7e000000000000000000000000000000000000000000000000000000000000000000000000000000000000000000000000000000000000000000000000000000000007f39fe80000000f81567bdeff00000000000000000000000000000000000000000000000000000000000000000000000000000000000000000000000000000000000000000000000000000501f068000001f39ff600000077bdef800000000000000000000000000000000000000000000000000000000000000000000000000000000000000000000000000000000000000000000000000000000000000000000dfe2fff5baf7bdfdfdff9ab7fbfe6beffbbf7fbadf9b7febbbffb7ffa7bbffb779be7ffa9ffedf7feebd9faffdddb7ffcfff9bd37ff9fb9fdff5fefedcfbffa73bf7fdbed9ffc0000000000000000000000000000000
def mk51_2 : Nat := 0xfdddfeffec7d7f3f7fb7fffb8dff3f600000000000000000000000000000000000000000000000000000000000000000000000000000000000000000000015ffebcffbdf77bfff3bf5aff9bdef7e00000000000000000000000000000007ff75fbb7bbfdf7fbfae7ebf76a7fff000000000000000000000000000000000000000000000000000000000000000ffbdfb7f39feb3ffe75efffd67bdeff000000000000000000000000000000000000000000000000000000000000001f5fddcffbbfb777b7fabbfffdffcece00000000000000000000000000000007bfff68fff9edf39ff6ffbdfd77bdef80000000000000000000000000000000000000000000000000000000000000000000000000000000000000000000007bffbbbbf3ffd9d7ff6eeefdf7ddf6ebeb5fddefffdcffbdfe2fff5baf7bdfdfdff9ab7fbfe6beffbbf7fbadf9b7febbbffb7ffa7bbffb779be7ffa9ffedf7feebd9faffdddb7ffcfff9bd37ff9fb9fdff5fefedcfbffa73bf7fdbed9ffc0000000000000000000000000000000
def mk51_3 : Nat := 0xfdddfeffec7d7f3f7fb7fffb8dff3f6ffb7fe65ffffbe7fdb5b7befeffdbcb7f7eff3fd003c00000000000071bffd800000000000000000000000000000015ffebcffbdf77bfff3bf5aff9bdef7e0000007bff7e80000000f837efebf3e7ff75fbb7bbfdf7fbfae7ebf76a7fff00000000000000000000000000000001fff2ae7fffed5dfdbfbebfdfd3febfcffbdfb7f39feb3ffe75efffd67bdeff6ff5ffb6feefdefffb65bbffe7edf9b80000000000000000000000000000001f5fddcffbbfb777b7fabbfffdffceceb83e0f0000003bfffac0000009fedf77bfff68fff9edf39ff6ffbdfd77bdef80000000000000000000000000000000000000000000000fffbfebfddffb5dadf7b7f6bf9fdbffe9fdfbfbee737ffd7bffbbbbf3ffd9d7ff6eeefdf7ddf6ebeb5fddefffdcffbdfe2fff5baf7bdfdfdff9ab7fbfe6beffbbf7fbadf9b7febbbffb7ffa7bbffb779be7ffa9ffedf7feebd9faffdddb7ffcfff9bd37ff9fb9fdff5fefedcfbffa73bf7fdbed9ffc0000000000000000000000000000000
theorem pm51_0 : maskB (numsOf 5 (partM 5 1 0 188)) 0 mk51_1 = true := by decide +kernel
theorem pm51_1 : maskB (numsOf 5 (partM 5 1 188 188)) mk51_1 mk51_2 = true := by decide +kernel
theorem pm51_2 : maskB (numsOf 5 (partM 5 1 376 188)) mk51_2 mk51_3 = true := by decide +kernel
theorem pm51_3 : maskB (numsOf 5 (partM 5 1 564 186)) mk51_3 tm51 = true := by decide +kernel
theorem rm51_4 : maskB (numsOf 5 (((degN 1).flatMap (monsN 5)).drop 750)) tm51 tm51 = true := by decide +kernel
theorem rm51_3 : maskB (numsOf 5 (((degN 1).flatMap (monsN 5)).drop 564)) mk51_3 tm51 = true := mask_part (c := 750) pm51_3 rfl rm51_4
theorem rm51_2 : maskB (numsOf 5 (((degN 1).flatMap (monsN 5)).drop 376)) mk51_2 tm51 = true := mask_part (c := 564) pm51_2 rfl rm51_3
theorem rm51_1 : maskB (numsOf 5 (((degN 1).flatMap (monsN 5)).drop 188)) mk51_1 tm51 = true := mask_part (c := 376) pm51_1 rfl rm51_2
theorem rm51_0 : maskB (numsOf 5 (((degN 1).flatMap (monsN 5)).drop 0)) 0 tm51 = true := mask_part (c := 188) pm51_0 rfl rm51_1
theorem mask51 : maskB ((sheetAll 5 1).map (numR 5)) 0 tm51 = true := mask_all rm51_0
def ms51_1 : Nat := 0x88ccc0020013011089111880100010889030002c88800040513006c0002080d028822c0805000002180d160020040c388180800020c40c1087140000006040008030846008c610004200118c62000000008810820408450080420000000450008818044408820000000000000010104418048208824000000000000000000000848200424808400c0400000080850000000000000002840400842120820840480861040420000000000000000000080c02040441806020400000000000000c028004414400280600000008002280428140214400000000000000404280000000000000014202004210a0838c00c00c300004080071c302000043c022c000028002c1c070244000040288303608000406c08211240600040014223200230320010010c4460600000880840010c6200c4218020004006318c00dcc00003ae0000fe0017980130001eb8013003807800e0741b0026000260f4c00b81e0e001d038009801b0026007813d800ee8000e3c00002770000004fc0000000000000000000000000000000
def ms51_2 : Nat := 0xcccee1120113819089199880109090c89130002ec8881140593826e0902484d02c832e0805010482980f9710240c0f3c81c1810420e40e10a7940084086041088438847008e71004420899ce720040a9408d10a20408450884622814284470088818044608a288240540045540301c44180482888264140982145102092c0080c4c240424808618c042500b0c0858124214802948402c604208421208618c04808610c0c24009252241480845024980c0644044180e220c0104d049014441c038204414402288e144c002884628042814023c40854880485009140c68402528405084a034206804210a0879c01c01c3082041800f3cf02142047c827c406028003c3c0f024c014050298327e0a01440fc08213240e04050114267200270720112210ccce0e210108a0844110ce600cc21902210420e739c00dff80003bfe000ffb817fb81f9801ebb81f003e07b81f0779be03e0983e0f7c0eb81e0f81dd07c1cf839b003e09fb9fd801fe801cfbc0073bf7000009ffc0000000000000000000000000000000
def ms51_3 : Nat := 0xcccee19a8193c1d0891dd8809890d4e891b0002fe88c11d2593826e89924a6d02e83af08054184d2980f9711268d0f3c81c1a18720f40f10b7d400c48a68518ca4b885700af71006528c99ce720042ad409d30a22c184d0984e2a816284cf00898188cce08a6883415400555c0303cc43885869882e4540d821751020dac0080cdc24046c898e19c042582b0c8859134216802d68402ce44218c6320a61cc06c88710e4c240096d22c158084d02c9c0c26460471c4f220c0105d44b034449c03c2446166022cce155c002c86628062c1e033e408d588048540b140e78402d6840d085a03c207846318a08fbc01d03c308e141900f3cf0a346147c827cc062a9003d7c1f025c03c150a98327e2a21c49fd08217241e041703542ef2002f0760156232ccce0e61032aa294c510dee00dc21b026314a0e739c00dff9ab03bfe680ffb817fbadf9b41ebb81fb03fa7b81fb779be03fa983edf7c0ebd9faf81ddb7c1cf839bd37e09fb9fd835fe82dcfbc1a73bf70580d9ffc0000000000000000000000000000000
def ms51_4 : Nat := 0x1cccee99e8193c3d2a93ddaa09c90f4ea93b804afea8e19d2593866ec9d24a6d2aec3af28554984f2984f971127cd0f3c85c1a1e722f42f52b7d4c0e4ca6859cca4ba95742af7522652cc99ce7220e2ad619fb1a2ad586d1d86e6ac163c6ef1099a1aaecf19b68c3435640755e031beccba85b6d986f4542dc31751c30dae02c1ede64056dadae1dc4c35c2b8e98dd136316c22d6c606ef4c25ad6b20ee1de16da8758ede240996d62c55898cd0ad9d8e2e468575d5f630e0515d4cb0b4ccbe23d255616e823ddf155c446d86e3c06ad5ea37ee08d5982c8d44b361efc406d68c4d18da27e30f856b5aa0afbd05d0bd349e541904f3cf0a746547c867cc866a9053d7d1f42dc47c950a98727e2a61cc9fd486972d1e241727552ef2892f0f68156672ccce1e65072aa694cd14dee84dd29b226734a0e739e1fdff9ab7fbfe6beffbbf7fbadf9b7febbbffb7ffa7bbffb779be7ffa9ffedf7feebd9faffdddb7ffcfff9bd37ff9fb9fdff5fefedcfbffa73bf7fdbed9ffc0000000000000000000000000000000
def ms51_5 : Nat := 0xfdddfe99ec1d3c3d6e97ddea0dc90f6ee97b805afee8e19db5b7befec9da4b6d7aec3af68756984fabbdfbf11a7cd9f7dbfc1b1e7a6f42fd6b7d5c0e4cb6d59cea4beb5746af7d2275acc9bdef7e8e2fd639fb3a2ad5d6d3d86eebe1e3c6ef30b9b5aaecf3bb68c7637660777e033bedcbad5b6db8ef45e3dc31f71e31dbe22c3edee4556dadae1dcdc37e2f8eb9dd17631ee23dec70eef5c25ad6bb4ee1df16daaf5cedf2419b6f66cdd898cf1ed9dcf2e46ad75d5f730f0d1df4db1bcccbf33d2556b6e833ddf9ddc4c6d86f3e2ead5eb37ef08fd986c8f4db371efe406f78ccf18de67f38f856b5aeaafbd85d0bdb69e741b76fbef9a746757ef77ec867ab05bd7d9f6adc47cb51adf7b7f6a61cd9fd686d7ad9e243727d5aefa89af0f6c1d6676eeefdf65076ea6b5cd16deec4ddadb22e735a2f7bdfdfdff9ab7fbfe6beffbbf7fbadf9b7febbbffb7ffa7bbffb779be7ffa9ffedf7feebd9faffdddb7ffcfff9bd37ff9fb9fdff5fefedcfbffa73bf7fdbed9ffc0000000000000000000000000000000
def ms51_6 : Nat := 0xfdddfeffec7d3e3d7fb7ddfb0dff3f6efb7bc45efefbe7fdb5b7befeffdbcb6f7eee3af7c7d6f9ffabbdfbf71bffd9f7dbfc7b7ffa7f62ff7b7dde3fcfb6d5ffebcbfbd767af7f33f5aff9bdef7eaf3ff779fb7aafd7dfd7da6fefebf3e6ef74fbb7bbfcf7fb6ae7ebf76a7fff137befcfbdfbedf9ef57ebfe3bff9eb9fff2ae7edfe55dfdbfae9ddfd3febfcefbdd97f39feb3ffe75eef7d27bdeff6ee5dfb6feefdeedfb45bbffe7edf9b9df5ff9defaf47ef7df5f7b2fad3ffddf5fddcbfbbda777b7f8bbddfdffceced96fbf6fafdfbb7efa9ffb97c9fedf779eff48fff9edf39ff67fbcf977bdefaefbf8dd1bfbefff59b76fbef9bf77f57ef77efe7fab0fbd7f9febdcdffb5dadf7b7f6bf9fd9fde8fd7bf9e6737ffd7aefb9baf1f7d9d7ff6eeefdf7ddf6ebeb5fddedefccdfbdb62fff5baf7bdfdfdff9ab7fbfe6beffbbf7fbadf9b7febbbffb7ffa7bbffb779be7ffa9ffedf7feebd9faffdddb7ffcfff9bd37ff9fb9fdff5fefedcfbffa73bf7fdbed9ffc0000000000000000000000000000000
def ms51_7 : Nat := 0xfdddfeffec7d7f3f7fb7fffb8dff3f6ffb7fe65ffffbe7fdb5b7befeffdbcb7f7eff3ff7e7d6f9ffabbdfbf71bffd9f7dbfc7b7ffa7ff3ff7bffdf3fcfb6d5ffebcffbdf77bfff3bf5aff9bdef7eaf3ff77bff7eafd7dfd7faffefebf3e7ff75fbb7bbfdf7fbfae7ebf76a7fff177fffcfbdfbeff9ffd7ebfe3bff9eb9fff2ae7fffed5dfdbfbebfdfd3febfcffbdfb7f39feb3ffe75efffd67bdeff6ff5ffb6feefdefffb65bbffe7edf9b9df5ff9fefbf67ef7df7ffbafad3ffddf5fddcffbbfb777b7fabbfffdffcecefd7fbf6fafdfbbfffadffb97c9fedf77bfff68fff9edf39ff6ffbdfd77bdefaffff9df3ffbefff59b76fbef9bf77f57ef77efe7fab1fbfffbfebfddffb5dadf7b7f6bf9fdbffe9fdfbfbee737ffd7bffbbbbf3ffd9d7ff6eeefdf7ddf6ebeb5fddefffdcffbdfe2fff5baf7bdfdfdff9ab7fbfe6beffbbf7fbadf9b7febbbffb7ffa7bbffb779be7ffa9ffedf7feebd9faffdddb7ffcfff9bd37ff9fb9fdff5fefedcfbffa73bf7fdbed9ffc0000000000000000000000000000000
def fi51_0 : List (Nat × Nat) := [(126, 120), (127, 120), (130, 30), (131, 240)]
def fi51_1 : List (Nat × Nat) := [(132, 120), (135, 60), (136, 240)]
def fi51_2 : List (Nat × Nat) := [(140, 60), (142, 240)]
def fi51_3 : List (Nat × Nat) := [(145, 30), (146, 120), (147, 240)]
def fi51_4 : List (Nat × Nat) := [(626, 30), (627, 60), (628, 60), (634, 120)]
def fi51_5 : List (Nat × Nat) := [(651, 30), (652, 120), (662, 120), (663, 120)]
def fi51_6 : List (Nat × Nat) := [(679, 60), (682, 60)]
def fi51_7 : List (Nat × Nat) := []
theorem ps51_0 : chkP 5 1 tm51 ms51_1 127 5 0 fi51_0 = true := by decide +kernel
theorem ps51_1 : chkP 5 1 tm51 ms51_2 5 132 ms51_1 fi51_1 = true := by decide +kernel
theorem ps51_2 : chkP 5 1 tm51 ms51_3 6 137 ms51_2 fi51_2 = true := by decide +kernel
theorem ps51_3 : chkP 5 1 tm51 ms51_4 5 143 ms51_3 fi51_3 = true := by decide +kernel
theorem ps51_4 : chkP 5 1 tm51 ms51_5 487 148 ms51_4 fi51_4 = true := by decide +kernel
theorem ps51_5 : chkP 5 1 tm51 ms51_6 29 635 ms51_5 fi51_5 = true := by decide +kernel
theorem ps51_6 : chkP 5 1 tm51 ms51_7 954 664 ms51_6 fi51_6 = true := by decide +kernel
theorem rs51_7 : chk 5 1 tm51 1507 1618 ms51_7 fi51_7 = true := by decide +kernel
theorem rs51_6 : chk 5 1 tm51 2461 664 ms51_6 (fi51_6 ++ fi51_7) = true := chk_join 954 ps51_6 rfl rfl rs51_7
theorem rs51_5 : chk 5 1 tm51 2490 635 ms51_5 (fi51_5 ++ (fi51_6 ++ fi51_7)) = true := chk_join 29 ps51_5 rfl rfl rs51_6
theorem rs51_4 : chk 5 1 tm51 2977 148 ms51_4 (fi51_4 ++ (fi51_5 ++ (fi51_6 ++ fi51_7))) = true := chk_join 487 ps51_4 rfl rfl rs51_5
theorem rs51_3 : chk 5 1 tm51 2982 143 ms51_3 (fi51_3 ++ (fi51_4 ++ (fi51_5 ++ (fi51_6 ++ fi51_7)))) = true := chk_join 5 ps51_3 rfl rfl rs51_4
theorem rs51_2 : chk 5 1 tm51 2988 137 ms51_2 (fi51_2 ++ (fi51_3 ++ (fi51_4 ++ (fi51_5 ++ (fi51_6 ++ fi51_7))))) = true := chk_join 6 ps51_2 rfl rfl rs51_3
theorem rs51_1 : chk 5 1 tm51 2993 132 ms51_1 (fi51_1 ++ (fi51_2 ++ (fi51_3 ++ (fi51_4 ++ (fi51_5 ++ (fi51_6 ++ fi51_7)))))) = true := chk_join 5 ps51_1 rfl rfl rs51_2
theorem rs51_0 : chk 5 1 tm51 3120 5 0 (fi51_0 ++ (fi51_1 ++ (fi51_2 ++ (fi51_3 ++ (fi51_4 ++ (fi51_5 ++ (fi51_6 ++ fi51_7))))))) = true := chk_join 127 ps51_0 rfl rfl rs51_1
theorem fe51 : fi51 = (fi51_0 ++ (fi51_1 ++ (fi51_2 ++ (fi51_3 ++ (fi51_4 ++ (fi51_5 ++ (fi51_6 ++ fi51_7))))))) := by decide +kernel
theorem scan51 : chk 5 1 tm51 (5 ^ (2 * 1 + 3) - 5) 5 0 fi51 = true := scan_all (K := 3120) (by decide +kernel) fe51 rs51_0
theorem ap51 : apB 5 1 fi51 = true := by decide +kernel
theorem share51 : shareN 5 1 (outF 5 fi51) (outF 5 fi51) = true := by decide +kernel
theorem count51 : cvN 5 1 = partsN 5 (outF 5 fi51) := by decide +kernel
theorem plain51 : PlainOk 5 1 500 :=
  plain_of ⟨mask51, by decide +kernel, scan51, ap51, by decide +kernel, by decide +kernel, count51, share51, by decide +kernel, by decide +kernel⟩ (by unfold PrP; decide) (by decide) (by decide +kernel) (by decide +kernel) (by decide +kernel) (by decide +kernel) (by decide +kernel) (by decide +kernel)
end Tw
end STwL10
section STwL11
set_option Elab.async false
set_option linter.all false
/-! The plain law: all six. -/
namespace Tw
theorem plainAll : ∀ q ∈ sixN, PlainOk q.1 q.2 500 := fun q hq => by
  unfold sixN at hq
  simp only [List.mem_cons, List.not_mem_nil, or_false] at hq
  rcases hq with rfl | rfl | rfl | rfl | rfl | rfl
  · exact plain30
  · exact plain31
  · exact plain32
  · exact plain50
  · exact plain51
  · exact plain70
end Tw
end STwL11
section STwZ1
set_option Elab.async false
set_option linter.all false
set_option maxRecDepth 100000
set_option maxHeartbeats 4000000
/-! The head (1): what is looked at behind the top. -/
namespace Tw
open PySem PySem.Spec PyProof.Rows L2 He
section
variable {K : PySem.W.Frag} {h : Heap} {mg : Str → Option Value}
theorem clB_ok (X : K.In h) (G : h.Ns mainGlobals mg) {x : Str} (g : (Fa.glo x).ok K = true) (c : clB K x = true) : ClF K mg x (ga K x) := by
  obtain ⟨c1, c⟩ := ba c
  obtain ⟨c2, c⟩ := ba c
  obtain ⟨c3, c⟩ := ba c
  obtain ⟨c4, c⟩ := ba c
  obtain ⟨c5, c⟩ := ba c
  obtain ⟨c6, c⟩ := ba c
  obtain ⟨c7, c⟩ := ba c
  obtain ⟨c8, c9⟩ := ba c
  exact ⟨glo_ok X G g, ⟨c1, c2, c3, eqO_ok c4⟩, ⟨eqO_ok c5, eqO_ok c6, of_decide_eq_true c7, of_decide_eq_true c8⟩, of_decide_eq_true c9⟩
theorem slB_ok {x f : Str} {i : Nat} (c : slB K x f i = true) : Slo K (ga K x) f i := by
  obtain ⟨c1, c⟩ := ba c
  obtain ⟨c2, c⟩ := ba c
  obtain ⟨c3, c⟩ := ba c
  obtain ⟨c4, c⟩ := ba c
  obtain ⟨c5, c6⟩ := ba c
  exact ⟨_, eqO_ok c1, eqO_ok c2, of_decide_eq_true c3, of_decide_eq_true c4, of_decide_eq_true c5, of_decide_eq_true c6⟩
theorem prB_ok {x f : Str} (c : prB K x f = true) : ∃ p, PySem.W.findIn K (.ref (ga K x)) f = some (some (.ref p)) ∧ PySem.W.specialIn K (.ref p) "__get__" = some (some (.builtin "property.__get__")) ∧ PySem.W.takesIn K (.ref p) = some true ∧ ∃ rest, PySem.W.recIn K p "property" = some (.ref (gf K x f) :: rest) := by
  obtain ⟨c1, c⟩ := ba c
  obtain ⟨c2, c⟩ := ba c
  obtain ⟨c3, c4⟩ := ba c
  refine ⟨_, eqO_ok c1, eqO_ok c2, of_decide_eq_true c3, ?_⟩
  unfold gf He5.wf
  split at c4
  · rename_i g r e
    exact ⟨r, by rw [e]⟩
  · cases c4
/-! ### defs -/
/-- a def of the top -/
def GF (K : PySem.W.Frag) (mg : Str → Option Value) (x : Str) (st : Stmt) (ps : List Str) : Prop := ∃ fd, Fun K x x st (ga K x) fd ∧ Binds K fd ps [] ∧ mg x = some (.ref (ga K x))
def MF (K : PySem.W.Frag) (C m q : Str) (st : Stmt) (ps : List Str) : Prop := ∃ fd, Fun K m q st (ma K (ga K C) m) fd ∧ Binds K fd ps [] ∧ Meth K (ga K C) m (ma K (ga K C) m) ∧ PySem.W.fnIn K (ma K (ga K C) m) = true
def PF (K : PySem.W.Frag) (C m q : Str) (st : Stmt) (ps : List Str) : Prop := ∃ fd, Fun K m q st (gf K C m) fd ∧ Binds K fd ps [] ∧ prB K C m = true
def IF (K : PySem.W.Frag) (mg : Str → Option Value) (C q : Str) (st : Stmt) (ps : List Str) : Prop := ∃ fd, Fun K "__init__" q st (ma K (ga K C) "__init__") fd ∧ Binds K fd ps [] ∧ mg C = some (.ref (ga K C)) ∧ Mk K (ga K C) (ma K (ga K C) "__init__")
theorem fun_in {x q : Str} {st : Stmt} {f : Addr} {fd : FuncData} (F : Fun K x q st f fd) : PySem.W.fnIn K f = true := by
  obtain ⟨oc, od, kV, doc, pm, an, cdv, ct, osl, e, lk, hcd⟩ := F.ex
  unfold PySem.W.fnIn
  rw [lk]
/-- its code object -/
theorem fun_code {x q : Str} {st : Stmt} {p : Defn} {fd : FuncData} (F : Fun K x q st (fAd K p) fd) : fd.code = .ref (cT K p).1 := by
  obtain ⟨oc, od, kV, doc, pm, an, cdv, ct, osl, e, lk, hcd⟩ := F.ex
  obtain ⟨c, ec⟩ := codeIn_ref hcd
  have e2 : fd.code = .ref c := by rw [e]; exact ec
  rw [e2]
  exact congrArg Value.ref (codeOf_eq lk e2).symm
section
variable {α : Type} {P : Program} {w : World} {base : Heap} {tb : Tb} {x m q : Str} {st : Stmt} {ps : List Str} {k : Nat} {Pm : Prm α} {C : Str}
theorem GF.df (g : GF K mg x st ps) (h : ∀ fd, Fun K x x st (ga K x) fd → FN P w K mg base tb k (ga K x) fd ps Pm) : DF P w K mg base tb x k Pm := by
  obtain ⟨fd, F, B, e⟩ := g
  exact ⟨_, fd, ps, h fd F, e, F.kp, B⟩
theorem GF.ds {sp : Sp} (g : GF K mg x st ps) (h : ∀ fd, Fun K x x st (ga K x) fd → FnOk P w K mg base CX0 k (ga K x) fd ps sp) : DefS P w K mg base x k sp := by
  obtain ⟨fd, F, B, e⟩ := g
  exact ⟨_, fd, ps, h fd F, e, F.kp, B⟩
theorem MF.mth (g : MF K C m q st ps) (h : ∀ fd, Fun K m q st (ma K (ga K C) m) fd → FN P w K mg base tb k (ma K (ga K C) m) fd ps Pm) : Mth tb P w K mg base (ga K C) m k Pm := by
  obtain ⟨fd, F, B, M, I⟩ := g
  exact ⟨_, M, I, fnR_of (h fd F) B⟩
theorem PF.prp (g : PF K C m q st ps) (h : ∀ fd, Fun K m q st (gf K C m) fd → FN P w K mg base tb k (gf K C m) fd ps Pm) : Prp tb P w K mg base (ga K C) m k Pm := by
  obtain ⟨fd, F, B, c⟩ := g
  obtain ⟨p, e1, e2, e3, e4⟩ := prB_ok c
  exact ⟨p, _, e1, e2, e3, e4, fnR_of (h fd F) B⟩
theorem IF.defi (g : IF K mg C q st ps) (h : ∀ fd, Fun K "__init__" q st (ma K (ga K C) "__init__") fd → FnOk P w K mg base CX0 k (ma K (ga K C) "__init__") fd ps (spI tb Pm (ga K C))) : DefI tb P w K mg base C (ga K C) k Pm := by
  obtain ⟨fd, F, B, e, M⟩ := g
  exact ⟨_, fd, ps, e, M, h fd F, B⟩
end
end
end Tw
end STwZ1
section STwZ3
set_option Elab.async false
set_option linter.all false
set_option maxRecDepth 100000
set_option maxHeartbeats 4000000
/-! The head (3): the facts read. -/
namespace Tw
open PySem PySem.Spec PyProof.Rows L2 He
section
variable {K : PySem.W.Frag} {h : Heap} {mg : Str → Option Value}
theorem nbeq_self (n : Nat) : (!Nat.beq n n) = false := by rw [Nat.beq_refl]; rfl
theorem ne_of_nbeq {a b : Nat} (h : (!Nat.beq a b) = true) : a ≠ b := fun e => by
  rw [e, nbeq_self] at h
  cases h
theorem exOk (c : exY K = true) (i : Nat) {b : Bool} (e : [
  clB K "Entries",
  clB K "Poly",
  clB K "Curve",
  clB K "Family",
  slB K "Entries" "own_row" 0,
  slB K "Poly" "own_entries" 0,
  slB K "Poly" "own_lead" 1,
  slB K "Poly" "own_number" 2,
  slB K "Poly" "own_prime" 3,
  slB K "Poly" "own_text" 4,
  slB K "Curve" "own_f" 0,
  slB K "Curve" "own_genus" 1,
  slB K "Curve" "own_kind" 2,
  slB K "Curve" "own_points" 3,
  slB K "Curve" "own_prime" 4,
  slB K "Curve" "own_rims" 5,
  slB K "Curve" "own_text" 6,
  slB K "Family" "own_generator" 0,
  slB K "Family" "own_prime" 1,
  slB K "Family" "own_rows" 2,
  prB K "Curve" "f",
  prB K "Poly" "prime",
  prB K "Poly" "entries",
  prB K "Poly" "degree",
  prB K "Poly" "lead",
  prB K "Poly" "is_zero",
  tupB K "PRIMES" [.int 3, .int 5, .int 7, .int 11, .int 13, .int 17, .int 19, .int 23, .int 29, .int 31],
  PySem.W.selfFirst K (ga K "Poly"),
  eqO (PySem.W.findIn K (.ref (ga K "Poly")) "__format__") (some (some (.builtin "object.__format__"))),
  !Nat.beq (cT K ("first_generator", none)).2 (cT K ("Family", some "gather")).2,
  !Nat.beq (ga K "Curve") (ga K "Poly")][i]? = some b := by rfl) : b = true := List.all_eq_true.mp c b (List.mem_of_getElem? e)
theorem g_sRaised (X : K.In h) (G : h.Ns mainGlobals mg) (c : SaysY faY fnY tfY exY h K) : GF K mg "raised" sRaised ["number", "exponent"] := by
  obtain ⟨fd, F0⟩ := c.a.def_ 0 (d := d_sRaised) rfl
  have F := He5.fun_of (st := sRaised) F0
  have B : Binds K fd ["number", "exponent"] [] := F.binds fun _ _ _ _ _ _ us hl => match us, hl with | [_, _], _ => rfl
  exact ⟨fd, F, B, glo_ok X G (c.a.fact 0 (f := .glo "raised") rfl)⟩
theorem g_sWhole (X : K.In h) (G : h.Ns mainGlobals mg) (c : SaysY faY fnY tfY exY h K) : GF K mg "is_whole" sWhole ["value"] := by
  obtain ⟨fd, F0⟩ := c.a.def_ 1 (d := d_sWhole) rfl
  have F := He5.fun_of (st := sWhole) F0
  have B : Binds K fd ["value"] [] := F.binds fun _ _ _ _ _ _ us hl => match us, hl with | [_], _ => rfl
  exact ⟨fd, F, B, glo_ok X G (c.a.fact 1 (f := .glo "is_whole") rfl)⟩
theorem g_sInteger (X : K.In h) (G : h.Ns mainGlobals mg) (c : SaysY faY fnY tfY exY h K) : GF K mg "is_integer" sInteger ["value"] := by
  obtain ⟨fd, F0⟩ := c.a.def_ 2 (d := d_sInteger) rfl
  have F := He5.fun_of (st := sInteger) F0
  have B : Binds K fd ["value"] [] := F.binds fun _ _ _ _ _ _ us hl => match us, hl with | [_], _ => rfl
  exact ⟨fd, F, B, glo_ok X G (c.a.fact 2 (f := .glo "is_integer") rfl)⟩
theorem g_sPrime (X : K.In h) (G : h.Ns mainGlobals mg) (c : SaysY faY fnY tfY exY h K) : GF K mg "is_prime" sPrime ["value"] := by
  obtain ⟨fd, F0⟩ := c.a.def_ 3 (d := d_sPrime) rfl
  have F := He5.fun_of (st := sPrime) F0
  have B : Binds K fd ["value"] [] := F.binds fun _ _ _ _ _ _ us hl => match us, hl with | [_], _ => rfl
  exact ⟨fd, F, B, glo_ok X G (c.a.fact 3 (f := .glo "is_prime") rfl)⟩
theorem g_sReqPrime (X : K.In h) (G : h.Ns mainGlobals mg) (c : SaysY faY fnY tfY exY h K) : GF K mg "require_prime" sReqPrime ["value"] := by
  obtain ⟨fd, F0⟩ := c.a.def_ 4 (d := d_sReqPrime) rfl
  have F := He5.fun_of (st := sReqPrime) F0
  have B : Binds K fd ["value"] [] := F.binds fun _ _ _ _ _ _ us hl => match us, hl with | [_], _ => rfl
  exact ⟨fd, F, B, glo_ok X G (c.a.fact 4 (f := .glo "require_prime") rfl)⟩
theorem g_sReqCount (X : K.In h) (G : h.Ns mainGlobals mg) (c : SaysY faY fnY tfY exY h K) : GF K mg "require_count" sReqCount ["value", "least", "most"] := by
  obtain ⟨fd, F0⟩ := c.a.def_ 5 (d := d_sReqCount) rfl
  have F := He5.fun_of (st := sReqCount) F0
  have B : Binds K fd ["value", "least", "most"] [] := F.binds fun _ _ _ _ _ _ us hl => match us, hl with | [_, _, _], _ => rfl
  exact ⟨fd, F, B, glo_ok X G (c.a.fact 5 (f := .glo "require_count") rfl)⟩
theorem g_sPolyRow (X : K.In h) (G : h.Ns mainGlobals mg) (c : SaysY faY fnY tfY exY h K) : GF K mg "poly_row" sPolyRow ["row"] := by
  obtain ⟨fd, F0⟩ := c.a.def_ 6 (d := d_sPolyRow) rfl
  have F := He5.fun_of (st := sPolyRow) F0
  have B : Binds K fd ["row"] [] := F.binds fun _ _ _ _ _ _ us hl => match us, hl with | [_], _ => rfl
  exact ⟨fd, F, B, glo_ok X G (c.a.fact 6 (f := .glo "poly_row") rfl)⟩
theorem g_sPolyNumber (X : K.In h) (G : h.Ns mainGlobals mg) (c : SaysY faY fnY tfY exY h K) : GF K mg "poly_number" sPolyNumber ["prime", "row"] := by
  obtain ⟨fd, F0⟩ := c.a.def_ 7 (d := d_sPolyNumber) rfl
  have F := He5.fun_of (st := sPolyNumber) F0
  have B : Binds K fd ["prime", "row"] [] := F.binds fun _ _ _ _ _ _ us hl => match us, hl with | [_, _], _ => rfl
  exact ⟨fd, F, B, glo_ok X G (c.a.fact 7 (f := .glo "poly_number") rfl)⟩
theorem g_sCurveInit (X : K.In h) (G : h.Ns mainGlobals mg) (c : SaysY faY fnY tfY exY h K) : IF K mg "Curve" "Curve.__init__" sCurveInit ["self", "poly"] := by
  obtain ⟨fd, F0⟩ := c.a.def_ 8 (d := d_sCurveInit) rfl
  have F := He5.fun_of (st := sCurveInit) F0
  have B : Binds K fd ["self", "poly"] [] := F.binds fun _ _ _ _ _ _ us hl => match us, hl with | [_, _], _ => rfl
  exact ⟨fd, F, B, glo_ok X G (c.a.fact 61 (f := .glo "Curve") rfl), mkr_ok (c.a.fact 92 (f := .mkr "Curve") rfl)⟩
theorem g_sCurveF (c : SaysY faY fnY tfY exY h K) : PF K "Curve" "f" "Curve.f" sCurveF ["self"] := by
  obtain ⟨fd, F0⟩ := c.a.def_ 9 (d := d_sCurveF) rfl
  have F := He5.fun_of (st := sCurveF) F0
  have B : Binds K fd ["self"] [] := F.binds fun _ _ _ _ _ _ us hl => match us, hl with | [_], _ => rfl
  exact ⟨fd, F, B, exOk c.more 20⟩
theorem g_sCurveLen (c : SaysY faY fnY tfY exY h K) : MF K "Curve" "__len__" "Curve.__len__" sCurveLen ["self"] := by
  obtain ⟨fd, F0⟩ := c.a.def_ 10 (d := d_sCurveLen) rfl
  have F := He5.fun_of (st := sCurveLen) F0
  have B : Binds K fd ["self"] [] := F.binds fun _ _ _ _ _ _ us hl => match us, hl with | [_], _ => rfl
  exact ⟨fd, F, B, meth_ok (c.a.fact 94 (f := .meth "Curve" "__len__") rfl), fun_in F⟩
theorem g_sCurveOf (X : K.In h) (G : h.Ns mainGlobals mg) (c : SaysY faY fnY tfY exY h K) : GF K mg "curve_of" sCurveOf ["prime", "row"] := by
  obtain ⟨fd, F0⟩ := c.a.def_ 11 (d := d_sCurveOf) rfl
  have F := He5.fun_of (st := sCurveOf) F0
  have B : Binds K fd ["prime", "row"] [] := F.binds fun _ _ _ _ _ _ us hl => match us, hl with | [_, _], _ => rfl
  exact ⟨fd, F, B, glo_ok X G (c.a.fact 8 (f := .glo "curve_of") rfl)⟩
theorem g_sPolyTerm (X : K.In h) (G : h.Ns mainGlobals mg) (c : SaysY faY fnY tfY exY h K) : GF K mg "poly_term" sPolyTerm ["entry", "power"] := by
  obtain ⟨fd, F0⟩ := c.a.def_ 12 (d := d_sPolyTerm) rfl
  have F := He5.fun_of (st := sPolyTerm) F0
  have B : Binds K fd ["entry", "power"] [] := F.binds fun _ _ _ _ _ _ us hl => match us, hl with | [_, _], _ => rfl
  exact ⟨fd, F, B, glo_ok X G (c.a.fact 9 (f := .glo "poly_term") rfl)⟩
theorem g_sPolyText (X : K.In h) (G : h.Ns mainGlobals mg) (c : SaysY faY fnY tfY exY h K) : GF K mg "poly_text" sPolyText ["row"] := by
  obtain ⟨fd, F0⟩ := c.a.def_ 13 (d := d_sPolyText) rfl
  have F := He5.fun_of (st := sPolyText) F0
  have B : Binds K fd ["row"] [] := F.binds fun _ _ _ _ _ _ us hl => match us, hl with | [_], _ => rfl
  exact ⟨fd, F, B, glo_ok X G (c.a.fact 10 (f := .glo "poly_text") rfl)⟩
theorem g_sEntInit (X : K.In h) (G : h.Ns mainGlobals mg) (c : SaysY faY fnY tfY exY h K) : IF K mg "Entries" "Entries.__init__" sEntInit ["self", "row"] := by
  obtain ⟨fd, F0⟩ := c.a.def_ 14 (d := d_sEntInit) rfl
  have F := He5.fun_of (st := sEntInit) F0
  have B : Binds K fd ["self", "row"] [] := F.binds fun _ _ _ _ _ _ us hl => match us, hl with | [_, _], _ => rfl
  exact ⟨fd, F, B, glo_ok X G (c.a.fact 59 (f := .glo "Entries") rfl), mkr_ok (c.a.fact 90 (f := .mkr "Entries") rfl)⟩
theorem g_sMade (X : K.In h) (G : h.Ns mainGlobals mg) (c : SaysY faY fnY tfY exY h K) : GF K mg "made" sMade ["prime", "row"] := by
  obtain ⟨fd, F0⟩ := c.a.def_ 15 (d := d_sMade) rfl
  have F := He5.fun_of (st := sMade) F0
  have B : Binds K fd ["prime", "row"] [] := F.binds fun _ _ _ _ _ _ us hl => match us, hl with | [_, _], _ => rfl
  exact ⟨fd, F, B, glo_ok X G (c.a.fact 11 (f := .glo "made") rfl)⟩
theorem g_sPolyInit (X : K.In h) (G : h.Ns mainGlobals mg) (c : SaysY faY fnY tfY exY h K) : IF K mg "Poly" "Poly.__init__" sPolyInit ["self", "prime", "entries"] := by
  obtain ⟨fd, F0⟩ := c.a.def_ 16 (d := d_sPolyInit) rfl
  have F := He5.fun_of (st := sPolyInit) F0
  have B : Binds K fd ["self", "prime", "entries"] [] := F.binds fun _ _ _ _ _ _ us hl => match us, hl with | [_, _, _], _ => rfl
  exact ⟨fd, F, B, glo_ok X G (c.a.fact 60 (f := .glo "Poly") rfl), mkr_ok (c.a.fact 91 (f := .mkr "Poly") rfl)⟩
theorem g_sPPrime (c : SaysY faY fnY tfY exY h K) : PF K "Poly" "prime" "Poly.prime" sPPrime ["self"] := by
  obtain ⟨fd, F0⟩ := c.a.def_ 17 (d := d_sPPrime) rfl
  have F := He5.fun_of (st := sPPrime) F0
  have B : Binds K fd ["self"] [] := F.binds fun _ _ _ _ _ _ us hl => match us, hl with | [_], _ => rfl
  exact ⟨fd, F, B, exOk c.more 21⟩
theorem g_sPEntries (c : SaysY faY fnY tfY exY h K) : PF K "Poly" "entries" "Poly.entries" sPEntries ["self"] := by
  obtain ⟨fd, F0⟩ := c.a.def_ 18 (d := d_sPEntries) rfl
  have F := He5.fun_of (st := sPEntries) F0
  have B : Binds K fd ["self"] [] := F.binds fun _ _ _ _ _ _ us hl => match us, hl with | [_], _ => rfl
  exact ⟨fd, F, B, exOk c.more 22⟩
theorem g_sPDegree (c : SaysY faY fnY tfY exY h K) : PF K "Poly" "degree" "Poly.degree" sPDegree ["self"] := by
  obtain ⟨fd, F0⟩ := c.a.def_ 19 (d := d_sPDegree) rfl
  have F := He5.fun_of (st := sPDegree) F0
  have B : Binds K fd ["self"] [] := F.binds fun _ _ _ _ _ _ us hl => match us, hl with | [_], _ => rfl
  exact ⟨fd, F, B, exOk c.more 23⟩
theorem g_sPLead (c : SaysY faY fnY tfY exY h K) : PF K "Poly" "lead" "Poly.lead" sPLead ["self"] := by
  obtain ⟨fd, F0⟩ := c.a.def_ 20 (d := d_sPLead) rfl
  have F := He5.fun_of (st := sPLead) F0
  have B : Binds K fd ["self"] [] := F.binds fun _ _ _ _ _ _ us hl => match us, hl with | [_], _ => rfl
  exact ⟨fd, F, B, exOk c.more 24⟩
theorem g_sPZero (c : SaysY faY fnY tfY exY h K) : PF K "Poly" "is_zero" "Poly.is_zero" sPZero ["self"] := by
  obtain ⟨fd, F0⟩ := c.a.def_ 21 (d := d_sPZero) rfl
  have F := He5.fun_of (st := sPZero) F0
  have B : Binds K fd ["self"] [] := F.binds fun _ _ _ _ _ _ us hl => match us, hl with | [_], _ => rfl
  exact ⟨fd, F, B, exOk c.more 25⟩
theorem g_sPStr (c : SaysY faY fnY tfY exY h K) : MF K "Poly" "__str__" "Poly.__str__" sPStr ["self"] := by
  obtain ⟨fd, F0⟩ := c.a.def_ 22 (d := d_sPStr) rfl
  have F := He5.fun_of (st := sPStr) F0
  have B : Binds K fd ["self"] [] := F.binds fun _ _ _ _ _ _ us hl => match us, hl with | [_], _ => rfl
  exact ⟨fd, F, B, meth_ok (c.a.fact 95 (f := .meth "Poly" "__str__") rfl), fun_in F⟩
theorem g_sReqPoly (X : K.In h) (G : h.Ns mainGlobals mg) (c : SaysY faY fnY tfY exY h K) : GF K mg "require_poly" sReqPoly ["value"] := by
  obtain ⟨fd, F0⟩ := c.a.def_ 23 (d := d_sReqPoly) rfl
  have F := He5.fun_of (st := sReqPoly) F0
  have B : Binds K fd ["value"] [] := F.binds fun _ _ _ _ _ _ us hl => match us, hl with | [_], _ => rfl
  exact ⟨fd, F, B, glo_ok X G (c.a.fact 12 (f := .glo "require_poly") rfl)⟩
theorem g_sReqSame (X : K.In h) (G : h.Ns mainGlobals mg) (c : SaysY faY fnY tfY exY h K) : GF K mg "require_same_prime" sReqSame ["one", "other"] := by
  obtain ⟨fd, F0⟩ := c.a.def_ 24 (d := d_sReqSame) rfl
  have F := He5.fun_of (st := sReqSame) F0
  have B : Binds K fd ["one", "other"] [] := F.binds fun _ _ _ _ _ _ us hl => match us, hl with | [_, _], _ => rfl
  exact ⟨fd, F, B, glo_ok X G (c.a.fact 13 (f := .glo "require_same_prime") rfl)⟩
theorem g_sReqDiv (X : K.In h) (G : h.Ns mainGlobals mg) (c : SaysY faY fnY tfY exY h K) : GF K mg "require_divisor" sReqDiv ["one", "other"] := by
  obtain ⟨fd, F0⟩ := c.a.def_ 25 (d := d_sReqDiv) rfl
  have F := He5.fun_of (st := sReqDiv) F0
  have B : Binds K fd ["one", "other"] [] := F.binds fun _ _ _ _ _ _ us hl => match us, hl with | [_, _], _ => rfl
  exact ⟨fd, F, B, glo_ok X G (c.a.fact 14 (f := .glo "require_divisor") rfl)⟩
theorem g_sPolyInv (X : K.In h) (G : h.Ns mainGlobals mg) (c : SaysY faY fnY tfY exY h K) : GF K mg "poly_inverse" sPolyInv ["prime", "number"] := by
  obtain ⟨fd, F0⟩ := c.a.def_ 26 (d := d_sPolyInv) rfl
  have F := He5.fun_of (st := sPolyInv) F0
  have B : Binds K fd ["prime", "number"] [] := F.binds fun _ _ _ _ _ _ us hl => match us, hl with | [_, _], _ => rfl
  exact ⟨fd, F, B, glo_ok X G (c.a.fact 15 (f := .glo "poly_inverse") rfl)⟩
theorem g_sPolyDiv (X : K.In h) (G : h.Ns mainGlobals mg) (c : SaysY faY fnY tfY exY h K) : GF K mg "poly_divided" sPolyDiv ["prime", "one", "other"] := by
  obtain ⟨fd, F0⟩ := c.a.def_ 27 (d := d_sPolyDiv) rfl
  have F := He5.fun_of (st := sPolyDiv) F0
  have B : Binds K fd ["prime", "one", "other"] [] := F.binds fun _ _ _ _ _ _ us hl => match us, hl with | [_, _, _], _ => rfl
  exact ⟨fd, F, B, glo_ok X G (c.a.fact 16 (f := .glo "poly_divided") rfl)⟩
theorem g_sPMod (c : SaysY faY fnY tfY exY h K) : MF K "Poly" "__mod__" "Poly.__mod__" sPMod ["self", "other"] := by
  obtain ⟨fd, F0⟩ := c.a.def_ 28 (d := d_sPMod) rfl
  have F := He5.fun_of (st := sPMod) F0
  have B : Binds K fd ["self", "other"] [] := F.binds fun _ _ _ _ _ _ us hl => match us, hl with | [_, _], _ => rfl
  exact ⟨fd, F, B, meth_ok (c.a.fact 96 (f := .meth "Poly" "__mod__") rfl), fun_in F⟩
theorem g_sResidue (X : K.In h) (G : h.Ns mainGlobals mg) (c : SaysY faY fnY tfY exY h K) : GF K mg "is_residue_of" sResidue ["prime", "value"] := by
  obtain ⟨fd, F0⟩ := c.a.def_ 29 (d := d_sResidue) rfl
  have F := He5.fun_of (st := sResidue) F0
  have B : Binds K fd ["prime", "value"] [] := F.binds fun _ _ _ _ _ _ us hl => match us, hl with | [_, _], _ => rfl
  exact ⟨fd, F, B, glo_ok X G (c.a.fact 17 (f := .glo "is_residue_of") rfl)⟩
theorem g_sPCall (c : SaysY faY fnY tfY exY h K) : MF K "Poly" "__call__" "Poly.__call__" sPCall ["self", "residue"] := by
  obtain ⟨fd, F0⟩ := c.a.def_ 30 (d := d_sPCall) rfl
  have F := He5.fun_of (st := sPCall) F0
  have B : Binds K fd ["self", "residue"] [] := F.binds fun _ _ _ _ _ _ us hl => match us, hl with | [_, _], _ => rfl
  exact ⟨fd, F, B, meth_ok (c.a.fact 97 (f := .meth "Poly" "__call__") rfl), fun_in F⟩
theorem g_sPScaled (c : SaysY faY fnY tfY exY h K) : MF K "Poly" "scaled" "Poly.scaled" sPScaled ["self", "residue"] := by
  obtain ⟨fd, F0⟩ := c.a.def_ 31 (d := d_sPScaled) rfl
  have F := He5.fun_of (st := sPScaled) F0
  have B : Binds K fd ["self", "residue"] [] := F.binds fun _ _ _ _ _ _ us hl => match us, hl with | [_, _], _ => rfl
  exact ⟨fd, F, B, meth_ok (c.a.fact 98 (f := .meth "Poly" "scaled") rfl), fun_in F⟩
theorem g_sPMonic (c : SaysY faY fnY tfY exY h K) : MF K "Poly" "monic" "Poly.monic" sPMonic ["self"] := by
  obtain ⟨fd, F0⟩ := c.a.def_ 32 (d := d_sPMonic) rfl
  have F := He5.fun_of (st := sPMonic) F0
  have B : Binds K fd ["self"] [] := F.binds fun _ _ _ _ _ _ us hl => match us, hl with | [_], _ => rfl
  exact ⟨fd, F, B, meth_ok (c.a.fact 99 (f := .meth "Poly" "monic") rfl), fun_in F⟩
theorem g_sPDer (c : SaysY faY fnY tfY exY h K) : MF K "Poly" "derivative" "Poly.derivative" sPDer ["self"] := by
  obtain ⟨fd, F0⟩ := c.a.def_ 33 (d := d_sPDer) rfl
  have F := He5.fun_of (st := sPDer) F0
  have B : Binds K fd ["self"] [] := F.binds fun _ _ _ _ _ _ us hl => match us, hl with | [_], _ => rfl
  exact ⟨fd, F, B, meth_ok (c.a.fact 100 (f := .meth "Poly" "derivative") rfl), fun_in F⟩
theorem g_sMonOrZero (X : K.In h) (G : h.Ns mainGlobals mg) (c : SaysY faY fnY tfY exY h K) : GF K mg "monic_or_zero" sMonOrZero ["poly"] := by
  obtain ⟨fd, F0⟩ := c.a.def_ 34 (d := d_sMonOrZero) rfl
  have F := He5.fun_of (st := sMonOrZero) F0
  have B : Binds K fd ["poly"] [] := F.binds fun _ _ _ _ _ _ us hl => match us, hl with | [_], _ => rfl
  exact ⟨fd, F, B, glo_ok X G (c.a.fact 18 (f := .glo "monic_or_zero") rfl)⟩
theorem g_sCommon (X : K.In h) (G : h.Ns mainGlobals mg) (c : SaysY faY fnY tfY exY h K) : GF K mg "common_of" sCommon ["one", "other"] := by
  obtain ⟨fd, F0⟩ := c.a.def_ 35 (d := d_sCommon) rfl
  have F := He5.fun_of (st := sCommon) F0
  have B : Binds K fd ["one", "other"] [] := F.binds fun _ _ _ _ _ _ us hl => match us, hl with | [_, _], _ => rfl
  exact ⟨fd, F, B, glo_ok X G (c.a.fact 19 (f := .glo "common_of") rfl)⟩
theorem g_sSqf (X : K.In h) (G : h.Ns mainGlobals mg) (c : SaysY faY fnY tfY exY h K) : GF K mg "is_square_free" sSqf ["poly"] := by
  obtain ⟨fd, F0⟩ := c.a.def_ 36 (d := d_sSqf) rfl
  have F := He5.fun_of (st := sSqf) F0
  have B : Binds K fd ["poly"] [] := F.binds fun _ _ _ _ _ _ us hl => match us, hl with | [_], _ => rfl
  exact ⟨fd, F, B, glo_ok X G (c.a.fact 20 (f := .glo "is_square_free") rfl)⟩
theorem g_sPolyAt (X : K.In h) (G : h.Ns mainGlobals mg) (c : SaysY faY fnY tfY exY h K) : GF K mg "poly_at" sPolyAt ["prime", "number"] := by
  obtain ⟨fd, F0⟩ := c.a.def_ 37 (d := d_sPolyAt) rfl
  have F := He5.fun_of (st := sPolyAt) F0
  have B : Binds K fd ["prime", "number"] [] := F.binds fun _ _ _ _ _ _ us hl => match us, hl with | [_, _], _ => rfl
  exact ⟨fd, F, B, glo_ok X G (c.a.fact 21 (f := .glo "poly_at") rfl)⟩
theorem g_sCurvesIn (X : K.In h) (G : h.Ns mainGlobals mg) (c : SaysY faY fnY tfY exY h K) : GF K mg "curves_in" sCurvesIn ["prime", "genus"] := by
  obtain ⟨fd, F0⟩ := c.a.def_ 38 (d := d_sCurvesIn) rfl
  have F := He5.fun_of (st := sCurvesIn) F0
  have B : Binds K fd ["prime", "genus"] [] := F.binds fun _ _ _ _ _ _ us hl => match us, hl with | [_, _], _ => rfl
  exact ⟨fd, F, B, glo_ok X G (c.a.fact 22 (f := .glo "curves_in") rfl)⟩
theorem g_sCountCurves (X : K.In h) (G : h.Ns mainGlobals mg) (c : SaysY faY fnY tfY exY h K) : GF K mg "count_curves" sCountCurves ["prime", "genus"] := by
  obtain ⟨fd, F0⟩ := c.a.def_ 39 (d := d_sCountCurves) rfl
  have F := He5.fun_of (st := sCountCurves) F0
  have B : Binds K fd ["prime", "genus"] [] := F.binds fun _ _ _ _ _ _ us hl => match us, hl with | [_, _], _ => rfl
  exact ⟨fd, F, B, glo_ok X G (c.a.fact 23 (f := .glo "count_curves") rfl)⟩
theorem g_sChangesIn (X : K.In h) (G : h.Ns mainGlobals mg) (c : SaysY faY fnY tfY exY h K) : GF K mg "changes_in" sChangesIn ["prime"] := by
  obtain ⟨fd, F0⟩ := c.a.def_ 40 (d := d_sChangesIn) rfl
  have F := He5.fun_of (st := sChangesIn) F0
  have B : Binds K fd ["prime"] [] := F.binds fun _ _ _ _ _ _ us hl => match us, hl with | [_], _ => rfl
  exact ⟨fd, F, B, glo_ok X G (c.a.fact 24 (f := .glo "changes_in") rfl)⟩
theorem g_sMass (X : K.In h) (G : h.Ns mainGlobals mg) (c : SaysY faY fnY tfY exY h K) : GF K mg "mass" sMass ["prime", "genus"] := by
  obtain ⟨fd, F0⟩ := c.a.def_ 41 (d := d_sMass) rfl
  have F := He5.fun_of (st := sMass) F0
  have B : Binds K fd ["prime", "genus"] [] := F.binds fun _ _ _ _ _ _ us hl => match us, hl with | [_, _], _ => rfl
  exact ⟨fd, F, B, glo_ok X G (c.a.fact 25 (f := .glo "mass") rfl)⟩
theorem g_sMovedOn (X : K.In h) (G : h.Ns mainGlobals mg) (c : SaysY faY fnY tfY exY h K) : GF K mg "moved_on" sMovedOn ["prime", "row"] := by
  obtain ⟨fd, F0⟩ := c.a.def_ 42 (d := d_sMovedOn) rfl
  have F := He5.fun_of (st := sMovedOn) F0
  have B : Binds K fd ["prime", "row"] [] := F.binds fun _ _ _ _ _ _ us hl => match us, hl with | [_, _], _ => rfl
  exact ⟨fd, F, B, glo_ok X G (c.a.fact 26 (f := .glo "moved_on") rfl)⟩
theorem g_sFormRow (X : K.In h) (G : h.Ns mainGlobals mg) (c : SaysY faY fnY tfY exY h K) : GF K mg "form_row" sFormRow ["poly", "genus"] := by
  obtain ⟨fd, F0⟩ := c.a.def_ 43 (d := d_sFormRow) rfl
  have F := He5.fun_of (st := sFormRow) F0
  have B : Binds K fd ["poly", "genus"] [] := F.binds fun _ _ _ _ _ _ us hl => match us, hl with | [_, _], _ => rfl
  exact ⟨fd, F, B, glo_ok X G (c.a.fact 27 (f := .glo "form_row") rfl)⟩
theorem g_sRoots (X : K.In h) (G : h.Ns mainGlobals mg) (c : SaysY faY fnY tfY exY h K) : GF K mg "square_roots" sRoots ["prime", "number"] := by
  obtain ⟨fd, F0⟩ := c.a.def_ 44 (d := d_sRoots) rfl
  have F := He5.fun_of (st := sRoots) F0
  have B : Binds K fd ["prime", "number"] [] := F.binds fun _ _ _ _ _ _ us hl => match us, hl with | [_, _], _ => rfl
  exact ⟨fd, F, B, glo_ok X G (c.a.fact 28 (f := .glo "square_roots") rfl)⟩
theorem g_sKindIn (X : K.In h) (G : h.Ns mainGlobals mg) (c : SaysY faY fnY tfY exY h K) : GF K mg "kind_in" sKindIn ["poly"] := by
  obtain ⟨fd, F0⟩ := c.a.def_ 45 (d := d_sKindIn) rfl
  have F := He5.fun_of (st := sKindIn) F0
  have B : Binds K fd ["poly"] [] := F.binds fun _ _ _ _ _ _ us hl => match us, hl with | [_], _ => rfl
  exact ⟨fd, F, B, glo_ok X G (c.a.fact 29 (f := .glo "kind_in") rfl)⟩
theorem g_sRimsIn (X : K.In h) (G : h.Ns mainGlobals mg) (c : SaysY faY fnY tfY exY h K) : GF K mg "rims_in" sRimsIn ["poly", "kind"] := by
  obtain ⟨fd, F0⟩ := c.a.def_ 46 (d := d_sRimsIn) rfl
  have F := He5.fun_of (st := sRimsIn) F0
  have B : Binds K fd ["poly", "kind"] [] := F.binds fun _ _ _ _ _ _ us hl => match us, hl with | [_, _], _ => rfl
  exact ⟨fd, F, B, glo_ok X G (c.a.fact 30 (f := .glo "rims_in") rfl)⟩
theorem g_sPointsIn (X : K.In h) (G : h.Ns mainGlobals mg) (c : SaysY faY fnY tfY exY h K) : GF K mg "points_in" sPointsIn ["poly", "rims", "kind"] := by
  obtain ⟨fd, F0⟩ := c.a.def_ 47 (d := d_sPointsIn) rfl
  have F := He5.fun_of (st := sPointsIn) F0
  have B : Binds K fd ["poly", "rims", "kind"] [] := F.binds fun _ _ _ _ _ _ us hl => match us, hl with | [_, _, _], _ => rfl
  exact ⟨fd, F, B, glo_ok X G (c.a.fact 31 (f := .glo "points_in") rfl)⟩
theorem g_sFirst (X : K.In h) (G : h.Ns mainGlobals mg) (c : SaysY faY fnY tfY exY h K) : GF K mg "first_generator" sFirst ["prime"] := by
  obtain ⟨fd, F0⟩ := c.a.def_ 48 (d := d_sFirst) rfl
  have F := He5.fun_of (st := sFirst) F0
  have B : Binds K fd ["prime"] [] := F.binds fun _ _ _ _ _ _ us hl => match us, hl with | [_], _ => rfl
  exact ⟨fd, F, B, glo_ok X G (c.a.fact 32 (f := .glo "first_generator") rfl)⟩
theorem g_sLRaised (X : K.In h) (G : h.Ns mainGlobals mg) (c : SaysY faY fnY tfY exY h K) : GF K mg "_law_raised" sLRaised ["_law_base", "_law_times_here"] := by
  obtain ⟨fd, F0⟩ := c.a.def_ 49 (d := d_sLRaised) rfl
  have F := He5.fun_of (st := sLRaised) F0
  have B : Binds K fd ["_law_base", "_law_times_here"] [] := F.binds fun _ _ _ _ _ _ us hl => match us, hl with | [_, _], _ => rfl
  exact ⟨fd, F, B, glo_ok X G (c.a.fact 33 (f := .glo "_law_raised") rfl)⟩
theorem g_sLTrim (X : K.In h) (G : h.Ns mainGlobals mg) (c : SaysY faY fnY tfY exY h K) : GF K mg "_law_trim" sLTrim ["_law_row"] := by
  obtain ⟨fd, F0⟩ := c.a.def_ 50 (d := d_sLTrim) rfl
  have F := He5.fun_of (st := sLTrim) F0
  have B : Binds K fd ["_law_row"] [] := F.binds fun _ _ _ _ _ _ us hl => match us, hl with | [_], _ => rfl
  exact ⟨fd, F, B, glo_ok X G (c.a.fact 34 (f := .glo "_law_trim") rfl)⟩
theorem g_sLInv (X : K.In h) (G : h.Ns mainGlobals mg) (c : SaysY faY fnY tfY exY h K) : GF K mg "_law_inverse" sLInv ["_law_prime", "_law_number_here"] := by
  obtain ⟨fd, F0⟩ := c.a.def_ 51 (d := d_sLInv) rfl
  have F := He5.fun_of (st := sLInv) F0
  have B : Binds K fd ["_law_prime", "_law_number_here"] [] := F.binds fun _ _ _ _ _ _ us hl => match us, hl with | [_, _], _ => rfl
  exact ⟨fd, F, B, glo_ok X G (c.a.fact 35 (f := .glo "_law_inverse") rfl)⟩
theorem g_sLMonic (X : K.In h) (G : h.Ns mainGlobals mg) (c : SaysY faY fnY tfY exY h K) : GF K mg "_law_monic" sLMonic ["_law_prime", "_law_row"] := by
  obtain ⟨fd, F0⟩ := c.a.def_ 52 (d := d_sLMonic) rfl
  have F := He5.fun_of (st := sLMonic) F0
  have B : Binds K fd ["_law_prime", "_law_row"] [] := F.binds fun _ _ _ _ _ _ us hl => match us, hl with | [_, _], _ => rfl
  exact ⟨fd, F, B, glo_ok X G (c.a.fact 36 (f := .glo "_law_monic") rfl)⟩
theorem g_sLSlope (X : K.In h) (G : h.Ns mainGlobals mg) (c : SaysY faY fnY tfY exY h K) : GF K mg "_law_slope" sLSlope ["_law_prime", "_law_row"] := by
  obtain ⟨fd, F0⟩ := c.a.def_ 53 (d := d_sLSlope) rfl
  have F := He5.fun_of (st := sLSlope) F0
  have B : Binds K fd ["_law_prime", "_law_row"] [] := F.binds fun _ _ _ _ _ _ us hl => match us, hl with | [_, _], _ => rfl
  exact ⟨fd, F, B, glo_ok X G (c.a.fact 37 (f := .glo "_law_slope") rfl)⟩
theorem g_sLGenus (X : K.In h) (G : h.Ns mainGlobals mg) (c : SaysY faY fnY tfY exY h K) : GF K mg "_law_genus" sLGenus ["_law_row"] := by
  obtain ⟨fd, F0⟩ := c.a.def_ 54 (d := d_sLGenus) rfl
  have F := He5.fun_of (st := sLGenus) F0
  have B : Binds K fd ["_law_row"] [] := F.binds fun _ _ _ _ _ _ us hl => match us, hl with | [_], _ => rfl
  exact ⟨fd, F, B, glo_ok X G (c.a.fact 38 (f := .glo "_law_genus") rfl)⟩
theorem g_sLNumber (X : K.In h) (G : h.Ns mainGlobals mg) (c : SaysY faY fnY tfY exY h K) : GF K mg "_law_number" sLNumber ["_law_prime", "_law_row"] := by
  obtain ⟨fd, F0⟩ := c.a.def_ 55 (d := d_sLNumber) rfl
  have F := He5.fun_of (st := sLNumber) F0
  have B : Binds K fd ["_law_prime", "_law_row"] [] := F.binds fun _ _ _ _ _ _ us hl => match us, hl with | [_, _], _ => rfl
  exact ⟨fd, F, B, glo_ok X G (c.a.fact 39 (f := .glo "_law_number") rfl)⟩
theorem g_sLMany (X : K.In h) (G : h.Ns mainGlobals mg) (c : SaysY faY fnY tfY exY h K) : GF K mg "_law_many_changes" sLMany ["_law_prime"] := by
  obtain ⟨fd, F0⟩ := c.a.def_ 56 (d := d_sLMany) rfl
  have F := He5.fun_of (st := sLMany) F0
  have B : Binds K fd ["_law_prime"] [] := F.binds fun _ _ _ _ _ _ us hl => match us, hl with | [_], _ => rfl
  exact ⟨fd, F, B, glo_ok X G (c.a.fact 40 (f := .glo "_law_many_changes") rfl)⟩
theorem g_sLShift (X : K.In h) (G : h.Ns mainGlobals mg) (c : SaysY faY fnY tfY exY h K) : GF K mg "_law_shifted" sLShift ["_law_prime", "_law_form"] := by
  obtain ⟨fd, F0⟩ := c.a.def_ 57 (d := d_sLShift) rfl
  have F := He5.fun_of (st := sLShift) F0
  have B : Binds K fd ["_law_prime", "_law_form"] [] := F.binds fun _ _ _ _ _ _ us hl => match us, hl with | [_, _], _ => rfl
  exact ⟨fd, F, B, glo_ok X G (c.a.fact 41 (f := .glo "_law_shifted") rfl)⟩
theorem g_sLDiv (X : K.In h) (G : h.Ns mainGlobals mg) (c : SaysY faY fnY tfY exY h K) : GF K mg "_law_divided" sLDiv ["_law_prime", "_law_one", "_law_other"] := by
  obtain ⟨fd, F0⟩ := c.a.def_ 58 (d := d_sLDiv) rfl
  have F := He5.fun_of (st := sLDiv) F0
  have B : Binds K fd ["_law_prime", "_law_one", "_law_other"] [] := F.binds fun _ _ _ _ _ _ us hl => match us, hl with | [_, _, _], _ => rfl
  exact ⟨fd, F, B, glo_ok X G (c.a.fact 42 (f := .glo "_law_divided") rfl)⟩
theorem g_sLRest (X : K.In h) (G : h.Ns mainGlobals mg) (c : SaysY faY fnY tfY exY h K) : GF K mg "_law_rest" sLRest ["_law_prime", "_law_one", "_law_other"] := by
  obtain ⟨fd, F0⟩ := c.a.def_ 59 (d := d_sLRest) rfl
  have F := He5.fun_of (st := sLRest) F0
  have B : Binds K fd ["_law_prime", "_law_one", "_law_other"] [] := F.binds fun _ _ _ _ _ _ us hl => match us, hl with | [_, _, _], _ => rfl
  exact ⟨fd, F, B, glo_ok X G (c.a.fact 43 (f := .glo "_law_rest") rfl)⟩
theorem g_sLCommon (X : K.In h) (G : h.Ns mainGlobals mg) (c : SaysY faY fnY tfY exY h K) : GF K mg "_law_common" sLCommon ["_law_prime", "_law_one", "_law_other"] := by
  obtain ⟨fd, F0⟩ := c.a.def_ 60 (d := d_sLCommon) rfl
  have F := He5.fun_of (st := sLCommon) F0
  have B : Binds K fd ["_law_prime", "_law_one", "_law_other"] [] := F.binds fun _ _ _ _ _ _ us hl => match us, hl with | [_, _, _], _ => rfl
  exact ⟨fd, F, B, glo_ok X G (c.a.fact 44 (f := .glo "_law_common") rfl)⟩
theorem g_sLFree (X : K.In h) (G : h.Ns mainGlobals mg) (c : SaysY faY fnY tfY exY h K) : GF K mg "_law_is_free" sLFree ["_law_prime", "_law_row"] := by
  obtain ⟨fd, F0⟩ := c.a.def_ 61 (d := d_sLFree) rfl
  have F := He5.fun_of (st := sLFree) F0
  have B : Binds K fd ["_law_prime", "_law_row"] [] := F.binds fun _ _ _ _ _ _ us hl => match us, hl with | [_, _], _ => rfl
  exact ⟨fd, F, B, glo_ok X G (c.a.fact 45 (f := .glo "_law_is_free") rfl)⟩
theorem g_sLMaker (X : K.In h) (G : h.Ns mainGlobals mg) (c : SaysY faY fnY tfY exY h K) : GF K mg "_law_maker" sLMaker ["_law_prime"] := by
  obtain ⟨fd, F0⟩ := c.a.def_ 62 (d := d_sLMaker) rfl
  have F := He5.fun_of (st := sLMaker) F0
  have B : Binds K fd ["_law_prime"] [] := F.binds fun _ _ _ _ _ _ us hl => match us, hl with | [_], _ => rfl
  exact ⟨fd, F, B, glo_ok X G (c.a.fact 46 (f := .glo "_law_maker") rfl)⟩
theorem g_sLTimes (X : K.In h) (G : h.Ns mainGlobals mg) (c : SaysY faY fnY tfY exY h K) : GF K mg "_law_times" sLTimes ["_law_prime", "_law_one", "_law_other"] := by
  obtain ⟨fd, F0⟩ := c.a.def_ 63 (d := d_sLTimes) rfl
  have F := He5.fun_of (st := sLTimes) F0
  have B : Binds K fd ["_law_prime", "_law_one", "_law_other"] [] := F.binds fun _ _ _ _ _ _ us hl => match us, hl with | [_, _, _], _ => rfl
  exact ⟨fd, F, B, glo_ok X G (c.a.fact 47 (f := .glo "_law_times") rfl)⟩
theorem g_sLMonics (X : K.In h) (G : h.Ns mainGlobals mg) (c : SaysY faY fnY tfY exY h K) : GF K mg "_law_monics" sLMonics ["_law_prime", "_law_degree"] := by
  obtain ⟨fd, F0⟩ := c.a.def_ 64 (d := d_sLMonics) rfl
  have F := He5.fun_of (st := sLMonics) F0
  have B : Binds K fd ["_law_prime", "_law_degree"] [] := F.binds fun _ _ _ _ _ _ us hl => match us, hl with | [_, _], _ => rfl
  exact ⟨fd, F, B, glo_ok X G (c.a.fact 48 (f := .glo "_law_monics") rfl)⟩
theorem g_sLClan (X : K.In h) (G : h.Ns mainGlobals mg) (c : SaysY faY fnY tfY exY h K) : GF K mg "_law_clan" sLClan ["_law_prime", "_law_row"] := by
  obtain ⟨fd, F0⟩ := c.a.def_ 65 (d := d_sLClan) rfl
  have F := He5.fun_of (st := sLClan) F0
  have B : Binds K fd ["_law_prime", "_law_row"] [] := F.binds fun _ _ _ _ _ _ us hl => match us, hl with | [_, _], _ => rfl
  exact ⟨fd, F, B, glo_ok X G (c.a.fact 49 (f := .glo "_law_clan") rfl)⟩
theorem g_sLSheets (X : K.In h) (G : h.Ns mainGlobals mg) (c : SaysY faY fnY tfY exY h K) : GF K mg "_law_sheets_of" sLSheets ["_law_prime", "_law_genus_here"] := by
  obtain ⟨fd, F0⟩ := c.a.def_ 66 (d := d_sLSheets) rfl
  have F := He5.fun_of (st := sLSheets) F0
  have B : Binds K fd ["_law_prime", "_law_genus_here"] [] := F.binds fun _ _ _ _ _ _ us hl => match us, hl with | [_, _], _ => rfl
  exact ⟨fd, F, B, glo_ok X G (c.a.fact 50 (f := .glo "_law_sheets_of") rfl)⟩
theorem g_sLLots (X : K.In h) (G : h.Ns mainGlobals mg) (c : SaysY faY fnY tfY exY h K) : GF K mg "_law_lots" sLLots ["_law_prime", "_law_genus_here"] := by
  obtain ⟨fd, F0⟩ := c.a.def_ 67 (d := d_sLLots) rfl
  have F := He5.fun_of (st := sLLots) F0
  have B : Binds K fd ["_law_prime", "_law_genus_here"] [] := F.binds fun _ _ _ _ _ _ us hl => match us, hl with | [_, _], _ => rfl
  exact ⟨fd, F, B, glo_ok X G (c.a.fact 51 (f := .glo "_law_lots") rfl)⟩
theorem g_sLShare (X : K.In h) (G : h.Ns mainGlobals mg) (c : SaysY faY fnY tfY exY h K) : GF K mg "_law_is_share" sLShare ["_law_prime", "_law_genus_here", "_law_told", "_law_due"] := by
  obtain ⟨fd, F0⟩ := c.a.def_ 68 (d := d_sLShare) rfl
  have F := He5.fun_of (st := sLShare) F0
  have B : Binds K fd ["_law_prime", "_law_genus_here", "_law_told", "_law_due"] [] := F.binds fun _ _ _ _ _ _ us hl => match us, hl with | [_, _, _, _], _ => rfl
  exact ⟨fd, F, B, glo_ok X G (c.a.fact 52 (f := .glo "_law_is_share") rfl)⟩
theorem g_sLDice (X : K.In h) (G : h.Ns mainGlobals mg) (c : SaysY faY fnY tfY exY h K) : GF K mg "_law_dice" sLDice ["_law_script", "_law_spot"] := by
  obtain ⟨fd, F0⟩ := c.a.def_ 69 (d := d_sLDice) rfl
  have F := He5.fun_of (st := sLDice) F0
  have B : Binds K fd ["_law_script", "_law_spot"] [] := F.binds fun _ _ _ _ _ _ us hl => match us, hl with | [_, _], _ => rfl
  exact ⟨fd, F, B, glo_ok X G (c.a.fact 53 (f := .glo "_law_dice") rfl)⟩
theorem g_sLRoll (X : K.In h) (G : h.Ns mainGlobals mg) (c : SaysY faY fnY tfY exY h K) : GF K mg "_law_roll" sLRoll ["_law_dice_here", "_law_total"] := by
  obtain ⟨fd, F0⟩ := c.a.def_ 70 (d := d_sLRoll) rfl
  have F := He5.fun_of (st := sLRoll) F0
  have B : Binds K fd ["_law_dice_here", "_law_total"] [] := F.binds fun _ _ _ _ _ _ us hl => match us, hl with | [_, _], _ => rfl
  exact ⟨fd, F, B, glo_ok X G (c.a.fact 54 (f := .glo "_law_roll") rfl)⟩
theorem g_sFamInit (X : K.In h) (G : h.Ns mainGlobals mg) (c : SaysY faY fnY tfY exY h K) : IF K mg "Family" "Family.__init__" sFamInit ["self", "prime", "row"] := by
  obtain ⟨fd, F0⟩ := c.a.def_ 71 (d := d_sFamInit) rfl
  have F := He5.fun_of (st := sFamInit) F0
  have B : Binds K fd ["self", "prime", "row"] [] := F.binds fun _ _ _ _ _ _ us hl => match us, hl with | [_, _, _], _ => rfl
  exact ⟨fd, F, B, glo_ok X G (c.a.fact 62 (f := .glo "Family") rfl), mkr_ok (c.a.fact 93 (f := .mkr "Family") rfl)⟩
theorem g_sNextRows (c : SaysY faY fnY tfY exY h K) : MF K "Family" "next_rows" "Family.next_rows" sNextRows ["self", "row"] := by
  obtain ⟨fd, F0⟩ := c.a.def_ 72 (d := d_sNextRows) rfl
  have F := He5.fun_of (st := sNextRows) F0
  have B : Binds K fd ["self", "row"] [] := F.binds fun _ _ _ _ _ _ us hl => match us, hl with | [_, _], _ => rfl
  exact ⟨fd, F, B, meth_ok (c.a.fact 101 (f := .meth "Family" "next_rows") rfl), fun_in F⟩
theorem g_sGather (c : SaysY faY fnY tfY exY h K) : MF K "Family" "gather" "Family.gather" sGather ["self"] := by
  obtain ⟨fd, F0⟩ := c.a.def_ 73 (d := d_sGather) rfl
  have F := He5.fun_of (st := sGather) F0
  have B : Binds K fd ["self"] [] := F.binds fun _ _ _ _ _ _ us hl => match us, hl with | [_], _ => rfl
  exact ⟨fd, F, B, meth_ok (c.a.fact 102 (f := .meth "Family" "gather") rfl), fun_in F⟩
theorem g_sFamilies (X : K.In h) (G : h.Ns mainGlobals mg) (c : SaysY faY fnY tfY exY h K) : GF K mg "families" sFamilies ["prime", "genus"] := by
  obtain ⟨fd, F0⟩ := c.a.def_ 74 (d := d_sFamilies) rfl
  have F := He5.fun_of (st := sFamilies) F0
  have B : Binds K fd ["prime", "genus"] [] := F.binds fun _ _ _ _ _ _ us hl => match us, hl with | [_, _], _ => rfl
  exact ⟨fd, F, B, glo_ok X G (c.a.fact 55 (f := .glo "families") rfl)⟩
theorem g_sLPick (X : K.In h) (G : h.Ns mainGlobals mg) (c : SaysY faY fnY tfY exY h K) : GF K mg "_law_pick" sLPick ["_law_dice_here", "_law_items"] := by
  obtain ⟨fd, F0⟩ := c.a.def_ 75 (d := d_sLPick) rfl
  have F := He5.fun_of (st := sLPick) F0
  have B : Binds K fd ["_law_dice_here", "_law_items"] [] := F.binds fun _ _ _ _ _ _ us hl => match us, hl with | [_, _], _ => rfl
  exact ⟨fd, F, B, glo_ok X G (c.a.fact 56 (f := .glo "_law_pick") rfl)⟩
theorem g_sLaw (X : K.In h) (G : h.Ns mainGlobals mg) (c : SaysY faY fnY tfY exY h K) : GF K mg "law" sLaw ["_law_script"] := by
  obtain ⟨fd, F0⟩ := c.a.def_ 76 (d := d_sLaw) rfl
  have F := He5.fun_of (st := sLaw) F0
  have B : Binds K fd ["_law_script"] [] := F.binds fun _ _ _ _ _ _ us hl => match us, hl with | [_], _ => rfl
  exact ⟨fd, F, B, glo_ok X G (c.a.fact 57 (f := .glo "law") rfl)⟩
theorem g_sOrder (X : K.In h) (G : h.Ns mainGlobals mg) (c : SaysY faY fnY tfY exY h K) : GF K mg "order_of" sOrder ["prime", "residue"] := by
  obtain ⟨fd, F0⟩ := c.a.def_ 77 (d := d_sOrder) rfl
  have F := He5.fun_of (st := sOrder) F0
  have B : Binds K fd ["prime", "residue"] [] := F.binds fun _ _ _ _ _ _ us hl => match us, hl with | [_, _], _ => rfl
  exact ⟨fd, F, B, glo_ok X G (c.a.fact 58 (f := .glo "order_of") rfl)⟩
theorem g_tx (X : K.In h) (G : h.Ns mainGlobals mg) (c : SaysY faY fnY tfY exY h K) : Tx K mg :=
  { abs := free_ok X G (c.a.fact 64 (f := .free "abs") rfl),
    enumerate := free_ok X G (c.a.fact 65 (f := .free "enumerate") rfl),
    int := free_ok X G (c.a.fact 66 (f := .free "int") rfl),
    isinstance := free_ok X G (c.a.fact 67 (f := .free "isinstance") rfl),
    len := free_ok X G (c.a.fact 68 (f := .free "len") rfl),
    list := free_ok X G (c.a.fact 69 (f := .free "list") rfl),
    max := free_ok X G (c.a.fact 70 (f := .free "max") rfl),
    min := free_ok X G (c.a.fact 71 (f := .free "min") rfl),
    next := free_ok X G (c.a.fact 72 (f := .free "next") rfl),
    range := free_ok X G (c.a.fact 73 (f := .free "range") rfl),
    sorted := free_ok X G (c.a.fact 74 (f := .free "sorted") rfl),
    str := free_ok X G (c.a.fact 75 (f := .free "str") rfl),
    sum := free_ok X G (c.a.fact 76 (f := .free "sum") rfl),
    tuple := free_ok X G (c.a.fact 77 (f := .free "tuple") rfl),
    zip := free_ok X G (c.a.fact 78 (f := .free "zip") rfl),
    bool := free_ok X G (c.a.fact 79 (f := .free "bool") rfl),
    primes := ⟨_, glo_ok X G (c.a.fact 63 (f := .glo "PRIMES") rfl), fun H => tupB_ok (exOk c.more 26) H⟩,
    great := int_ok X G (c.a.fact 80 (f := .int "GREAT" (10 ^ 60)) rfl),
    maxFamily := int_ok X G (c.a.fact 81 (f := .int "MAX_FAMILY" 100000) rfl),
    maxGenus := int_ok X G (c.a.fact 82 (f := .int "MAX_GENUS" 99) rfl),
    maxListed := int_ok X G (c.a.fact 83 (f := .int "MAX_LISTED_GENUS" 3) rfl),
    maxDegree := int_ok X G (c.a.fact 84 (f := .int "MAX_DEGREE" 8) rfl),
    rim := str_ok X G (c.a.fact 85 (f := .str "RIM" "rim") rfl),
    one := str_ok X G (c.a.fact 86 (f := .str "ONE" "one") rfl),
    two := str_ok X G (c.a.fact 87 (f := .str "TWO" "two") rfl),
    none := str_ok X G (c.a.fact 88 (f := .str "NONE" "none") rfl),
    letter := str_ok X G (c.a.fact 89 (f := .str "LETTER" "x") rfl) }
theorem g_Entries (X : K.In h) (G : h.Ns mainGlobals mg) (c : SaysY faY fnY tfY exY h K) : EntF K mg (ga K "Entries") :=
  { clB_ok X G (c.a.fact 59 (f := .glo "Entries") rfl) (exOk c.more 0) with s0 := slB_ok (exOk c.more 4) }
theorem g_Poly (X : K.In h) (G : h.Ns mainGlobals mg) (c : SaysY faY fnY tfY exY h K) : PolyF K mg (ga K "Poly") :=
  { clB_ok X G (c.a.fact 60 (f := .glo "Poly") rfl) (exOk c.more 1) with s0 := slB_ok (exOk c.more 5), s1 := slB_ok (exOk c.more 6), s2 := slB_ok (exOk c.more 7), s3 := slB_ok (exOk c.more 8), s4 := slB_ok (exOk c.more 9), sf := exOk c.more 27, fm := eqO_ok (exOk c.more 28) }
theorem g_Curve (X : K.In h) (G : h.Ns mainGlobals mg) (c : SaysY faY fnY tfY exY h K) : CurveF K mg (ga K "Poly") (ga K "Curve") :=
  { clB_ok X G (c.a.fact 61 (f := .glo "Curve") rfl) (exOk c.more 2) with s0 := slB_ok (exOk c.more 10), s1 := slB_ok (exOk c.more 11), s2 := slB_ok (exOk c.more 12), s3 := slB_ok (exOk c.more 13), s4 := slB_ok (exOk c.more 14), s5 := slB_ok (exOk c.more 15), s6 := slB_ok (exOk c.more 16), ne := ne_of_nbeq (exOk c.more 30) }
theorem g_Family (X : K.In h) (G : h.Ns mainGlobals mg) (c : SaysY faY fnY tfY exY h K) : FamF K mg (ga K "Family") :=
  { clB_ok X G (c.a.fact 62 (f := .glo "Family") rfl) (exOk c.more 3) with s0 := slB_ok (exOk c.more 17), s1 := slB_ok (exOk c.more 18), s2 := slB_ok (exOk c.more 19) }
theorem g_ne (c : SaysY faY fnY tfY exY h K) : (cT K ("first_generator", none)).2 ≠ (cT K ("Family", some "gather")).2 := fun e => by
  have q := exOk c.more 29
  rw [e, nbeq_self] at q
  cases q
end
end Tw
end STwZ3
section STwZ4
set_option Elab.async false
set_option linter.all false
set_option maxRecDepth 100000
set_option maxHeartbeats 4000000
/-! The head (4): all promises joined. -/
namespace Tw
open PySem PySem.Spec PyProof.Rows L2 He
abbrev tbY (K : PySem.W.Frag) : Tb := ⟨(cT K ("first_generator", none)).2, (cT K ("Family", some "gather")).2, ("Family.gather.<locals>." : Str) ++ "<lambda>"⟩
theorem lawY {P : Program} {w : World} {K : PySem.W.Frag} {mg : Str → Option Value} {base h : Heap} {fd : FuncData} (X : K.In h) (G : h.Ns mainGlobals mg) (c : SaysY faY fnY tfY exY h K) (T1 : GxR.TabB base mg (cT K ("first_generator", none)).1 (cT K ("first_generator", none)).2) (T2 : LamX.TabB base mg (cT K ("Family", some "gather")).1 (cT K ("Family", some "gather")).2) (F : Fun K "law" "law" sLaw (ga K "law") fd) :
    FN P w K mg base (tbY K) 15 (ga K "law") fd ["_law_script"] (pmLaw K) := by
  have B := g_tx X G c
  have Ec := g_Entries X G c
  have Pc := g_Poly X G c
  have Cf := g_Curve X G c
  have Ff := g_Family X G c
  have Fo : OrdF K mg := by
    obtain ⟨fd, F, FB, e⟩ := g_sOrder X G c
    exact ⟨_, fd, F, FB, e⟩
  have k0 : DF P w K mg base (tbY K) "raised" 1 pmRaised := (g_sRaised X G c).df fun fd F => ok_raised (tb := tbY K) B F
  have k1 : DF P w K mg base (tbY K) "is_whole" 1 pmWhole := (g_sWhole X G c).df fun fd F => ok_whole (tb := tbY K) B F
  have k2 : DF P w K mg base (tbY K) "is_integer" 2 pmInteger := (g_sInteger X G c).df fun fd F => ok_integer (tb := tbY K) B k1 F
  have k3 : DF P w K mg base (tbY K) "is_prime" 2 pmPrime := (g_sPrime X G c).df fun fd F => ok_prime (tb := tbY K) B k1 F
  have k4 : DF P w K mg base (tbY K) "require_prime" 3 pmReqPrime := (g_sReqPrime X G c).df fun fd F => ok_reqPrime (tb := tbY K) B k3 F
  have k5 : DF P w K mg base (tbY K) "require_count" 3 pmReqCount := (g_sReqCount X G c).df fun fd F => ok_reqCount (tb := tbY K) B k2 F
  have k6 : DF P w K mg base (tbY K) "poly_row" 1 pmPolyRow := (g_sPolyRow X G c).df fun fd F => ok_polyRow (tb := tbY K) B F
  have k7 : DF P w K mg base (tbY K) "poly_row" 1 pmPolyRowT := (g_sPolyRow X G c).df fun fd F => ok_polyRowT (tb := tbY K) B F
  have k8 : DF P w K mg base (tbY K) "poly_number" 1 pmPolyNumber := (g_sPolyNumber X G c).df fun fd F => ok_polyNumber (tb := tbY K) B F
  have k9 : Prp (tbY K) P w K mg base (ga K "Curve") "f" 1 (pmCurveF (ga K "Poly") (ga K "Curve")) := (g_sCurveF c).prp fun fd F => ok_curveF (tb := tbY K) Cf F
  have k10 : Mth (tbY K) P w K mg base (ga K "Curve") "__len__" 1 (pmCurveLen (ga K "Poly") (ga K "Curve")) := (g_sCurveLen c).mth fun fd F => ok_curveLen (tb := tbY K) B Cf F
  have k11 : DF P w K mg base (tbY K) "poly_term" 1 pmPolyTerm := (g_sPolyTerm X G c).df fun fd F => ok_polyTerm (tb := tbY K) B F
  have k12 : DF P w K mg base (tbY K) "poly_text" 2 pmPolyText := (g_sPolyText X G c).df fun fd F => ok_polyText (tb := tbY K) B k11 F
  have k13 : DefI (tbY K) P w K mg base "Entries" (ga K "Entries") 1 (pmEnt (ga K "Entries")) := (g_sEntInit X G c).defi fun fd F => ok_entInit (tb := tbY K) Ec F
  have k14 : DefI (tbY K) P w K mg base "Poly" (ga K "Poly") 3 (pmPolyI (ga K "Entries") (ga K "Poly")) := (g_sPolyInit X G c).defi fun fd F => ok_polyInit (tb := tbY K) B Ec Pc k8 k12 F
  have k15 : Prp (tbY K) P w K mg base (ga K "Poly") "prime" 1 (pmPPrime (ga K "Poly")) := (g_sPPrime c).prp fun fd F => ok_pPrime (tb := tbY K) Pc F
  have k16 : Prp (tbY K) P w K mg base (ga K "Poly") "entries" 1 (pmPEntries (ga K "Poly")) := (g_sPEntries c).prp fun fd F => ok_pEntries (tb := tbY K) Pc F
  have k17 : Prp (tbY K) P w K mg base (ga K "Poly") "degree" 1 (pmPDegree (ga K "Poly")) := (g_sPDegree c).prp fun fd F => ok_pDegree (tb := tbY K) B Pc F
  have k18 : Prp (tbY K) P w K mg base (ga K "Poly") "lead" 1 (pmPLead (ga K "Poly")) := (g_sPLead c).prp fun fd F => ok_pLead (tb := tbY K) Pc F
  have k19 : Prp (tbY K) P w K mg base (ga K "Poly") "is_zero" 1 (pmPZero (ga K "Poly")) := (g_sPZero c).prp fun fd F => ok_pZero (tb := tbY K) Pc F
  have k20 : Mth (tbY K) P w K mg base (ga K "Poly") "__str__" 1 (pmPStr (ga K "Poly")) := (g_sPStr c).mth fun fd F => ok_pStr (tb := tbY K) Pc F
  have k21 : DF P w K mg base (tbY K) "require_poly" 1 (pmReqPoly (ga K "Poly")) := (g_sReqPoly X G c).df fun fd F => ok_reqPoly (tb := tbY K) B Pc F
  have k22 : DF P w K mg base (tbY K) "require_same_prime" 1 (pmReqSame (ga K "Poly")) := (g_sReqSame X G c).df fun fd F => ok_reqSame (tb := tbY K) B Pc F
  have k23 : DF P w K mg base (tbY K) "require_divisor" 2 (pmReqDiv (ga K "Poly")) := (g_sReqDiv X G c).df fun fd F => ok_reqDiv (tb := tbY K) B Pc k22 F
  have k24 : DF P w K mg base (tbY K) "poly_inverse" 1 pmInv := (g_sPolyInv X G c).df fun fd F => ok_polyInv (tb := tbY K) B F
  have k25 : DF P w K mg base (tbY K) "poly_divided" 2 pmPolyDiv := (g_sPolyDiv X G c).df fun fd F => ok_polyDiv (tb := tbY K) B k24 F
  have k26 : DF P w K mg base (tbY K) "is_residue_of" 2 pmResidue := (g_sResidue X G c).df fun fd F => ok_residue (tb := tbY K) B k1 F
  have k27 : Mth (tbY K) P w K mg base (ga K "Poly") "__call__" 3 (pmPCall (ga K "Poly")) := (g_sPCall c).mth fun fd F => ok_pCall (tb := tbY K) Pc k26 F
  have k28 : DF P w K mg base (tbY K) "curves_in" 2 pmCurvesIn := (g_sCurvesIn X G c).df fun fd F => ok_curvesIn (tb := tbY K) B k0 F
  have k29 : DF P w K mg base (tbY K) "count_curves" 4 pmCurvesIn := (g_sCountCurves X G c).df fun fd F => ok_countCurves (tb := tbY K) B k4 k5 k28 F
  have k30 : DF P w K mg base (tbY K) "changes_in" 1 pmChangesIn := (g_sChangesIn X G c).df fun fd F => ok_changesIn (tb := tbY K) F
  have k31 : DF P w K mg base (tbY K) "mass" 4 pmMass := (g_sMass X G c).df fun fd F => ok_mass (tb := tbY K) B k4 k5 k0 F
  have k32 : DF P w K mg base (tbY K) "moved_on" 1 pmMovedOn := (g_sMovedOn X G c).df fun fd F => ok_movedOn (tb := tbY K) B F
  have k33 : DF P w K mg base (tbY K) "form_row" 3 (pmFormRow (ga K "Poly")) := (g_sFormRow X G c).df fun fd F => ok_formRow (tb := tbY K) B Pc k16 F
  have k34 : DF P w K mg base (tbY K) "square_roots" 1 pmRoots := (g_sRoots X G c).df fun fd F => ok_roots (tb := tbY K) B F
  have k35 : DF P w K mg base (tbY K) "kind_in" 3 (pmKindIn (ga K "Poly")) := (g_sKindIn X G c).df fun fd F => ok_kindIn (tb := tbY K) B Pc k17 k15 k18 k34 F
  have k36 : DF P w K mg base (tbY K) "rims_in" 3 (pmRimsIn (ga K "Poly")) := (g_sRimsIn X G c).df fun fd F => ok_rimsIn (tb := tbY K) B Pc k15 k18 k34 F
  have k37 : DF P w K mg base (tbY K) "points_in" 4 (pmPointsIn (ga K "Poly")) := (g_sPointsIn X G c).df fun fd F => ok_pointsIn (tb := tbY K) B Pc k15 k34 k27 F
  have k38 : DF P w K mg base (tbY K) "first_generator" 3 pmFirst := (g_sFirst X G c).df fun fd F => ok_first (tb := tbY K) B (fun_code (p := ("first_generator", none)) F) T1 (g_ne c) Fo F
  have k39 : DF P w K mg base (tbY K) "_law_raised" 1 pmRaised := (g_sLRaised X G c).df fun fd F => ok_lRaised (tb := tbY K) B F
  have k40 : DF P w K mg base (tbY K) "_law_trim" 1 pmPolyRow := (g_sLTrim X G c).df fun fd F => ok_lTrim (tb := tbY K) B F
  have k41 : DF P w K mg base (tbY K) "_law_trim" 1 pmPolyRowT := (g_sLTrim X G c).df fun fd F => ok_lTrimT (tb := tbY K) B F
  have k42 : DF P w K mg base (tbY K) "_law_inverse" 1 pmInv := (g_sLInv X G c).df fun fd F => ok_lInv (tb := tbY K) B F
  have k43 : DF P w K mg base (tbY K) "_law_monic" 2 pmLMonic := (g_sLMonic X G c).df fun fd F => ok_lMonic (tb := tbY K) B k42 F
  have k44 : DF P w K mg base (tbY K) "_law_slope" 2 pmLSlope := (g_sLSlope X G c).df fun fd F => ok_lSlope (tb := tbY K) B k40 F
  have k45 : DF P w K mg base (tbY K) "_law_genus" 1 pmLGenus := (g_sLGenus X G c).df fun fd F => ok_lGenus (tb := tbY K) B F
  have k46 : DF P w K mg base (tbY K) "_law_number" 1 pmPolyNumber := (g_sLNumber X G c).df fun fd F => ok_lNumber (tb := tbY K) B F
  have k47 : DF P w K mg base (tbY K) "_law_many_changes" 1 pmLMany := (g_sLMany X G c).df fun fd F => ok_lMany (tb := tbY K) F
  have k48 : DF P w K mg base (tbY K) "_law_shifted" 1 pmMovedOn := (g_sLShift X G c).df fun fd F => ok_lShift (tb := tbY K) B F
  have k49 : DF P w K mg base (tbY K) "_law_divided" 2 pmLDiv := (g_sLDiv X G c).df fun fd F => ok_lDiv (tb := tbY K) B k42 k40 F
  have k50 : DF P w K mg base (tbY K) "_law_rest" 3 pmLRest := (g_sLRest X G c).df fun fd F => ok_lRest (tb := tbY K) k49 F
  have k51 : DF P w K mg base (tbY K) "_law_common" 4 pmLCommon := (g_sLCommon X G c).df fun fd F => ok_lCommon (tb := tbY K) B k50 k43 F
  have k52 : DF P w K mg base (tbY K) "_law_is_free" 5 pmLFree := (g_sLFree X G c).df fun fd F => ok_lFree (tb := tbY K) k44 k51 F
  have k53 : DF P w K mg base (tbY K) "_law_maker" 1 pmLMaker := (g_sLMaker X G c).df fun fd F => ok_lMaker (tb := tbY K) B F
  have k54 : DF P w K mg base (tbY K) "_law_times" 2 pmLTimes := (g_sLTimes X G c).df fun fd F => ok_lTimes (tb := tbY K) B k40 F
  have k55 : DF P w K mg base (tbY K) "_law_monics" 1 pmLMonics := (g_sLMonics X G c).df fun fd F => ok_lMonics (tb := tbY K) B F
  have k56 : DF P w K mg base (tbY K) "_law_clan" 2 pmLClan := (g_sLClan X G c).df fun fd F => ok_lClan (tb := tbY K) B k53 k45 k39 k48 k41 F
  have k57 : DF P w K mg base (tbY K) "_law_sheets_of" 6 pmLSheets := (g_sLSheets X G c).df fun fd F => ok_lSheets (tb := tbY K) B k55 k52 k54 k46 B.sorted F
  have k58 : DF P w K mg base (tbY K) "_law_lots" 7 pmLLots := (g_sLLots X G c).df fun fd F => ok_lLots (tb := tbY K) B k47 k57 k56 F
  have k59 : DF P w K mg base (tbY K) "_law_is_share" 5 (pmLShare (ga K "Poly") (ga K "Curve")) := (g_sLShare X G c).df fun fd F => ok_lShare (tb := tbY K) B Cf k47 k31 k39 k10 F
  have k60 : DF P w K mg base (tbY K) "_law_dice" 1 (pmLDice K) := (g_sLDice X G c).df fun fd F => ok_lDice (tb := tbY K) B F
  have k61 : DefS P w K mg base "_law_roll" 1 (spRoll (tbY K)) := (g_sLRoll X G c).ds fun fd F => ok_lRoll (tb := tbY K) B F
  have k62 : DefI (tbY K) P w K mg base "Family" (ga K "Family") 4 (pmFam (ga K "Family")) := (g_sFamInit X G c).defi fun fd F => ok_famInit (tb := tbY K) B Ff k38 F
  have k63 : Mth (tbY K) P w K mg base (ga K "Family") "next_rows" 2 (pmNextRows (ga K "Family")) := (g_sNextRows c).mth fun fd F => ok_nextRows (tb := tbY K) B Ff k32 F
  have k64 : MthG (tbY K) P w K mg base (ga K "Family") 4 := by
    obtain ⟨fd, F, FB, M, I⟩ := g_sGather c
    exact ⟨_, M, I, ((ok_gather (tb := tbY K) B Ff (fun_code (p := ("Family", some "gather")) F) T2 (g_ne c) rfl k63 k8 k30 F).raw FB .nil).imp fun vs H Q E h => by rw [List.append_nil]; exact h⟩
  have k65 : DefS P w K mg base "_law_pick" 2 (spPick (tbY K)) := (g_sLPick X G c).ds fun fd F => ok_lPick (tb := tbY K) B k61 F
  have k66 : DF P w K mg base (tbY K) "made" 5 (pmMade (ga K "Poly")) := (g_sMade X G c).df fun fd F => ok_made (tb := tbY K) B k6 k13 k14 F
  have k67 : DF P w K mg base (tbY K) "made" 5 (pmMadeT (ga K "Poly")) := (g_sMade X G c).df fun fd F => ok_madeT (tb := tbY K) B k7 k13 k14 F
  have k68 : Mth (tbY K) P w K mg base (ga K "Poly") "__mod__" 6 (pmMod (ga K "Poly")) := (g_sPMod c).mth fun fd F => ok_pMod (tb := tbY K) B Pc k23 k25 k66 F
  have k69 : Mth (tbY K) P w K mg base (ga K "Poly") "scaled" 6 (pmScaled (ga K "Poly")) := (g_sPScaled c).mth fun fd F => ok_pScaled (tb := tbY K) Pc k26 k66 F
  have k70 : Mth (tbY K) P w K mg base (ga K "Poly") "monic" 7 (pmMonic (ga K "Poly")) := (g_sPMonic c).mth fun fd F => ok_pMonic (tb := tbY K) Pc k24 k69 F
  have k71 : Mth (tbY K) P w K mg base (ga K "Poly") "derivative" 6 (pmDer (ga K "Poly")) := (g_sPDer c).mth fun fd F => ok_pDer (tb := tbY K) B Pc k66 F
  have k72 : DF P w K mg base (tbY K) "monic_or_zero" 8 (pmMonic (ga K "Poly")) := (g_sMonOrZero X G c).df fun fd F => ok_monOrZero (tb := tbY K) Pc k19 k70 F
  have k73 : DF P w K mg base (tbY K) "common_of" 9 (pmCommon (ga K "Poly")) := (g_sCommon X G c).df fun fd F => ok_common (tb := tbY K) Pc k19 k68 k72 F
  have k74 : DF P w K mg base (tbY K) "is_square_free" 10 (pmSqf (ga K "Poly")) := (g_sSqf X G c).df fun fd F => ok_sqf (tb := tbY K) B Pc k21 k19 k17 k71 k73 F
  have k75 : DF P w K mg base (tbY K) "poly_at" 6 (pmPolyAt (ga K "Poly")) := (g_sPolyAt X G c).df fun fd F => ok_polyAt (tb := tbY K) B k4 k2 k66 F
  have k76 : DefI (tbY K) P w K mg base "Curve" (ga K "Curve") 11 (pmCurveI (ga K "Poly") (ga K "Curve")) := (g_sCurveInit X G c).defi fun fd F => ok_curveInit (tb := tbY K) B Pc Cf k17 k15 k74 k35 k36 k37 k20 F
  have k77 : DF P w K mg base (tbY K) "curve_of" 13 (pmCurveOf (ga K "Poly") (ga K "Curve")) := (g_sCurveOf X G c).df fun fd F => ok_curveOf (tb := tbY K) k67 k76 F
  have k78 : DF P w K mg base (tbY K) "families" 14 (pmFamilies (ga K "Poly") (ga K "Curve") 500) := (g_sFamilies X G c).df fun fd F => ok_families (tb := tbY K) B Pc Ff k4 k5 k28 k30 k0 k75 k33 k17 k74 k62 k64 k77 F
  exact ok_law B Pc Cf plainAll k60 k65 k58 k78 k47 k29 k59 k31 k39 k9 k16 F
end Tw
end STwZ4
section STwZ6
set_option Elab.async false
set_option linter.all false
set_option maxRecDepth 100000
set_option maxHeartbeats 0
/-! The law. -/
namespace Tw
open PySem PySem.Spec PyProof.Rows L2 He
abbrev lwY : PySem.W.OpenLaw := PySem.Challenge.rw_twinsheets_k87_whole_families_by_all_cur
theorem tf1 : (("first_generator", none) : Defn) ∈ tfY := List.mem_cons_self
theorem tf2 : (("Family", some "gather") : Defn) ∈ tfY := List.mem_cons_of_mem _ List.mem_cons_self
theorem bindsY {K : PySem.W.Frag} {f : Addr} {fd : FuncData} (F : Fun K "law" "law" sLaw f fd) (s : Shared) (u : Value) : BindsTo s fd ⟨[u], []⟩ [("_law_script", u)] := by
  obtain ⟨oc, od, kV, doc, pm, an, cdv, ct, osl, rfl, _, _⟩ := F.ex
  exact .of_eq rfl
theorem spY {K : PySem.W.Frag} {tb : Tb} {H : Hp} {a : Addr} {ns : List Int} (hP : H tb.P = some (.tbl #[])) (hL : H tb.L = some (.tbl #[])) (hS : SqL K H a (ns.map V.int)) : spF tb (pmLaw K) [.ref a] H (fun v _ => v = .bl true) fun _ _ _ => False := by
  obtain ⟨b, hq⟩ := tQ_of hS
  refine ⟨ns, trivial, ⟨⟨#[], hP, trivial⟩, #[], hL, trivial, fun pos cv h => ?_⟩, ⟨agQ_at hq, trivial⟩, fun v H' _ h => h⟩
  cases h
theorem atY {w : World} {mg : Str → Option Value} {fa : Addr} {h : Heap} (Y : hkY.says w h) (G : h.Ns mainGlobals mg) (hmg : mg "law" = some (.ref fa)) : ∃ K : PySem.W.Frag, K.In h ∧ LamX.LawAtS lwY w K CX0 15 63 "_law_script" mg fa h := by
  obtain ⟨K, X, c⟩ := Y
  obtain ⟨fd, F, B, e⟩ := g_sLaw X G c
  have ef := hmg.symm.trans e
  cases ef
  refine ⟨K, X, fd, tfY.map (cT K), spF (tbY K) (pmLaw K), fun p hp => ?_, fun p hp => ?_, fun p hp => ?_, ?_, fun H a ns _ _ hH hS => ?_, fun base KB GB T => ?_⟩
  · obtain ⟨q, hq, rfl⟩ := List.mem_map.mp hp
    exact c.empty q hq
  · obtain ⟨q, hq, rfl⟩ := List.mem_map.mp hp
    exact c.out q hq
  · obtain ⟨q, hq, rfl⟩ := List.mem_map.mp hp
    exact PySem.W.codeHd_of_K X (c.hd q hq)
  · exact bindsY F
  · exact spY (hH _ (List.mem_map_of_mem tf1)) (hH _ (List.mem_map_of_mem tf2)) hS
  · have T1 := T _ (List.mem_map_of_mem tf1)
    have T2 := T _ (List.mem_map_of_mem tf2)
    exact lawY X G c ⟨T1.code, T1.bm, T1.gP⟩ T2 F
end Tw
open PySem PySem.W PySem.Calls PyProof.Rows
theorem PySem.Challenge.cw_twinsheets_k87_whole_families_by_all_cur_holds : PySem.Challenge.rw_twinsheets_k87_whole_families_by_all_cur.Holds := by
  w_on; o_law
  refine HandSHeadRun.head_any (r := Tw.RwY) (q := Tw.qvY) (H := Tw.hkY) (ob := Tw.obY) (M := 8000) (loose := Tw.namesY) (d := HandSHeadRun.topDef Tw.RwY.prog 103) (kwd := []) Tw.obY_eq
    (by kernel_rfl) (fun s => by kernel_rfl) Tw.runY (by kernel_rfl) (by kernel_rfl) (by kernel_rfl) (by rfl) (by first | assumption | decide +kernel) (by decide +kernel) ⟨rfl, rfl, rfl, rfl, rfl, by decide +kernel⟩ ?hw ?hc
  case hw => w_witness2
  case hc =>
    refine LamX.walk_ofTsE (l := Tw.lwY) (n := 63) (k := 15) (x := "_law_script") (CX := fun _ => L2.CX0) rfl (by decide) (by kernel_rfl) ⟨rfl, by decide, by decide⟩ ?F (fun _ _ _ _ _ z => z)
    intro w mg fa h Y G hmg0
    have e : (HandSHeadRun.topDef Tw.RwY.prog 103).name = ("law" : PySem.Str) := by kernel_rfl
    exact Tw.atY Y G (by rw [← e]; exact hmg0)
end STwZ6
