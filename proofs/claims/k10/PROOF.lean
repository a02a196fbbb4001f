import PyProof.Rows.All
import Wide.All
import OpenK.AllK
import Wide.FinOn
import HandS.Lambda
import HandS.ExcCtx
import HandS.CallRecv
import HandS.HeadWalk
import HandS.ExcInit
import HandS.ExcField
import HandS.ExcIs
import HandS.Defaults
import HandS.Codes
import KE.KExcIs
import HandS.RaiseMore
import HandS.HotCalls
import HandS.HeadHook2
import HandS.HeadHook4
import HandS.HeadEnd
import HandS.Words
import HandS.Head0
import HandS.Head1
import HandS.Head2
import HandS.HeadHook1
import PySem.Challenge.RW_tenturns_k10_classes_of_refusals
import PyProof.EqAt
import PyProof.EqKinds
import PyProof.TupleCall
import KE.DataEq
import KE.LtData
import HandS.ForMost
import HandS.Text
import HandS.ExcValue
import HandS.IsInst
import HandS.TupAny
import HandS.Style
import HandS.Walk
import HandS.TupMul
import KE.DataFind
import PyProof.ReprRoads
import HandS.Dict
import KE.DatumOrd
import HandS.SortInts
import HandS.SortRule
import KE.KSortTup
import PyProof.Rows.RowHeap
import PyProof.SumAny
import PyProof.WalkInts
import PyProof.Walks
import PyProof.TupleIter
import PyProof.WalksMore
import HandS.Strs
import HandS.Zip
import KE.GoesMore
import HandS.Iter
import PyProof.Rows.FactsN_isinstance
import HandS.StrMore
import HandS.SetFor
import HandS.Conv
import HandS.TupSets
import KE.KeyNested
import KE.KCallOwn
import PyProof.InstEq
import PyProof.MeetsIn
import HandS.Comp
import HandS.FStr
import HandS.EndTab
import PyProof.ReprLen
import PyProof.Rows.ReprOcc
section
set_option Elab.async false
set_option linter.all false
set_option maxRecDepth 100000
set_option maxHeartbeats 1000000
/-! PL0: what is looked at in the module's heap; a Hook that looks at few objects. -/
namespace PL
open PySem
/-- isinstance between exceptions' classes -/
def xsub (c d : Str) : Bool := decide (d = c) || decide (d = "ClubError") || decide (d = "ValueError")
/-- what a global name is -/
inductive Gk where
  | blt
  | int
  | str (z : Str)
  | fn
  | fnD (ds : List Int)
  | cls (fs : List Str) (ms : List (Str × List Int))
  | exc (r : Bool)
  | excA
  | said
  deriving DecidableEq
abbrev Gt := List (Str × Gk)
section
open PySem.Spec PyProof.Rows L2
/-- the class's record, read off -/
def oexB (K : PySem.W.Frag) (C : Addr) : Bool := (match K.lookup C with
    | some ⟨t, _, .cls cd, sl⟩ => decide (t = .type "type") && (match cd.mro, sl.toList with
      | .ref D :: bm, [_, _, _, _, some (.builtin id), _] => decide (D = C ∧ id = "ValueError.__new__") && (cd.hasDict && (!cd.hasDel && HandSPX.refsVE bm))
      | _, _ => false)
    | _ => false) && (decide (W.findIn K (.ref C) "__setattr__" = some (some (.builtin "object.__setattr__"))) && (decide (W.subIn K (.ref C) (.type "BaseException") = some true) && (decide (W.typeIn K (.ref C) = some (.type "type")) && W.keepIn K (.ref C))))
def baseIB (K : PySem.W.Frag) (B : Addr) : Bool := decide (W.specialIn K (.ref B) "__getattribute__" = some (some (.builtin "type.__getattribute__"))) && (W.readsIn K B (.type "type") && (match W.findCls K (.ref B) (.type "type") "__init__" with
  | some (.val (.builtin id)) => decide (id = "ValueError.__init__")
  | _ => false))
def xsOf (gt : Gt) : List Str := gt.filterMap fun p => match p.2 with
  | .exc _ => some p.1
  | .excA => some p.1
  | _ => none
def xrOf (gt : Gt) : List Str := gt.filterMap fun p => match p.2 with
  | .exc true => some p.1
  | .excA => some p.1
  | _ => none
def xaOf (gt : Gt) : List Str := gt.filterMap fun p => match p.2 with
  | .excA => some p.1
  | _ => none
def qlam (x : Str) : Str := (x ++ ".<locals>.") ++ "<lambda>"
def tabs (K : PySem.W.Frag) (tf : List He.Defn) : List (Addr × Str) := tf.map fun p => ((He.cT K p).2, qlam p.1)
def tabsDist (K : PySem.W.Frag) (tf : List He.Defn) : Bool := (tabs K tf).all fun q => (tabs K tf).all fun r => !decide (r.1 = q.1) || decide (r.2 = q.2)
def tyInsB (K : PySem.W.Frag) (C : Addr) : Bool := decide (PySem.W.findIn K (.ref C) "__class__" = some (some (.builtin "object.__class__"))) && decide (PySem.W.specialIn K (.builtin "object.__class__") "__get__" = some (some (.builtin "getset_descriptor.__get__"))) &&
  decide (PySem.W.takesIn K (.builtin "object.__class__") = some true) && decide (PySem.W.mroIn K C (.type "object") = some true)
def excCB (K : PySem.W.Frag) (D : Addr) : Bool := decide (PySem.W.findIn K (.ref D) "__getattribute__" = some (some (.builtin "BaseException.__getattribute__"))) && decide (PySem.W.findIn K (.ref D) "__getattr__" = some none) &&
  decide (PySem.W.subIn K (.ref D) (.type "BaseException") = some true) && PySem.W.hasDictIn K D && decide (PySem.W.findIn K (.ref D) "__class__" = some (some (.builtin "object.__class__"))) &&
  decide (PySem.W.specialIn K (.builtin "object.__class__") "__get__" = some (some (.builtin "getset_descriptor.__get__"))) && decide (PySem.W.takesIn K (.builtin "object.__class__") = some true) && decide (PySem.W.mroIn K D (.type "object") = some true)
def exK (xs : List Str) (K : PySem.W.Frag) (c : Str) : Bool := excCB K (He.ga K c) && xs.all (fun d => decide (PySem.W.kitOne K (.ref (He.ga K c)) (.ref (He.ga K d)) = some (xsub c d))) &&
  decide (PySem.W.kitOne K (.ref (He.ga K c)) (.type "ValueError") = some true) && decide (PySem.W.exmOne K (.ref (He.ga K c)) (.ref (He.ga K "ClubError")) = some true)
/-- what more is looked at: the classes' isinstance, the exceptions', the lambdas' tables -/
def xaK (K : PySem.W.Frag) (c : Str) : Bool := oexB K (He.ga K c) && (xfB K (He.ga K c) && (decide (PySem.W.findIn K (.ref (He.ga K c)) "at" = some none) && (decide (PySem.W.findIn K (.ref (He.ga K c)) "__init__" = some (some (.ref (He.ma K (He.ga K c) "__init__")))) && (decide (PySem.W.typeIn K (.ref (He.ma K (He.ga K c) "__init__")) = some (.type "function")) && baseIB K (He.ga K "ClubError")))))
/-- != of own objects is object.__ne__ -/
def neAll (gt : Gt) (K : PySem.W.Frag) : Bool := gt.all fun p => match p.2 with
  | .cls _ _ => decide (PySem.W.findIn K (.ref (He.ga K p.1)) "__ne__" = some (some (.builtin "object.__ne__"))) && decide (PySem.W.subIn K (.ref (He.ga K p.1)) (.type "object") = some true) && decide (PySem.W.subIn K (.ref (He.ga K p.1)) (.type "NoneType") = some false)
  | _ => true
def exB (gt : Gt) (tf : List He.Defn) (K : PySem.W.Frag) : Bool := (gt.all fun p => match p.2 with
  | .cls _ _ => tyInsB K (He.ga K p.1) && (["NoneType", "bool", "int", "str", "tuple", "list", "dict"] : List String).all (fun t => decide (PySem.W.kitOne K (.type t) (.ref (He.ga K p.1)) = some false)) && decide (PySem.W.kitOne K (.ref (He.ga K p.1)) (.ref (He.ga K p.1)) = some true)
  | _ => true) && (xrOf gt).all (exK (xsOf gt) K) && (xaOf gt).all (xaK K) && tabsDist K tf && neAll gt K
end
/-- what is looked at behind an object -/
def refY (o : Obj) : List Addr := match o.data with
  | .func f => He.refV f.code ++ He.refV f.defaults
  | .cls c => [c.ns]
  | .dict es _ => es.toList.flatMap fun e => He.refV e.val
  | _ => []
def nextY (g : Addr → Option Obj) (as : List Addr) : List Addr := as.flatMap fun a => ((g a).map refY).getD []
def levY (g : Addr → Option Obj) : Nat → List Addr → List Addr
  | 0, as => as
  | n + 1, as => as ++ levY g n (nextY g as)
def asY (g : Addr → Option Obj) (n : Nat) : List Addr := mainGlobals :: cStatics :: levY g n (((g mainGlobals).map He.refsO).getD [])
/-- the part of the heap -/
def KY (g : Addr → Option Obj) (n : Nat) : PySem.W.Frag := He.frT g (asY g n)
section
variable (n : Nat) (fa : List He.Fa) (fn : List He.DefD) (tf : List He.Defn) (ex : PySem.W.Frag → Bool)
def obsY (g : Addr → Option Obj) : He.AlX := (He.obsT fa fn [] (KY g n), ex (KY g n) && He.tabsB g tf (KY g n))
theorem saysY {w : World} {h : Heap} (q : obsY n fa fn tf ex h.get? = He.valX fn [] w) : He.SaysX fa fn [] tf ex w h (KY h.get? n) := by
  obtain ⟨q1, q2⟩ := Prod.mk.injEq .. ▸ (show (He.obsT fa fn [] (KY h.get? n), ex (KY h.get? n) && He.tabsB h.get? tf (KY h.get? n)) = (He.valT fn [] w, true) from q)
  rw [Bool.and_eq_true] at q2
  have all := List.all_eq_true.mp q2.2
  have one : ∀ p ∈ tf, ∃ u, h.get? (He.cT (KY h.get? n) p).2 = some u ∧ He.emptyTab u = true := fun p hp => by
    have z := all p hp
    rw [Bool.and_eq_true] at z
    have z2 := z.2
    revert z2
    cases h.get? (He.cT (KY h.get? n) p).2 with
    | none => exact fun z => nomatch z
    | some u => exact fun z => ⟨u, rfl, z⟩
  exact {
    t := q1
    more := q2.1
    hd := fun p hp => ((Bool.and_eq_true _ _).mp (all p hp)).1
    out := fun p hp => by
      obtain ⟨u, eu, zu⟩ := one p hp
      exact He.frT_none eu zu
    empty := fun p hp => by
      obtain ⟨u, eu, zu⟩ := one p hp
      exact eu.trans (congrArg some (He.emptyTab_eq zu)) }
def hkY : PySem.W.Hook where
  α := He.AlX
  obs s := obsY n fa fn tf ex s.heap.get?
  val w := He.valX fn [] w
  says w h := ∃ K : PySem.W.Frag, K.In h ∧ He.SaysX fa fn [] tf ex w h K
  of _ _ q := ⟨_, He.frT_in, saysY n fa fn tf ex q⟩
  keeps := by
    rintro _ _ _ ⟨K, hK, c⟩ k
    exact ⟨K, PySem.W.Frag.In.keeps hK k, { t := c.t, more := c.more, hd := c.hd, out := c.out, empty := fun p hp => k _ _ (c.empty p hp) }⟩
theorem obsY_eq {g : Addr → Option Obj} {s : Shared} (q : ∀ a, g a = s.heap.get? a) : obsY n fa fn tf ex g = (hkY n fa fn tf ex).obs s := by
  obtain rfl : g = s.heap.get? := funext q
  rfl
end
end PL
end

section
set_option Elab.async false
set_option linter.all false
set_option maxRecDepth 100000
set_option maxHeartbeats 0
namespace K10
open PySem PySem.W PySem.Spec PyProof.Rows L2 PL
def gt : Gt := [(("ValueError" : Str), (.blt : Gk)), (("abs" : Str), (.blt : Gk)), (("all" : Str), (.blt : Gk)), (("any" : Str), (.blt : Gk)), (("bool" : Str), (.blt : Gk)), (("divmod" : Str), (.blt : Gk)), (("enumerate" : Str), (.blt : Gk)), (("int" : Str), (.blt : Gk)), (("isinstance" : Str), (.blt : Gk)), (("len" : Str), (.blt : Gk)), (("max" : Str), (.blt : Gk)), (("min" : Str), (.blt : Gk)), (("range" : Str), (.blt : Gk)), (("repr" : Str), (.blt : Gk)), (("sorted" : Str), (.blt : Gk)), (("str" : Str), (.blt : Gk)), (("tuple" : Str), (.blt : Gk)), (("zip" : Str), (.blt : Gk)), (("NoLesson" : Str), (.exc true : Gk)), (("NoBook" : Str), (.exc true : Gk)), (("NoParty" : Str), (.exc true : Gk)), (("NoPerson" : Str), (.exc true : Gk)), (("NoDay" : Str), (.exc true : Gk)), (("NoHour" : Str), (.exc true : Gk)), (("NoCard" : Str), (.exc true : Gk)), (("ClubError" : Str), (.exc true : Gk)), (("NoCards" : Str), (.exc true : Gk)), (("NoComings" : Str), (.exc true : Gk)), (("NoNumber" : Str), (.exc true : Gk)), (("Gone" : Str), (.exc true : Gk)), (("Off" : Str), (.exc true : Gk)), (("There" : Str), (.exc true : Gk)), (("TooMany" : Str), (.exc true : Gk)), (("NoDeed" : Str), (.exc true : Gk)), (("NoText" : Str), (.exc true : Gk)), (("NotDone" : Str), (.excA : Gk)), (("_law_said" : Str), (.said : Gk)), (("MOST_DAYS" : Str), (.int : Gk)), (("MOST_DEEDS" : Str), (.int : Gk)), (("MOST_HOURS" : Str), (.int : Gk)), (("MOST_PARTY" : Str), (.int : Gk)), (("MOST_PERSONS" : Str), (.int : Gk)), (("MOST_PLACES" : Str), (.int : Gk)), (("Row" : Str), (.cls ["came_in", "gone", "in_time", "inside", "places", "waiting"] [("free", []), ("party_of", []), ("is_known", []), ("can", []), ("come_in", []), ("move_on", []), ("wish", []), ("leave", []), ("do", [])] : Gk)), (("is_whole" : Str), (.fn : Gk)), (("is_from_to" : Str), (.fn : Gk)), (("is_day" : Str), (.fn : Gk)), (("is_hour" : Str), (.fn : Gk)), (("is_person" : Str), (.fn : Gk)), (("are_rising" : Str), (.fn : Gk)), (("is_lesson" : Str), (.fn : Gk)), (("is_party" : Str), (.fn : Gk)), (("is_deed" : Str), (.fn : Gk)), (("is_book" : Str), (.fn : Gk)), (("need_lesson" : Str), (.fn : Gk)), (("row_by" : Str), (.fn : Gk)), (("wrong_at" : Str), (.fn : Gk)), (("first_wrong" : Str), (.fn : Gk)), (("need_done" : Str), (.fn : Gk)), (("last_ones" : Str), (.fn : Gk)), (("at_last" : Str), (.fn : Gk)), (("_law_box" : Str), (.fn : Gk)), (("_law_take" : Str), (.fn : Gk)), (("_law_word" : Str), (.fn : Gk)), (("law" : Str), (.fn : Gk))]
def gtw : Gt := [(("ValueError" : Str), (.blt : Gk)), (("abs" : Str), (.blt : Gk)), (("all" : Str), (.blt : Gk)), (("any" : Str), (.blt : Gk)), (("bool" : Str), (.blt : Gk)), (("divmod" : Str), (.blt : Gk)), (("enumerate" : Str), (.blt : Gk)), (("int" : Str), (.blt : Gk)), (("isinstance" : Str), (.blt : Gk)), (("len" : Str), (.blt : Gk)), (("max" : Str), (.blt : Gk)), (("min" : Str), (.blt : Gk)), (("range" : Str), (.blt : Gk)), (("repr" : Str), (.blt : Gk)), (("sorted" : Str), (.blt : Gk)), (("str" : Str), (.blt : Gk)), (("tuple" : Str), (.blt : Gk)), (("zip" : Str), (.blt : Gk)), (("NoLesson" : Str), (.exc true : Gk)), (("NoBook" : Str), (.exc true : Gk)), (("NoParty" : Str), (.exc true : Gk)), (("NoPerson" : Str), (.exc true : Gk)), (("NoDay" : Str), (.exc true : Gk)), (("NoHour" : Str), (.exc true : Gk)), (("NoCard" : Str), (.exc true : Gk)), (("ClubError" : Str), (.exc true : Gk)), (("NoCards" : Str), (.exc true : Gk)), (("NoComings" : Str), (.exc true : Gk)), (("NoNumber" : Str), (.exc true : Gk)), (("Gone" : Str), (.exc true : Gk)), (("Off" : Str), (.exc true : Gk)), (("There" : Str), (.exc true : Gk)), (("TooMany" : Str), (.exc true : Gk)), (("NoDeed" : Str), (.exc true : Gk)), (("NoText" : Str), (.exc true : Gk)), (("NotDone" : Str), (.excA : Gk))]
def tf : List He.Defn := [("law", none)]
def top (i : Nat) : Stmt := PySem.Challenge.pw_tenturns_k10_classes_of_refusals.main.body.getD i (.Pass ⟨0, 0, 0, 0⟩)
def dd (x : Str) (i : Nat) : He.DefD := ⟨(x, none), x, x, defArgs (top i), defBody (top i), defScope (top i), [], []⟩
def ddv (x : Str) (i : Nat) (dv : List He.Dv) : He.DefD := ⟨(x, none), x, x, defArgs (top i), defBody (top i), defScope (top i), dv, []⟩
def clsB (s : Stmt) : List Stmt := match s with
  | .ClassDef _ _ _ b _ _ _ _ _ _ _ => b
  | _ => []
def mt (i j : Nat) : Stmt := (clsB (top i)).getD j (.Pass ⟨0, 0, 0, 0⟩)
def dm (c m ql : Str) (i j : Nat) (dv : List He.Dv) : He.DefD := ⟨(c, some m), m, ql, defArgs (mt i j), defBody (mt i j), defScope (mt i j), dv, []⟩
def dl : List He.DefD := [dd "is_whole" 27, dd "is_from_to" 28, dd "is_day" 29, dd "is_hour" 30, dd "is_person" 31, dd "are_rising" 32, dd "is_lesson" 33, dd "is_party" 34, dd "is_deed" 35, dd "is_book" 36, dd "need_lesson" 37, dm "Row" "__init__" "Row.__init__" 38 0 [], dm "Row" "free" "Row.free" 38 1 [], dm "Row" "party_of" "Row.party_of" 38 2 [], dm "Row" "is_known" "Row.is_known" 38 3 [], dm "Row" "can" "Row.can" 38 4 [], dm "Row" "come_in" "Row.come_in" 38 5 [], dm "Row" "move_on" "Row.move_on" 38 6 [], dm "Row" "wish" "Row.wish" 38 7 [], dm "Row" "leave" "Row.leave" 38 8 [], dm "Row" "do" "Row.do" 38 9 [], dd "row_by" 39, dd "wrong_at" 40, dd "first_wrong" 41, dd "need_done" 42, dd "last_ones" 43, dd "at_last" 44, dd "_law_box" 46, dd "_law_take" 47, dd "_law_word" 48, dd "law" 50, dd "_law_said" 49, dm "NotDone" "__init__" "NotDone.__init__" 19 0 []]
def fa : List He.Fa := [.glo "is_whole", .glo "is_from_to", .glo "is_day", .glo "is_hour", .glo "is_person", .glo "are_rising", .glo "is_lesson", .glo "is_party", .glo "is_deed", .glo "is_book", .glo "need_lesson", .glo "row_by", .glo "wrong_at", .glo "first_wrong", .glo "need_done", .glo "last_ones", .glo "at_last", .glo "_law_box", .glo "_law_take", .glo "_law_word", .glo "law", .glo "_law_said", .glo "NoLesson", .glo "NoBook", .glo "NoParty", .glo "NoPerson", .glo "NoDay", .glo "NoHour", .glo "NoCard", .glo "ClubError", .glo "NoCards", .glo "NoComings", .glo "NoNumber", .glo "Gone", .glo "Off", .glo "There", .glo "TooMany", .glo "NoDeed", .glo "NoText", .glo "NotDone", .exc "NoLesson", .exc "NoBook", .exc "NoParty", .exc "NoPerson", .exc "NoDay", .exc "NoHour", .exc "NoCard", .exc "ClubError", .exc "NoCards", .exc "NoComings", .exc "NoNumber", .exc "Gone", .exc "Off", .exc "There", .exc "TooMany", .exc "NoDeed", .exc "NoText", .glo "ClubError", .free "ValueError", .free "abs", .free "all", .free "any", .free "bool", .free "divmod", .free "enumerate", .free "int", .free "isinstance", .free "len", .free "max", .free "min", .free "range", .free "repr", .free "sorted", .free "str", .free "tuple", .free "zip", .int "MOST_DAYS" 60, .int "MOST_DEEDS" 24, .int "MOST_HOURS" 100, .int "MOST_PARTY" 3, .int "MOST_PERSONS" 10, .int "MOST_PLACES" 6, .glo "Row", .cls "Row", .mkr "Row", .noat "Row" "came_in", .noat "Row" "gone", .noat "Row" "in_time", .noat "Row" "inside", .noat "Row" "places", .noat "Row" "waiting", .meth "Row" "free", .meth "Row" "party_of", .meth "Row" "is_known", .meth "Row" "can", .meth "Row" "come_in", .meth "Row" "move_on", .meth "Row" "wish", .meth "Row" "leave", .meth "Row" "do"]
def names : List Str := [("_wall" : Str), ("ClubError" : Str), ("NoLesson" : Str), ("NoBook" : Str), ("NoParty" : Str), ("NoPerson" : Str), ("NoDay" : Str), ("NoHour" : Str), ("NoCard" : Str), ("NoCards" : Str), ("NoComings" : Str), ("NoNumber" : Str), ("Gone" : Str), ("Off" : Str), ("There" : Str), ("TooMany" : Str), ("NoDeed" : Str), ("NoText" : Str), ("NotDone" : Str), ("MOST_DAYS" : Str), ("MOST_HOURS" : Str), ("MOST_PLACES" : Str), ("MOST_PERSONS" : Str), ("MOST_PARTY" : Str), ("MOST_DEEDS" : Str), ("is_whole" : Str), ("is_from_to" : Str), ("is_day" : Str), ("is_hour" : Str), ("is_person" : Str), ("are_rising" : Str), ("is_lesson" : Str), ("is_party" : Str), ("is_deed" : Str), ("is_book" : Str), ("need_lesson" : Str), ("Row" : Str), ("row_by" : Str), ("wrong_at" : Str), ("first_wrong" : Str), ("need_done" : Str), ("last_ones" : Str), ("at_last" : Str), ("_law_box" : Str), ("_law_take" : Str), ("_law_word" : Str), ("_law_said" : Str)]
abbrev R : PySem.W.OpenRow := PySem.W.OpenLaw.row PySem.Challenge.rw_tenturns_k10_classes_of_refusals
abbrev hk : PySem.W.Hook := PL.hkY 4 fa dl tf (exB gt tf)
def ob (s : PySem.W.SharedT) : He.AlX := PL.obsY 4 fa dl tf (exB gt tf) (HandSHeadRun.getT s)
theorem ob_eq (s : PySem.W.SharedT) : ob s = hk.obs s.abs := PL.obsY_eq 4 fa dl tf (exB gt tf) (HandSHeadRun.getT_eq s)
theorem run (w : World) : HandSHeadRun.RunEq R (PySem.W.view R.prog [50]) hk ob 12000 names w := by
  intro os
  kernel_rfl
end K10
end

section
set_option Elab.async false
set_option linter.all false
set_option maxRecDepth 100000
/-! PLA: a small language (values are PyData, objects stand in a store), its evaluator. -/
namespace PL
open PySem
abbrev D := PyData
/-- the value of an object's number -/
def rf (i : Nat) : D := .dict [(.none, .int (.ofNat i))]
def asRef : D → Option Nat
  | .dict [(.none, .int (.ofNat i))] => some i
  | _ => none
@[simp] theorem asRef_rf (i : Nat) : asRef (rf i) = some i := rfl
theorem asRef_some {x : D} {i : Nat} (h : asRef x = some i) : x = rf i := by
  unfold asRef at h
  split at h
  · cases h; rfl
  · cases h
/-- the script: a list that is read alone -/
def scr (ds : List D) : D := .dict [(.none, .list ds)]
def asScr : D → Option (List D)
  | .dict [(.none, .list ds)] => some ds
  | _ => none
@[simp] theorem asScr_scr (ds : List D) : asScr (scr ds) = some ds := rfl
theorem asScr_some {x : D} {ds : List D} (h : asScr x = some ds) : x = scr ds := by
  unfold asScr at h
  split at h
  · cases h; rfl
  · cases h
/-- an exception's value: its class -/
def exD (c : Str) : D := .dict [(.none, .str c)]
/-- of a class with a place that it keeps -/
def exA (c : Str) (i : Int) : D := .dict [(.none, .tuple [.str c, .int i])]
def asEx : D → Option Str
  | .dict [(.none, .str c)] => some c
  | .dict [(.none, .tuple [.str c, .int _])] => some c
  | _ => none
def asAt : D → Option (Str × Int)
  | .dict [(.none, .tuple [.str c, .int i])] => some (c, i)
  | _ => none
@[simp] theorem asEx_exD (c : Str) : asEx (exD c) = some c := rfl
@[simp] theorem asEx_exA (c : Str) (i : Int) : asEx (exA c i) = some c := rfl
@[simp] theorem asAt_exA (c : Str) (i : Int) : asAt (exA c i) = some (c, i) := rfl
theorem asAt_some {x : D} {c : Str} {i : Int} (h : asAt x = some (c, i)) : x = exA c i := by
  unfold asAt at h
  split at h
  · cases h; rfl
  · cases h
theorem asEx_some {x : D} {c : Str} (h : asEx x = some c) : x = exD c ∨ ∃ i, x = exA c i := by
  unfold asEx at h
  split at h
  · cases h; exact .inl rfl
  · cases h; exact .inr ⟨_, rfl⟩
  · cases h
structure Xn where
  cls : Str
  at_ : Option Int := none
/-- the value of an exception in hand -/
def exV (x : Xn) : D := match x.at_ with
  | none => exD x.cls
  | some i => exA x.cls i
@[simp] theorem exV_none (c : Str) : exV ⟨c, none⟩ = exD c := rfl
@[simp] theorem exV_some (c : Str) (i : Int) : exV ⟨c, some i⟩ = exA c i := rfl
inductive O where
  | lst (xs : List D)
  | ins (c : Str) (fs : List (Str × D))
abbrev Sto := List O
inductive Out (α : Type) where
  | ok (a : α) (S : Sto)
  | exc (x : Xn) (S : Sto)
  | bad
def Out.bind {α β : Type} (r : Out α) (f : α → Sto → Out β) : Out β := match r with
  | .ok a S => f a S
  | .exc x S => .exc x S
  | .bad => .bad
@[simp] theorem Out.bind_ok {α β : Type} (a : α) (S : Sto) (f : α → Sto → Out β) : (Out.ok a S).bind f = f a S := rfl
@[simp] theorem Out.bind_exc {α β : Type} (x : Xn) (S : Sto) (f : α → Sto → Out β) : (Out.exc x S : Out α).bind f = .exc x S := rfl
@[simp] theorem Out.bind_bad {α β : Type} (f : α → Sto → Out β) : (Out.bad : Out α).bind f = .bad := rfl
def oret (o : Option D) (S : Sto) : Out D := match o with
  | some d => .ok d S
  | none => .bad
@[simp] theorem oret_some (d : D) (S : Sto) : oret (some d) S = .ok d S := rfl
@[simp] theorem oret_none (S : Sto) : oret none S = .bad := rfl

inductive Op where | add | sub | mul | fdiv | mod | pow
  deriving DecidableEq
inductive Cm where | eq | ne | lt | le | gt | in_ | nin
  deriving DecidableEq
inductive Ty where | int | bool | str | tuple | list | cls (c : Str) | exc (c : Str)
  deriving DecidableEq
/-- built-ins by name; r: the new list is an object of the store -/
inductive Bi where
  | len | repr | str | int | list (r : Bool) | tuple | sorted (r : Bool) | sortedSet (r : Bool) | lenSet | sum | sumT | min1 | min2 | max2 | abs | divmod | all | any
  deriving DecidableEq
/-- built-in methods -/
inductive Bm where
  | append | extend | remove | pop | popAt | count | index | join | split
  deriving DecidableEq
inductive Tg where
  | name (i : Nat)
  | tup (ts : List Tg)
mutual
inductive E where
  | var (i : Nat)
  | int (i : Int) | bl (b : Bool) | non | str (x : Str)
  | gint (x : Str)
  | gstr (x z : Str)
  | tup (es : List E)
  | lst (r : Bool) (es : List E)
  | dct (kvs : List (Int × Int))
  | op (o : Op) (a b : E)
  | cat (a b : E)
  | rep (a b : E)
  | neg (a : E)
  | cm (c : Cm) (a b : E)
  | ch (c d : Cm) (a b e : E)
  | isN (neg : Bool) (a : E)
  | isB (neg : Bool) (a b : E)
  | and (a b : E) | or (a b : E) | not (a : E)
  | ite (c a b : E)
  | ix (a b : E)
  | sl (a : E) (lo hi : Option E)
  | rev (a : E)
  | bi (f : Bi) (es : List E)
  | isi (a : E) (t : Ty)
  | call (f : Str) (es : List E)
  | new (c : Str) (es : List E)
  | meth (o : E) (c m : Str) (es : List E)
  | fld (o : E) (c f : Str)
  | bm (o : E) (m : Bm) (es : List E)
  | comp (r : Bool) (elt : E) (own : List Nat) (tg : Tg) (it : I) (cond : Option E)
  | xat (e : E)
  | rpi (e : E)
  | calA (f : Str) (es : List E)
  | mkx (c : Str) (e : E)
  | mkxA (c : Str) (e : E)
  | fmt (e : E)
  | fstr (es : List E)
  | frz (e : E)
  | said (e : E)
  | sset (r : Bool) (e : E)
  | tupR (e : E)
  | lset (e : E)
  | own (o : E) (c s : Str)
  | oeq (neg : Bool) (c : Str) (a b : E)
  | oin (c : Str) (a b : E)
  | onin (c : Str) (a b : E)
  | never
inductive I where
  | seq (e : E)
  | range (e : E)
  | range3 (a b c : E)
  | enum (e : E)
  | zip (a b : E)
end
inductive T where
  | name (i : Nat)
  | tup (ts : List T)
  | sub (o i : E)
  | fld (o : E) (c f : Str)
inductive St where
  | asg (t : T) (e : E)
  | expr (e : E)
  | ret (e : E)
  | retN
  | ite (c : E) (a b : List St)
  | for_ (t : Tg) (it : I) (body : List St)
  | while_ (c : E) (body : List St)
  | raise (c : Str) (es : List E)
  | raiseA (c : Str) (e : E)
  | tryN (body : List St)
  | pass
  | never

abbrev Env := List (Option D)
/-- the meaning of calls: a def's name (a method's: class.name), the arguments, the store -/
abbrev Calls := Str → List D → Sto → Out D

/-! ### data -/
def lim : Nat := 16777216
def objL (S : Sto) (i : Nat) : Option (List D) := match S[i]? with
  | some (.lst xs) => some xs
  | _ => none
theorem objL_some {S : Sto} {i : Nat} {xs : List D} (h : objL S i = some xs) : S[i]? = some (.lst xs) := by
  unfold objL at h
  split at h
  · rename_i e; cases h; exact e
  · cases h
theorem objL_of {S : Sto} {i : Nat} {xs : List D} (h : S[i]? = some (.lst xs)) : objL S i = some xs := by
  unfold objL; rw [h]
/-- lists: by value, by number -/
def lstD (S : Sto) (x : D) : Option (List D) := match x with
  | .list xs => some xs
  | y => (asRef y).bind (objL S)
/-- lists and tuples -/
def seqD (S : Sto) (x : D) : Option (List D) := match x with
  | .tuple xs => some xs
  | y => lstD S y
@[simp] theorem lstD_list (S : Sto) (xs : List D) : lstD S (.list xs) = some xs := rfl
@[simp] theorem lstD_rf (S : Sto) (i : Nat) : lstD S (rf i) = objL S i := rfl
@[simp] theorem lstD_tuple (S : Sto) (xs : List D) : lstD S (.tuple xs) = none := rfl
@[simp] theorem seqD_list (S : Sto) (xs : List D) : seqD S (.list xs) = some xs := rfl
@[simp] theorem seqD_tuple (S : Sto) (xs : List D) : seqD S (.tuple xs) = some xs := rfl
@[simp] theorem seqD_rf (S : Sto) (i : Nat) : seqD S (rf i) = objL S i := rfl
theorem lstD_some {S : Sto} {x : D} {xs : List D} (h : lstD S x = some xs) : x = .list xs ∨ ∃ i, x = rf i ∧ S[i]? = some (.lst xs) := by
  unfold lstD at h
  split at h
  · cases h; exact .inl rfl
  · cases e : asRef x with
    | none => rw [e] at h; cases h
    | some i => rw [e] at h; exact .inr ⟨i, asRef_some e, objL_some h⟩
theorem seqD_some {S : Sto} {x : D} {xs : List D} (h : seqD S x = some xs) : x = .tuple xs ∨ x = .list xs ∨ ∃ i, x = rf i ∧ S[i]? = some (.lst xs) := by
  unfold seqD at h
  split at h
  · cases h; exact .inl rfl
  · exact .inr (lstD_some h)
def bigD : Int := 18446744073709551616
def addD (S : Sto) (x y : D) : Option D := match x, y with
  | .int i, .int j => some (.int (i + j))
  | .str x, .str y => if x.length + y.length ≤ lim then some (.str (x ++ y)) else none
  | .tuple xs, .tuple ys => if xs.length + ys.length ≤ lim then some (.tuple (xs ++ ys)) else none
  | x, y => match lstD S x, lstD S y with
    | some xs, some ys => if xs.length + ys.length ≤ lim then some (.list (xs ++ ys)) else none
    | _, _ => none
def mulD (x y : D) : Option D := match x, y with
  | .int i, .int j => if -bigD < i ∧ i < bigD then some (.int (i * j)) else none
  | .tuple xs, .int k => if 0 ≤ k ∧ k ≤ 1000 ∧ xs.length ≤ 1000 then some (.tuple (List.replicate k.toNat xs).flatten) else none
  | _, _ => none
def int2 (f : Int → Int → Option D) (x y : D) : Option D := match x, y with
  | .int i, .int j => f i j
  | _, _ => none
def opD (S : Sto) (o : Op) (x y : D) : Option D := match o with
  | .add => addD S x y
  | .sub => int2 (fun i j => some (.int (i - j))) x y
  | .mul => mulD x y
  | .fdiv => int2 (fun i j => if 0 < j ∧ j < 1073741824 then some (.int (i / j)) else none) x y
  | .mod => int2 (fun i j => if 0 < j then some (.int (i % j)) else none) x y
  | .pow => int2 (fun i j => if 0 ≤ j ∧ j ≤ 1000 ∧ -bigD < i ∧ i < bigD then some (.int (i ^ j.toNat)) else none) x y
def depthMax : Nat := 40
def eqOk (d : D) : Bool := d.plain && decide (d.depth ≤ depthMax)
/-- a list object told as its list, for comparisons -/
def val (S : Sto) (d : D) : D := match lstD S d with
  | some xs => .list xs
  | none => d
def eqD (S : Sto) (x y : D) : Option Bool := if eqOk (val S x) && eqOk (val S y) then some (PyData.eqv (val S x) (val S y)) else none
mutual
/-- a < b; none where it is refused or not told -/
def ltD : D → D → Option Bool
  | .int i, .int j => some (decide (i < j))
  | .str x, .str y => some (decide (x.cps.toList < y.cps.toList))
  | .tuple xs, .tuple ys => ltDs xs ys
  | _, _ => none
def ltDs : List D → List D → Option Bool
  | [], [] => some false
  | [], _ :: _ => some true
  | _ :: _, [] => some false
  | x :: xs, y :: ys => if eqOk x && eqOk y then (if PyData.eqv x y then ltDs xs ys else ltD x y) else none
end
def inSq (S : Sto) (x y : D) : Option Bool := match seqD S y with
  | some ys => if eqOk x && ys.all eqOk then some (ys.any fun z => PyData.eqv z x) else none
  | none => none
def inD (S : Sto) (x y : D) : Option Bool := match y with
  | .str z => (match x with
    | .str a => (match a.cps.toList with
      | [c] => some (decide (c ∈ z.cps.toList))
      | _ => none)
    | _ => none)
  | y => inSq S x y
def cmI (f : Int → Int → Bool) (x y : D) : Option Bool := match x, y with
  | .int i, .int j => some (f i j)
  | _, _ => none
def cmD (S : Sto) (c : Cm) (x y : D) : Option Bool := match c with
  | .eq => eqD S x y
  | .ne => (eqD S x y).map (!·)
  | .lt => if eqOk x && eqOk y then ltD x y else none
  | .le => cmI (fun i j => decide (i ≤ j)) x y
  | .gt => cmI (fun i j => decide (j < i)) x y
  | .in_ => inD S x y
  | .nin => (inD S x y).map (!·)
def ixS (S : Sto) (x : D) (i : Int) : Option D := match x with
  | .str z => if z.length ≤ lim then (L2.atI z.cps.toList i).map fun c => .str ⟨#[c]⟩ else none
  | x => match asScr x with
    | some xs => L2.atI xs i
    | none => (seqD S x).bind fun xs => L2.atI xs i
def ixD (S : Sto) (x y : D) : Option D := match y with
  | .int i => ixS S x i
  | _ => none
def cutD (xs : List D) (lo hi : Option Int) : List D := (xs.drop (HT.sIx xs.length 0 lo)).take (HT.sIx xs.length xs.length hi - HT.sIx xs.length 0 lo)
def slD (S : Sto) (x : D) (lo hi : Option Int) : Option D := match x with
  | .tuple xs => some (.tuple (cutD xs lo hi))
  | .str c => if c.length ≤ lim then some (.str (L2.cutS c lo hi)) else none
  | y => (lstD S y).map fun xs => .list (cutD xs lo hi)
def revD (S : Sto) (x : D) : Option D := match x with
  | .tuple xs => some (.tuple xs.reverse)
  | y => (lstD S y).map fun xs => .list xs.reverse
mutual
/-- the numbers of objects in d are below n -/
def refB (n : Nat) : D → Bool
  | .list xs | .tuple xs => refBs n xs
  | .dict [(.none, .int (.ofNat i))] => decide (i < n)
  | .dict [(.none, .list xs)] => refBs n xs
  | _ => true
def refBs (n : Nat) : List D → Bool
  | [] => true
  | x :: r => refB n x && refBs n r
end
/-- real dicts are shown, numbers of objects are not -/
def isRf : D → Bool
  | .dict [(.none, _)] => true
  | _ => false
mutual
def noRf : D → Bool
  | .list xs | .tuple xs => noRfs xs
  | .dict kvs => !isRf (.dict kvs)
  | _ => true
def noRfs : List D → Bool
  | [] => true
  | x :: r => noRf x && noRfs r
end
def isI : D → Bool
  | .int _ => true
  | _ => false
mutual
/-- plain, dicts of whole numbers too -/
def shp : D → Bool
  | .none | .bool _ | .int _ | .str _ => true
  | .list xs | .tuple xs => shps xs
  | .dict kvs => kvs.all fun p => isI p.1 && isI p.2
def shps : List D → Bool
  | [] => true
  | x :: r => shp x && shps r
end
def showOk (d : D) : Bool := shp d && d.showable && decide (d.depth ≤ depthMax) && decide (d.shown.length ≤ lim)
def reprD (S : Sto) (x : D) : Option D := if showOk (val S x) then some (.str (val S x).shown) else none
def intsOf : List D → Option (List Int)
  | [] => some []
  | .int i :: r => (intsOf r).map (i :: ·)
  | _ => none
def strsOf : List D → Option (List Str)
  | [] => some []
  | .str i :: r => (strsOf r).map (i :: ·)
  | _ => none
def boolsOf : List D → Option (List Bool)
  | [] => some []
  | .bool i :: r => (boolsOf r).map (i :: ·)
  | _ => none
def tupsOf : List D → Option (List (List D))
  | [] => some []
  | .tuple i :: r => (tupsOf r).map (i :: ·)
  | _ => none
/-- each pair is told -/
def cmpOk (xs : List D) : Bool := xs.all fun x => xs.all fun y => eqOk x && (ltD x y).isSome
def leD (x y : D) : Bool := !((ltD y x).getD true)
def sortD (xs : List D) : List D := xs.mergeSort leD
mutual
/-- what a set may hold: ints, texts, tuples of these -/
def hashOk : D → Bool
  | .int _ => true
  | .str _ => true
  | .tuple xs => hashOks xs
  | _ => false
def hashOks : List D → Bool
  | [] => true
  | x :: r => hashOk x && hashOks r
end
def dedD : List D → List D
  | [] => []
  | x :: r => x :: (dedD r).filter fun y => !PyData.eqv y x
def allocL (r : Bool) (xs : List D) (S : Sto) : Out D := if xs.length ≤ lim then (if r then .ok (rf S.length) (S ++ [.lst xs]) else .ok (.list xs) S) else .bad
def intD (x : Str) : Option Int := if x.length ≤ 640 then intText? x else none
def lenD (S : Sto) (x : D) : Option D := match x with
  | .str x => if x.length ≤ lim then some (.int x.length) else none
  | x => match asScr x with
    | some xs => some (.int xs.length)
    | none => (seqD S x).map fun xs => .int xs.length
def strD (x : D) : Option D := match x with
  | .int i => if i.natAbs.log2 < 1920 then some (.str (toString i)) else none
  | .str x => some (.str x)
  | _ => none
def intsD (x : D) : Option D := match x with
  | .bool b => some (.int (if b then 1 else 0))
  | .int i => some (.int i)
  | .str x => (intD x).map .int
  | _ => none
def tupD (S : Sto) (x : D) : Option D := match x with
  | .tuple xs => some (.tuple xs)
  | y => (lstD S y).map .tuple
/-- repr of a whole number -/
def rpiD (x : D) : Option D := match x with
  | .int i => if i.natAbs.log2 < 1920 then some (.str (toString i)) else none
  | _ => none
/-- {x} of a text or a whole number -/
def fmtD (x : D) : Option D := match x with
  | .int i => if i.natAbs.log2 < 1920 then some (.str (toString i)) else none
  | .str x => if x.length ≤ lim then some (.str x) else none
  | _ => none
/-- texts and shown numbers, one behind the other -/
def textsD : List D → Option Str
  | [] => some Str.empty
  | d :: r => match strD d, textsD r with
    | some (.str x), some y => if x.length + y.length ≤ lim then some (x ++ y) else none
    | _, _ => none
def oallo (r : Bool) (o : Option (List D)) (S : Sto) : Out D := match o with
  | some xs => allocL r xs S
  | none => .bad
@[simp] theorem oallo_some (r : Bool) (xs : List D) (S : Sto) : oallo r (some xs) S = allocL r xs S := rfl
@[simp] theorem oallo_none (r : Bool) (S : Sto) : oallo r none S = .bad := rfl
def isort (ns : List Int) : List Int := ns.mergeSort fun a b => decide (a ≤ b)
/-- a tuple whose first is a whole number -/
def tupI : D → Bool
  | .tuple (.int _ :: _) => true
  | _ => false
/-- any two are told apart, and in some order -/
def sortOk (xs : List D) : Prop := (∀ x ∈ xs, tupI x = true ∧ eqOk x = true) ∧ ∃ rk : D → Nat, (∀ x ∈ xs, ∀ y ∈ xs, ltD x y = some (decide (rk x < rk y))) ∧ ∀ x ∈ xs, ∀ y ∈ xs, rk x = rk y → x = y
noncomputable def sortedT (xs : List D) : Option (List D) := open Classical in if sortOk xs then some (sortD xs) else none
noncomputable def sortedD (S : Sto) (x : D) : Option (List D) := (seqD S x).bind fun xs => match intsOf xs with
  | some ns => some ((isort ns).map .int)
  | none => sortedT xs
/-- tuples in a tuple or in a list, each once, in order -/
noncomputable def sortedSetT (x : D) : Option (List D) := open Classical in match x with
  | .tuple xs | .list xs => if sortOk xs ∧ xs.all hashOk = true ∧ xs.length < 63 ∧ (∀ d ∈ xs, d.depth ≤ 8) then some (sortD (dedD xs)) else none
  | _ => none
noncomputable def sortedSetD (S : Sto) (x : D) : Option (List D) := match (seqD S x).bind intsOf with
  | some ns => if ns.length < 64 then some ((isort ns.eraseDups).map .int) else none
  | none => sortedSetT x
/-- what a class's own __len__, __repr__ may give -/
def ownR (s : Str) : D → Bool
  | .int n => decide (s = "__len__") && (decide (0 ≤ n) && decide (n < 2 ^ 63))
  | .str _ => decide (s = "__repr__" ∨ s = "__str__")
  | _ => false
def lenSetD (S : Sto) (x : D) : Option D := ((seqD S x).bind intsOf).bind fun ns => if ns.length < 4000 then some (.int ns.eraseDups.length) else none
def sumD (S : Sto) (x : D) : Option D := ((lstD S x).bind intsOf).map fun ns => .int ns.sum
def sumTD (S : Sto) (x y : D) : Option D := match y with
  | .tuple [] => ((seqD S x).bind tupsOf).bind fun ts => if ts.flatten.length ≤ lim then some (.tuple ts.flatten) else none
  | _ => none
def pairsOf : List D → Option (List (Int × Int))
  | [] => some []
  | .tuple [.int i, .int j] :: r => (pairsOf r).map ((i, j) :: ·)
  | _ => none
def pairD (p : Int × Int) : D := .tuple [.int p.1, .int p.2]
def ltPr (p q : Int × Int) : Bool := if p.1 = q.1 then decide (p.2 < q.2) else decide (p.1 < q.1)
def minP (p : Int × Int) (ps : List (Int × Int)) : Int × Int := ps.foldl (fun a y => if ltPr y a = true then y else a) p
def minD (S : Sto) (x : D) : Option D := ((lstD S x).bind pairsOf).bind fun ns => match ns with
  | [] => none
  | n :: ns => some (pairD (minP n ns))
def absD (x : D) : Option D := match x with
  | .int i => some (.int (if i < 0 then -i else i))
  | _ => none
def allD (S : Sto) (x : D) : Option D := ((lstD S x).bind boolsOf).map fun bs => .bool (bs.all id)
def anyD (S : Sto) (x : D) : Option D := ((lstD S x).bind boolsOf).map fun bs => .bool (bs.any id)
def bi1 (f : D → Option D) (ws : List D) : Option D := match ws with
  | [x] => f x
  | _ => none
def bi2 (f : D → D → Option D) (ws : List D) : Option D := match ws with
  | [x, y] => f x y
  | _ => none
def biL (f : D → Option (List D)) (ws : List D) : Option (List D) := match ws with
  | [x] => f x
  | _ => none
noncomputable def biD (f : Bi) (ws : List D) (S : Sto) : Out D := match f with
  | .len => oret (bi1 (lenD S) ws) S
  | .repr => oret (bi1 (reprD S) ws) S
  | .str => oret (bi1 strD ws) S
  | .int => oret (bi1 intsD ws) S
  | .list r => oallo r (biL (seqD S) ws) S
  | .tuple => oret (bi1 (tupD S) ws) S
  | .sorted r => oallo r (biL (sortedD S) ws) S
  | .sortedSet r => oallo r (biL (sortedSetD S) ws) S
  | .lenSet => oret (bi1 (lenSetD S) ws) S
  | .sum => oret (bi1 (sumD S) ws) S
  | .sumT => oret (bi2 (sumTD S) ws) S
  | .min1 => oret (bi1 (minD S) ws) S
  | .min2 => oret (bi2 (int2 fun i j => some (.int (if j < i then j else i))) ws) S
  | .max2 => oret (bi2 (int2 fun i j => some (.int (if j > i then j else i))) ws) S
  | .abs => oret (bi1 absD ws) S
  | .divmod => oret (bi2 (int2 fun i j => if 0 < j ∧ j < 1073741824 then some (.tuple [.int (i / j), .int (i % j)]) else none) ws) S
  | .all => oret (bi1 (allD S) ws) S
  | .any => oret (bi1 (anyD S) ws) S
/-- the built-in type of a value, and what is asked -/
def isi0 (S : Sto) (x : D) (t : Ty) : Option Bool := match x with
  | .none => some false
  | .bool _ => some (decide (t = .bool ∨ t = .int))
  | .int _ => some (decide (t = .int))
  | .str _ => some (decide (t = .str))
  | .tuple _ => some (decide (t = .tuple))
  | .list _ => some (decide (t = .list))
  | .dict kvs => if isRf (.dict kvs) then (lstD S (.dict kvs)).map fun _ => decide (t = .list) else some false
def putF (f : Str) (d : D) : List (Str × D) → List (Str × D)
  | [] => [(f, d)]
  | (g, e) :: r => if g = f then (g, d) :: r else (g, e) :: putF f d r
def updL (S : Sto) (x : D) (f : List D → Option (D × List D)) : Out D := match asRef x with
  | some i => (match (objL S i).bind f with
    | some (d, ys) => .ok d (S.set i (.lst ys))
    | none => .bad)
  | none => .bad
def eqvR (w : D) : D → Bool := fun z => PyData.eqv z w
def findOk (w : D) (xs : List D) : Bool := eqOk w && xs.all eqOk
def bmD (m : Bm) (x : D) (ws : List D) (S : Sto) : Out D := match m with
  | .append => (match ws with
    | [w] => updL S x fun xs => if xs.length < lim then some (.none, xs ++ [w]) else none
    | _ => .bad)
  | .extend => (match ws with
    | [w] => (match seqD S w with
      | some ys => updL S x fun xs => if xs.length + ys.length ≤ lim then some (.none, xs ++ ys) else none
      | none => .bad)
    | _ => .bad)
  | .remove => (match ws with
    | [w] => updL S x fun xs => if findOk w xs && xs.any (eqvR w) then some (.none, xs.eraseP (eqvR w)) else none
    | _ => .bad)
  | .pop => (match ws with
    | [] => updL S x fun xs => xs.getLast?.map fun y => (y, xs.dropLast)
    | _ => .bad)
  | .popAt => (match ws with
    | [.int k] => updL S x fun xs => if 0 ≤ k ∧ k < 1000000 then xs[k.toNat]?.map fun y => (y, xs.eraseIdx k.toNat) else none
    | _ => .bad)
  | .count => oret (bi1 (fun w => (seqD S x).bind fun xs => if findOk w xs then some (.int (xs.countP (eqvR w))) else none) ws) S
  | .index => oret (bi1 (fun w => (seqD S x).bind fun xs => if findOk w xs && xs.any (eqvR w) then some (.int (xs.findIdx (eqvR w))) else none) ws) S
  | .join => (match x with
    | .str z => oret (bi1 (fun w => ((seqD S w).bind strsOf).bind fun ys => if (ys.map (·.length)).sum + ys.length * z.length ≤ lim then some (.str (Txt.join z ys)) else none) ws) S
    | _ => .bad)
  | .split => (match x, ws with
    | .str z, [.str b] => if b.length ≠ 0 ∧ z.length + 2 ≤ lim then .ok (.list ((Txt.split z b).map .str)) S else .bad
    | _, _ => .bad)
/-- the type of a method's receiver -/
inductive Kd where | list | tuple | str
  deriving DecidableEq
def kdX : D → Kd
  | .tuple _ => .tuple
  | .str _ => .str
  | _ => .list
def kdD (S : Sto) (m : Bm) (x : D) : Bool := match kdX x with
  | .tuple => decide (m = .count ∨ m = .index)
  | .str => decide (m = .join ∨ m = .split)
  | .list => decide (m ≠ .join ∧ m ≠ .split) && (lstD S x).isSome
def frzD (x : D) (S : Sto) : Out D := match (asRef x).bind (objL S) with
  | some xs => .ok (.list xs) S
  | none => .bad
def insD (S : Sto) (i : Nat) : Option (Str × List (Str × D)) := match S[i]? with
  | some (.ins c fs) => some (c, fs)
  | _ => none
theorem insD_some {S : Sto} {i : Nat} {c : Str} {fs : List (Str × D)} (h : insD S i = some (c, fs)) : S[i]? = some (.ins c fs) := by
  unfold insD at h
  split at h
  · rename_i e; cases h; exact e
  · cases h
def isiD (S : Sto) (x : D) (t : Ty) : Option Bool := match t with
  | .cls c => (match (asRef x).bind (insD S) with
    | some p => if p.1 = c then some true else none
    | none => (isi0 S x .str).map fun _ => false)
  | .exc c => (asEx x).map fun d => xsub d c
  | t => isi0 S x t
def fldD (S : Sto) (x : D) (c f : Str) : Option D := ((asRef x).bind (insD S)).bind fun p => if p.1 = c then p.2.lookup f else none
def wipe (ρ : Env) : List Nat → Env
  | [] => ρ
  | v :: vs => (wipe ρ vs).set v none
mutual
def putT : Tg → D → Env → Option Env
  | .name i, d, ρ => if i < ρ.length then some (ρ.set i (some d)) else none
  | .tup ts, .tuple ds, ρ => putTs ts ds ρ
  | .tup _, _, _ => none
def putTs : List Tg → List D → Env → Option Env
  | [], [], ρ => some ρ
  | t :: ts, d :: ds, ρ => match putT t d ρ with
    | some ρ' => putTs ts ds ρ'
    | none => none
  | _, _, _ => none
end
def enumL : Nat → List D → List D
  | _, [] => []
  | n, d :: ds => .tuple [.int n, d] :: enumL (n + 1) ds
def zipL : List D → List D → List D
  | x :: xs, y :: ys => .tuple [x, y] :: zipL xs ys
  | _, _ => []
def rangeL (i : Int) : List D := (List.range i.toNat).map fun k => .int (k : Nat)
def chrs (x : Str) : List D := x.cps.toList.map fun c => .str ⟨#[c]⟩
/-- what is walked: the items, and the objects that must stand as they did -/
structure Wk where
  items : List D
  held : List (Nat × List D)
  pr : Bool
def isNm : Tg → Bool
  | .name _ => true
  | .tup _ => false
def Wk.ok (w : Wk) (S : Sto) : Prop := ∀ p ∈ w.held, objL S p.1 = some p.2
noncomputable instance (w : Wk) (S : Sto) : Decidable (w.ok S) := Classical.propDecidable _
def heldD (x : D) (xs : List D) : List (Nat × List D) := match asRef x with
  | some i => [(i, xs)]
  | none => []
def itemsD (S : Sto) (x : D) : Option Wk := match x with
  | .str z => some ⟨chrs z, [], false⟩
  | y => (seqD S y).map fun xs => ⟨xs, heldD y xs, false⟩

/-- the turns of a comprehension over items -/
noncomputable def compL (ok : Sto → Prop) (put : D → Option Env) (cond : Env → Sto → Out D) (elt : Env → Sto → Out D) : List D → List D → Sto → Out (List D)
  | [], acc, S => open Classical in if ok S then .ok acc S else .bad
  | d :: ds, acc, S => open Classical in if ok S then (match put d with
    | none => .bad
    | some ρ => match cond ρ S with
      | .ok (.bool true) S1 => (match elt ρ S1 with
        | .ok w S2 => if acc.length < lim then compL ok put cond elt ds (acc ++ [w]) S2 else .bad
        | _ => .bad)
      | .ok (.bool false) S1 => compL ok put cond elt ds acc S1
      | _ => .bad) else .bad
/-- a list times an int, as an object -/
def repO (S : Sto) (x y : D) : Out D := match lstD S x, y with
  | some xs, .int k => if 0 ≤ k ∧ k ≤ 1000 ∧ xs.length ≤ 1000 then allocL true (List.replicate k.toNat xs).flatten S else .bad
  | _, _ => .bad
def catO (S : Sto) (x y : D) : Out D := match lstD S x, lstD S y with
  | some xs, some ys => allocL true (xs ++ ys) S
  | _, _ => .bad
/-- range(i, j, c) -/
def range3L (i j c : Int) : List D := (List.range (Builtin.Range.rangeSize i j c).toNat).map fun k : Nat => .int (i + k * c)
/-- an own object, and what it is compared with -/
def ownEq (G : Calls) (neg : Bool) (c : Str) (x y : D) (S : Sto) : Out D := match (asRef x).bind (insD S) with
  | some (c', _) => if c' = c ∧ (isiD S y (.cls c)).isSome = true then (G (c ++ "." ++ "__eq__") [x, y] S).bind fun r S1 => (match r with
    | .bool q => .ok (.bool (neg != q)) S1
    | _ => .bad) else .bad
  | none => .bad
/-- x not in [None, y] -/
def ninEq (G : Calls) (c : Str) (x y : D) (S : Sto) : Out D := match (asRef x).bind (insD S) with
  | some (c', _) => if c' = c ∧ (asRef y).isSome = true then (G (c ++ "." ++ "__eq__") [x, .none] S).bind fun r S1 => (match r with
    | .bool false => if isiD S1 x (.cls c) = some true then ownEq G true c y x S1 else .bad
    | _ => .bad) else .bad
  | none => .bad
/-! ### expressions -/
section
variable (G : Calls) (gi : Str → Option Int)
mutual
noncomputable def ev : E → Env → Sto → Out D
  | .var i, ρ, S => (match ρ[i]? with
    | some (some d) => .ok d S
    | _ => .bad)
  | .int i, _, S => .ok (.int i) S
  | .bl b, _, S => .ok (.bool b) S
  | .non, _, S => .ok .none S
  | .str x, _, S => .ok (.str x) S
  | .gstr _ z, _, S => .ok (.str z) S
  | .gint x, _, S => (match gi x with
    | some i => .ok (.int i) S
    | none => .bad)
  | .tup es, ρ, S => (evs es ρ S).bind fun ws S => if ws.length ≤ lim then .ok (.tuple ws) S else .bad
  | .lst r es, ρ, S => (evs es ρ S).bind fun ws S => allocL r ws S
  | .dct kvs, _, S => .ok (.dict (kvs.map fun p => (.int p.1, .int p.2))) S
  | .op o a b, ρ, S => (ev a ρ S).bind fun x S => (ev b ρ S).bind fun y S => oret (opD S o x y) S
  | .cat a b, ρ, S => (ev a ρ S).bind fun x S => (ev b ρ S).bind fun y S => catO S x y
  | .rep a b, ρ, S => (ev a ρ S).bind fun x S => (ev b ρ S).bind fun y S => repO S x y
  | .neg a, ρ, S => (ev a ρ S).bind fun x S => (match x with
    | .int i => .ok (.int (-i)) S
    | _ => .bad)
  | .cm c a b, ρ, S => (ev a ρ S).bind fun x S => (ev b ρ S).bind fun y S => oret ((cmD S c x y).map .bool) S
  | .ch c d a b e, ρ, S => (ev a ρ S).bind fun x S => (ev b ρ S).bind fun y S => (match cmD S c x y with
    | some true => (ev e ρ S).bind fun z S => oret ((cmD S d y z).map .bool) S
    | some false => .ok (.bool false) S
    | none => .bad)
  | .isN neg a, ρ, S => (ev a ρ S).bind fun x S => (match x with
    | .none => .ok (.bool (!neg)) S
    | _ => .ok (.bool neg) S)
  | .isB neg a b, ρ, S => (ev a ρ S).bind fun x S => (ev b ρ S).bind fun y S => (match x, y with
    | .bool p, .bool q => .ok (.bool (neg != (p == q))) S
    | _, _ => .bad)
  | .and a b, ρ, S => (ev a ρ S).bind fun x S => (match x with
    | .bool true => ev b ρ S
    | .bool false => .ok (.bool false) S
    | _ => .bad)
  | .or a b, ρ, S => (ev a ρ S).bind fun x S => (match x with
    | .bool true => .ok (.bool true) S
    | .bool false => ev b ρ S
    | _ => .bad)
  | .not a, ρ, S => (ev a ρ S).bind fun x S => (match x with
    | .bool b => .ok (.bool (!b)) S
    | _ => .bad)
  | .ite c a b, ρ, S => (ev c ρ S).bind fun x S => (match x with
    | .bool true => ev a ρ S
    | .bool false => ev b ρ S
    | _ => .bad)
  | .ix a b, ρ, S => (ev a ρ S).bind fun x S => (ev b ρ S).bind fun y S => oret (ixD S x y) S
  | .sl a lo hi, ρ, S => (ev a ρ S).bind fun x S => (evo lo ρ S).bind fun l S => (evo hi ρ S).bind fun h S => oret (slD S x l h) S
  | .rev a, ρ, S => (ev a ρ S).bind fun x S => oret (revD S x) S
  | .bi f es, ρ, S => (evs es ρ S).bind fun ws S => biD f ws S
  | .isi a t, ρ, S => (ev a ρ S).bind fun x S => oret ((isiD S x t).map .bool) S
  | .call f es, ρ, S => (evs es ρ S).bind fun ws S => G f ws S
  | .new c es, ρ, S => (evs es ρ S).bind fun ws S => (G (c ++ ".__init__") (rf S.length :: ws) (S ++ [.ins c []])).bind fun r S1 => (match r with
    | .none => .ok (rf S.length) S1
    | _ => .bad)
  | .meth o c m es, ρ, S => (ev o ρ S).bind fun x S => (match (asRef x).bind (insD S) with
    | some (c', fs) => if c' = c ∧ fs.lookup m = none then (evs es ρ S).bind fun ws S => G (c ++ "." ++ m) (x :: ws) S else .bad
    | none => .bad)
  | .fld o c f, ρ, S => (ev o ρ S).bind fun x S => oret (fldD S x c f) S
  | .bm o m es, ρ, S => (ev o ρ S).bind fun x S => if kdD S m x = true then (evs es ρ S).bind fun ws S => bmD m x ws S else .bad
  | .comp r elt own tg it cond, ρ, S => (evi it ρ S).bind fun w S => if (w.pr && isNm tg) = true then .bad else
      (compL w.ok (fun d => putT tg d (wipe ρ own)) (fun ρ S => evc cond ρ S) (fun ρ S => ev elt ρ S) w.items [] S).bind fun ws S1 => allocL r ws S1
  | .xat e, ρ, S => (ev e ρ S).bind fun x S => oret ((asAt x).map fun p => .int p.2) S
  | .rpi e, ρ, S => (ev e ρ S).bind fun x S => oret (rpiD x) S
  | .calA f es, ρ, S => (evs es ρ S).bind fun ws S => if refBs 0 ws = true then (match G f ws [] with
    | .ok d _ => if refB 0 d = true then .ok d S else .bad
    | _ => .bad) else .bad
  | .mkx c e, ρ, S => (ev e ρ S).bind fun _ S => .ok (exD c) S
  | .mkxA c e, ρ, S => (ev e ρ S).bind fun x S => (match x with
    | .int i => .ok (exA c i) S
    | _ => .bad)
  | .fmt e, ρ, S => (ev e ρ S).bind fun x S => oret (fmtD x) S
  | .fstr es, ρ, S => evf es Str.empty ρ S
  | .frz e, ρ, S => (ev e ρ S).bind fun x S => frzD x S
  | .said e, ρ, S => (match ev e ρ S with
    | .ok x S1 => oret (reprD S1 x) S1
    | .exc x S1 => (match G "_law_word" [exV x] [] with
      | .ok (.str w) _ => .ok (.str w) S1
      | _ => .bad)
    | .bad => .bad)
  | .sset r e, ρ, S => (ev e ρ S).bind fun x S => oallo r (sortedSetD S x) S
  | .lset e, ρ, S => (ev e ρ S).bind fun x S => oret (lenSetD S x) S
  | .own o c s, ρ, S => (ev o ρ S).bind fun x S => (match (asRef x).bind (insD S) with
    | some (c', _) => if c' = c then (G (c ++ "." ++ s) [x] S).bind fun r S1 => (if ownR s r = true then .ok r S1 else .bad) else .bad
    | none => .bad)
  | .oeq neg c a b, ρ, S => (ev a ρ S).bind fun x S => (ev b ρ S).bind fun y S => ownEq G neg c x y S
  | .onin c a b, ρ, S => (ev a ρ S).bind fun x S => (ev b ρ S).bind fun y S => if asRef x ≠ asRef y then ninEq G c x y S else .bad
  | .oin c a b, ρ, S => (ev a ρ S).bind fun x S => (ev b ρ S).bind fun y S => if asRef x ≠ asRef y then ownEq G false c y x S else .bad
  | .tupR e, ρ, S => (ev e ρ S).bind fun x S => (match x with
    | .int i => if 0 ≤ i ∧ i ≤ 16777216 then .ok (.tuple (rangeL i)) S else .bad
    | _ => .bad)
  | .never, _, _ => .bad
noncomputable def evs : List E → Env → Sto → Out (List D)
  | [], _, S => .ok [] S
  | e :: es, ρ, S => (ev e ρ S).bind fun w S => (evs es ρ S).bind fun ws S => .ok (w :: ws) S
noncomputable def evf : List E → Str → Env → Sto → Out D
  | [], acc, _, S => .ok (.str acc) S
  | e :: es, acc, ρ, S => (ev e ρ S).bind fun w S => (match w with
    | .str y => if (acc ++ y).length ≤ lim then evf es (acc ++ y) ρ S else .bad
    | _ => .bad)
noncomputable def evo : Option E → Env → Sto → Out (Option Int)
  | none, _, S => .ok none S
  | some e, ρ, S => (ev e ρ S).bind fun x S => (match x with
    | .int i => .ok (some i) S
    | _ => .bad)
noncomputable def evc : Option E → Env → Sto → Out D
  | none, _, S => .ok (.bool true) S
  | some e, ρ, S => ev e ρ S
noncomputable def evi : I → Env → Sto → Out Wk
  | .seq e, ρ, S => (ev e ρ S).bind fun x S => (match itemsD S x with
    | some w => .ok w S
    | none => .bad)
  | .range e, ρ, S => (ev e ρ S).bind fun x S => (match x with
    | .int i => if -bigD / 4 ≤ i ∧ i < bigD / 4 then .ok ⟨rangeL i, [], false⟩ S else .bad
    | _ => .bad)
  | .range3 a b c, ρ, S => (ev a ρ S).bind fun x S => (ev b ρ S).bind fun y S => (ev c ρ S).bind fun z S => (match x, y, z with
    | .int i, .int j, .int k => if k ≠ 0 ∧ k.natAbs < 1073741824 ∧ Builtin.Range.small i j k = true ∧ 0 ≤ Builtin.Range.rangeSize i j k then .ok ⟨range3L i j k, [], false⟩ S else .bad
    | _, _, _ => .bad)
  | .enum e, ρ, S => (ev e ρ S).bind fun x S => (match seqD S x with
    | some ds => .ok ⟨enumL 0 ds, heldD x ds, true⟩ S
    | none => .bad)
  | .zip a b, ρ, S => (ev a ρ S).bind fun x S => (ev b ρ S).bind fun y S => (match seqD S x, seqD S y with
    | some xs, some ys => if kdX x = kdX y ∨ kdX x = .tuple then .ok ⟨zipL xs ys, heldD x xs ++ heldD y ys, true⟩ S else .bad
    | _, _ => .bad)
end
/-! ### statements -/
inductive SOut where
  | next (ρ : Env) (S : Sto)
  | ret (d : D) (S : Sto)
  | exc (x : Xn) (S : Sto)
  | bad
def SOut.seq (r : SOut) (f : Env → Sto → SOut) : SOut := match r with
  | .next ρ S => f ρ S
  | r => r
@[simp] theorem SOut.seq_next (ρ : Env) (S : Sto) (f : Env → Sto → SOut) : (SOut.next ρ S).seq f = f ρ S := rfl
@[simp] theorem SOut.seq_ret (d : D) (S : Sto) (f : Env → Sto → SOut) : (SOut.ret d S).seq f = .ret d S := rfl
@[simp] theorem SOut.seq_exc (x : Xn) (S : Sto) (f : Env → Sto → SOut) : (SOut.exc x S).seq f = .exc x S := rfl
@[simp] theorem SOut.seq_bad (f : Env → Sto → SOut) : SOut.bad.seq f = .bad := rfl
def Out.st {α : Type} (r : Out α) (f : α → Sto → SOut) : SOut := match r with
  | .ok a S => f a S
  | .exc x S => .exc x S
  | .bad => .bad
@[simp] theorem Out.st_ok {α : Type} (a : α) (S : Sto) (f : α → Sto → SOut) : (Out.ok a S).st f = f a S := rfl
@[simp] theorem Out.st_exc {α : Type} (x : Xn) (S : Sto) (f : α → Sto → SOut) : (Out.exc x S : Out α).st f = .exc x S := rfl
@[simp] theorem Out.st_bad {α : Type} (f : α → Sto → SOut) : (Out.bad : Out α).st f = .bad := rfl
def setD (S : Sto) (x y d : D) : Option Sto := match asRef x, y with
  | some i, .int k => (objL S i).bind fun xs => (L2.ixN xs.length k).map fun j => S.set i (.lst (xs.set j d))
  | _, _ => none
def setF (S : Sto) (x : D) (c f : Str) (d : D) : Option Sto := (asRef x).bind fun i => (insD S i).bind fun p => if p.1 = c ∧ p.2.length < 900 then some (S.set i (.ins p.1 (putF f d p.2))) else none
mutual
noncomputable def asg : T → D → Env → Sto → SOut
  | .name i, d, ρ, S => if i < ρ.length then .next (ρ.set i (some d)) S else .bad
  | .tup ts, .tuple ds, ρ, S => if ts.length = ds.length then asgs ts ds ρ S else .bad
  | .tup _, _, _, _ => .bad
  | .sub o i, d, ρ, S => (ev G gi o ρ S).st fun x S => (ev G gi i ρ S).st fun y S => (match setD S x y d with
    | some S => .next ρ S
    | none => .bad)
  | .fld o c f, d, ρ, S => (ev G gi o ρ S).st fun x S => (match setF S x c f d with
    | some S => .next ρ S
    | none => .bad)
noncomputable def asgs : List T → List D → Env → Sto → SOut
  | [], [], ρ, S => .next ρ S
  | t :: ts, d :: ds, ρ, S => (asg t d ρ S).seq fun ρ S => asgs ts ds ρ S
  | _, _, _, _ => .bad
end
/-- the turns of a for -/
noncomputable def forL (ok : Sto → Prop) (put : D → Env → Option Env) (body : Env → Sto → SOut) : List D → Env → Sto → SOut
  | [], ρ, S => open Classical in if ok S then .next ρ S else .bad
  | d :: ds, ρ, S => open Classical in if ok S then (match put d ρ with
    | none => .bad
    | some ρ => (body ρ S).seq fun ρ S => forL ok put body ds ρ S) else .bad
/-- a while, so many turns at most -/
def whileL (cond : Env → Sto → Out D) (body : Env → Sto → SOut) : Nat → Env → Sto → SOut
  | 0, _, _ => .bad
  | n + 1, ρ, S => (cond ρ S).st fun x S => match x with
    | .bool true => (body ρ S).seq fun ρ S => whileL cond body n ρ S
    | .bool false => .next ρ S
    | _ => .bad
def wfuel : Nat := 100000
mutual
noncomputable def ex : St → Env → Sto → SOut
  | .asg t e, ρ, S => (ev G gi e ρ S).st fun d S => asg G gi t d ρ S
  | .expr e, ρ, S => (ev G gi e ρ S).st fun _ S => .next ρ S
  | .ret e, ρ, S => (ev G gi e ρ S).st fun d S => .ret d S
  | .retN, _, S => .ret .none S
  | .ite c a b, ρ, S => (ev G gi c ρ S).st fun x S => (match x with
    | .bool true => exs a ρ S
    | .bool false => exs b ρ S
    | _ => .bad)
  | .for_ tg it body, ρ, S => (evi G gi it ρ S).st fun w S => if (w.pr && isNm tg) = true then .bad else forL w.ok (putT tg) (fun ρ S => exs body ρ S) w.items ρ S
  | .while_ c body, ρ, S => whileL (fun ρ S => ev G gi c ρ S) (fun ρ S => exs body ρ S) wfuel ρ S
  | .raise c es, ρ, S => (evs G gi es ρ S).st fun _ S => .exc ⟨c, none⟩ S
  | .raiseA c e, ρ, S => (ev G gi e ρ S).st fun x S => (match x with
    | .int i => .exc ⟨c, some i⟩ S
    | _ => .bad)
  | .tryN body, ρ, S => (match exs body ρ S with
    | .exc _ S => .ret .none S
    | r => r)
  | .pass, ρ, S => .next ρ S
  | .never, _, _ => .bad
noncomputable def exs : List St → Env → Sto → SOut
  | [], ρ, S => .next ρ S
  | s :: r, ρ, S => (ex s ρ S).seq fun ρ S => exs r ρ S
end
end
/-! ### defs -/
inductive Md where | keep | trunc | pure
  deriving DecidableEq
structure Fn where
  np : Nat
  nn : Nat
  md : Md := .pure
  sd : Bool := false
  body : List St
def refO (n : Nat) : O → Bool
  | .lst xs => refBs n xs
  | .ins _ fs => fs.all fun p => refB n p.2
noncomputable def fin (m : Md) (S : Sto) (d : D) (S' : Sto) : Out D := open Classical in match m with
  | .keep => .ok d S'
  | .trunc => if S.length ≤ S'.length ∧ refB S.length d = true ∧ (S'.take S.length).all (refO S.length) = true then .ok d (S'.take S.length) else .bad
  | .pure => if S'.take S.length = S ∧ refB S.length d = true then .ok d S else .bad
noncomputable def runF (G : Calls) (gi : Str → Option Int) (F : Fn) (ws : List D) (S : Sto) : Out D :=
  if ws.length = F.np then (match exs G gi F.body (ws.map some ++ List.replicate (F.nn - F.np) none) S with
    | .next _ S' => fin F.md S .none S'
    | .ret d S' => fin F.md S d S'
    | .exc x S' => .exc x S'
    | .bad => .bad) else .bad
noncomputable def callS (gi : Str → Option Int) (fns : Str → Option Fn) : Nat → Calls
  | 0, _, _, _ => .bad
  | n + 1, f, ws, S => match fns f with
    | some F => runF (callS gi fns n) gi F ws S
    | none => .bad
end PL
end

section
set_option Elab.async false
set_option linter.all false
set_option maxRecDepth 100000
/-! PLB: data against the layer's values and heap. -/
namespace PL
open PySem L2
/-- the addresses of the objects, by number; others that no value tells -/
structure Ma where
  n : List Addr
  f : List Addr
  k : (PySem.W.Frag × (Str → Option (Addr × Bool))) × Option (Addr × Str × Option Addr)
instance : Membership Addr Ma := ⟨fun M a => a ∈ M.n ∨ a ∈ M.f⟩
theorem Ma.mem_iff {M : Ma} {a : Addr} : a ∈ M ↔ a ∈ M.n ∨ a ∈ M.f := Iff.rfl
def Ma.push (M : Ma) (p : Addr) : Ma := ⟨M.n ++ [p], M.f, M.k⟩
def Ma.add (M : Ma) (p : Addr) : Ma := ⟨M.n, p :: M.f, M.k⟩
def Ma.cut (M : Ma) (k : Nat) : Ma := ⟨M.n.take k, M.f, M.k⟩
/-- a tuple whose object is known: no dict hangs on it -/
def TupF (H : Hp) (a : Addr) (vs : List V) : Prop := ∃ o, H a = some (.frz o (.tup vs)) ∧ o.dict = none
theorem TupF.sq {K : PySem.W.Frag} {H : Hp} {a : Addr} {vs : List V} (h : TupF H a vs) : SqT K H a vs := by
  obtain ⟨o, h, _⟩ := h
  exact .inl (.inr ⟨o, h⟩)
theorem exO_tbl {c : Value} {a : Addr} {ps : Array Value} : ExO c a ≠ .tbl ps := fun z => by
  have z' : HO.ext _ = HO.tbl ps := z
  cases z'
theorem exd_tbl {e : Addr} {fs : List (Str × V)} {ps : Array Value} : exd e fs ≠ .tbl ps := fun z => by
  have z' : HO.ext _ = HO.tbl ps := z
  cases z'
/-- the script's list: kept by itself, or one of the text's own -/
def ScrAt (M : Ma) (H : Hp) (a : Addr) (vs : List V) : Prop := (∃ o, H a = some (.frz o (.lst vs)) ∧ a ∉ M) ∨ ∀ H' : Hp, SqL M.k.1.1 H' a vs
theorem ScrAt.sq {M : Ma} {H : Hp} {a : Addr} {vs : List V} (h : ScrAt M H a vs) : SqL M.k.1.1 H a vs := by
  rcases h with ⟨o, h, _⟩ | h
  · exact .inl (.inr ⟨o, h⟩)
  · exact h H
mutual
inductive Rv (M : Ma) (H : Hp) : D → V → Prop
  | non : Rv M H .none .non
  | bl (b : Bool) : Rv M H (.bool b) (.bl b)
  | int (i : Int) : Rv M H (.int i) (.int i)
  | str (x : Str) : Rv M H (.str x) (.str x)
  | tup {a : Addr} {vs : List V} {ds : List D} : TupF H a vs → a ∉ M → Rvs M H ds vs → Rv M H (.tuple ds) (.ref a)
  | lst {a : Addr} {vs : List V} {ds : List D} : H a = some (.lst vs) → a ∉ M → Rvs M H ds vs → Rv M H (.list ds) (.ref a)
  | scr {a : Addr} {vs : List V} {ds : List D} : ScrAt M H a vs → Rvs M H ds vs → Rv M H (.dict [(.none, .list ds)]) (.ref a)
  | dct {a : Addr} {kvs : List (D × D)} {ks : List (Int × Int)} : kvs = ks.map (fun p => (.int p.1, .int p.2)) → H a = some (.dK (ks.map fun p => (.inl p.1, .int p.2))) → a ∉ M → Rv M H (.dict kvs) (.ref a)
  | ref {i : Nat} {a : Addr} : M.n[i]? = some a → Rv M H (.dict [(.none, .int (.ofNat i))]) (.ref a)
  | exn {a : Addr} {c : Str} : M.k.2 = some (a, c, none) → Rv M H (.dict [(.none, .str c)]) (.ref a)
  | exnA {a dd : Addr} {c : Str} {i : Int} : M.k.2 = some (a, c, some dd) → H dd = some (.xd [(("at" : Str), V.int i)]) → dd ∉ M → Rv M H (.dict [(.none, .tuple [.str c, .int i])]) (.ref a)
  | exnH {a C : Addr} {c : Str} {f : Bool} : M.k.1.2 c = some (C, f) → H a = some (ExO (.ref C) a) → a ∉ M → Rv M H (.dict [(.none, .str c)]) (.ref a)
  | exaH {a dx C : Addr} {c : Str} {i : Int} : M.k.1.2 c = some (C, true) → H a = some (exo a C (some dx)) → a ∉ M → H dx = some (exd dx [(("at" : Str), V.int i)]) → dx ∉ M → Rv M H (.dict [(.none, .tuple [.str c, .int i])]) (.ref a)
inductive Rvs (M : Ma) (H : Hp) : List D → List V → Prop
  | nil : Rvs M H [] []
  | cons {d : D} {ds : List D} {v : V} {vs : List V} : Rv M H d v → Rvs M H ds vs → Rvs M H (d :: ds) (v :: vs)
end
def Rfs (M : Ma) (H : Hp) : List (Str × D) → List (Str × V) → Prop := Paired fun p q => p.1 = q.1 ∧ Rv M H p.2 q.2
def Ro (CA : Str → Addr) (M : Ma) (H : Hp) (a : Addr) : O → Prop
  | .lst ds => ∃ vs, H a = some (.lst vs) ∧ Rvs M H ds vs
  | .ins c fs => ∃ dx vfs, H a = some (.ins (CA c) dx vfs) ∧ H dx = some (.own a) ∧ dx ∉ M ∧ Rfs M H fs vfs
structure Emb (T : List (Addr × Str)) (CA : Str → Addr) (KF : (PySem.W.Frag × (Str → Option (Addr × Bool))) × Option (Addr × Str × Option Addr)) (M : Ma) (H : Hp) (S : Sto) : Prop where
  kf : M.k = KF
  len : M.n.length = S.length
  nd : M.n.Nodup
  df : ∀ a, a ∈ M.f → (∃ o, H a = some o ∧ ∀ ps, o ≠ .tbl ps) ∧ a ∉ M.n
  ob : ∀ (i : Nat) (a : Addr) (o : O), M.n[i]? = some a → S[i]? = some o → Ro CA M H a o
  tb : LamX.Tabs T H
structure ExtW (M : Ma) (H : Hp) (M' : Ma) (H' : Hp) : Prop where
  pre : (∃ N, M'.n = M.n ++ N) ∧ M'.k = M.k
  sub : ∀ a, a ∈ M.f → a ∈ M'.f
  keep : ∀ a o, H a = some o → a ∉ M → (∀ ps, o ≠ .tbl ps) → H' a = some o
  new : ∀ a, a ∈ M' → a ∉ M → ∀ o, H a = some o → ∃ ps, o = .tbl ps
structure Ext (M : Ma) (H : Hp) (M' : Ma) (H' : Hp) : Prop extends ExtW M H M' H' where
  kf : ∀ a o, H a = some o → a ∈ M.f → (∀ ps, o ≠ .tbl ps) → H' a = some o
section
variable {T : List (Addr × Str)} {CA : Str → Addr} {KF : (PySem.W.Frag × (Str → Option (Addr × Bool))) × Option (Addr × Str × Option Addr)} {M M' M'' : Ma} {H H' H'' : Hp} {S S' : Sto} {a p : Addr} {o : HO} {d : D} {v : V} {ds : List D} {vs : List V}
theorem Ext.refl : Ext M H M H := ⟨⟨⟨⟨[], by simp⟩, rfl⟩, fun _ h => h, fun _ _ h _ _ => h, fun _ h n => absurd h n⟩, fun _ _ h _ _ => h⟩
theorem Ext.mem (e : Ext M H M' H') (h : a ∈ M) : a ∈ M' := by
  obtain ⟨N, hN⟩ := e.pre.1
  rcases h with h | h
  · exact .inl (by rw [hN]; exact List.mem_append_left _ h)
  · exact .inr (e.sub a h)
theorem Ext.trans (e : Ext M H M' H') (e' : Ext M' H' M'' H'') : Ext M H M'' H'' := by
  obtain ⟨N, hN⟩ := e.pre.1
  obtain ⟨N', hN'⟩ := e'.pre.1
  refine ⟨⟨⟨⟨N ++ N', by rw [hN', hN, List.append_assoc]⟩, e'.pre.2.trans e.pre.2⟩, fun a h => e'.sub a (e.sub a h), fun a o h n t => ?_, fun a h n o q => ?_⟩, fun a o h n t => e'.kf a o (e.kf a o h n t) (e.sub a n) t⟩
  · refine e'.keep a o (e.keep a o h n t) (fun z => ?_) t
    obtain ⟨ps, hp⟩ := e.new a z n o h
    exact t ps hp
  · by_cases z : a ∈ M'
    · exact e.new a z n o q
    · by_cases t : ∀ ps, o ≠ .tbl ps
      · exact e'.new a h z o (e.keep a o q n t)
      · exact Classical.byContradiction fun w => t fun ps hp => w ⟨ps, hp⟩
theorem ExtW.at (e : ExtW M H M' H') {i : Nat} (h : M.n[i]? = some a) : M'.n[i]? = some a := by
  obtain ⟨N, hN⟩ := e.pre.1
  rw [hN, List.getElem?_append_left (by exact (List.getElem?_eq_some_iff.mp h).1)]
  exact h
theorem Ext.at (e : Ext M H M' H') {i : Nat} (h : M.n[i]? = some a) : M'.n[i]? = some a := e.toExtW.at h
theorem ExtW.out (e : ExtW M H M' H') (h : H a = some o) (n : a ∉ M) (t : ∀ ps, o ≠ .tbl ps := by intro _ z; cases z) : a ∉ M' := fun z => by
  obtain ⟨ps, hp⟩ := e.new a z n o h
  exact t ps hp
theorem Ext.out (e : Ext M H M' H') (h : H a = some o) (n : a ∉ M) (t : ∀ ps, o ≠ .tbl ps := by intro _ z; cases z) : a ∉ M' := e.toExtW.out h n t
/-- a new object -/
theorem Ext.alloc (h : H p = none) : Ext M H M (upd H p o) := by
  refine ⟨⟨⟨⟨[], by simp⟩, rfl⟩, fun _ h => h, fun a u e _ _ => ?_, fun _ h n => absurd h n⟩, fun a u e _ _ => ?_⟩
  · rw [upd_ne (ne_of_none e h)]; exact e
  · rw [upd_ne (ne_of_none e h)]; exact e
theorem Ext.allocM (h : H p = none) : Ext M H (M.push p) (upd H p o) := by
  refine ⟨⟨⟨⟨[p], rfl⟩, rfl⟩, fun _ h => h, (Ext.alloc (M := M) (o := o) h).keep, fun a z n u q => ?_⟩, (Ext.alloc (M := M) (o := o) h).kf⟩
  rcases z with z | z
  · rcases List.mem_append.mp z with z | z
    · exact absurd (.inl z) n
    · rw [List.mem_singleton.mp z, h] at q; cases q
  · exact absurd (.inr z) n
theorem ExtW.mut (h : a ∈ M) : ExtW M H M (upd H a o) := by
  refine ⟨⟨⟨[], by simp⟩, rfl⟩, fun _ h => h, fun b u e n _ => ?_, fun _ h n => absurd h n⟩
  rw [upd_ne (fun z : b = a => n (by rw [z]; exact h))]; exact e
theorem Ext.mut (h : a ∈ M) (n : a ∉ M.f) : Ext M H M (upd H a o) :=
  ⟨ExtW.mut h, fun b u e hb _ => by rw [upd_ne (fun z : b = a => n (z ▸ hb))]; exact e⟩
/-- what was not there at the start may be changed -/
theorem Ext.updN (e : Ext M H M' H') (h : H p = none) : Ext M H M' (upd H' p o) := by
  refine ⟨⟨e.pre, e.sub, fun a u q n t => ?_, e.new⟩, fun a u q n t => ?_⟩
  · rw [upd_ne (ne_of_none q h)]; exact e.keep a u q n t
  · rw [upd_ne (ne_of_none q h)]; exact e.kf a u q n t
theorem Ext.df (e : Ext M H M' H') (h : ∃ o, H a = some o ∧ ∀ ps, o ≠ .tbl ps) (n : a ∈ M.f) : ∃ o, H' a = some o ∧ ∀ ps, o ≠ .tbl ps := by
  obtain ⟨o, h1, h2⟩ := h
  exact ⟨o, e.kf a o h1 n h2, h2⟩
theorem Ma.add_no {M : Ma} {a q : Addr} (h : a ∉ M) (n : a ≠ q) : a ∉ M.add q := fun z => by
  rcases z with z | z
  · exact h (.inl z)
  · rcases List.mem_cons.mp z with z | z
    · exact n z
    · exact h (.inr z)
theorem ScrAt.mono (e : ExtW M H M' H') (h : ScrAt M H a vs) : ScrAt M' H' a vs := by
  rcases h with ⟨o, h, n⟩ | h
  · exact .inl ⟨o, e.keep _ _ h n (fun _ z => nomatch z), e.out h n⟩
  · exact .inr fun H' => by rw [e.pre.2]; exact h H'
theorem ScrAt.sub {M' : Ma} (h : ScrAt M H a vs) (k : M'.k = M.k) (n : a ∉ M → a ∉ M') : ScrAt M' H a vs := by
  rcases h with ⟨o, h, m⟩ | h
  · exact .inl ⟨o, h, n m⟩
  · exact .inr fun H' => by rw [k]; exact h H'
theorem TupF.mono (e : ExtW M H M' H') (h : TupF H a vs) (n : a ∉ M) : TupF H' a vs := by
  obtain ⟨o, h, q⟩ := h
  exact ⟨o, e.keep _ _ h n (fun _ z => nomatch z), q⟩
theorem TupF.out (e : ExtW M H M' H') (h : TupF H a vs) (n : a ∉ M) : a ∉ M' := by
  obtain ⟨o, h, q⟩ := h
  exact e.out h n
theorem TupF.new {H : Hp} {a : Addr} {vs : List V} {o : Obj} (h : o.dict = none) : TupF (upd H a (.frz o (.tup vs))) a vs := ⟨o, upd_same, h⟩
mutual
theorem Rv.monoW (e : ExtW M H M' H') : ∀ {d : D} {v : V}, Rv M H d v → Rv M' H' d v
  | _, _, .non => .non
  | _, _, .bl b => .bl b
  | _, _, .int i => .int i
  | _, _, .str x => .str x
  | _, _, .tup h n r => .tup (h.mono e n) (h.out e n) (Rvs.monoW e r)
  | _, _, .lst h n r => .lst (e.keep _ _ h n fun _ z => nomatch z) (e.out h n) (Rvs.monoW e r)
  | _, _, .scr h r => .scr (h.mono e) (Rvs.monoW e r)
  | _, _, .dct q h n => .dct q (e.keep _ _ h n fun _ z => nomatch z) (e.out h n)
  | _, _, .ref h => .ref (e.at h)
  | _, _, .exn h => .exn (e.pre.2 ▸ h)
  | _, _, .exnA h q n => .exnA (e.pre.2 ▸ h) (e.keep _ _ q n fun _ z => nomatch z) (e.out q n)
  | _, _, .exnH k h n => .exnH (by rw [e.pre.2]; exact k) (e.keep _ _ h n fun _ => exO_tbl) (e.out h n fun _ => exO_tbl)
  | _, _, .exaH k h n h2 n2 => .exaH (by rw [e.pre.2]; exact k) (e.keep _ _ h n fun _ => exo_tbl) (e.out h n fun _ => exo_tbl) (e.keep _ _ h2 n2 fun _ => exd_tbl) (e.out h2 n2 fun _ => exd_tbl)
theorem Rvs.monoW (e : ExtW M H M' H') : ∀ {ds : List D} {vs : List V}, Rvs M H ds vs → Rvs M' H' ds vs
  | _, _, .nil => .nil
  | _, _, .cons r t => .cons (Rv.monoW e r) (Rvs.monoW e t)
end
theorem Rv.mono (e : Ext M H M' H') {d : D} {v : V} (h : Rv M H d v) : Rv M' H' d v := h.monoW e.toExtW
theorem Rvs.mono (e : Ext M H M' H') {ds : List D} {vs : List V} (h : Rvs M H ds vs) : Rvs M' H' ds vs := h.monoW e.toExtW
theorem Rvs.length : ∀ {ds : List D} {vs : List V}, Rvs M H ds vs → ds.length = vs.length
  | _, _, .nil => rfl
  | _, _, .cons _ t => by simp [Rvs.length t]
theorem Rvs.append : ∀ {ds es : List D} {vs ws : List V}, Rvs M H ds vs → Rvs M H es ws → Rvs M H (ds ++ es) (vs ++ ws)
  | _, _, _, _, .nil, s => s
  | _, _, _, _, .cons r t, s => .cons r (Rvs.append t s)
theorem Rvs.get : ∀ {ds : List D} {vs : List V} {i : Nat} {v : V}, Rvs M H ds vs → vs[i]? = some v → ∃ d, ds[i]? = some d ∧ Rv M H d v
  | _, _, _, _, .nil, h => by simp at h
  | _, _, 0, _, .cons r _, h => by simp at h; subst h; exact ⟨_, rfl, r⟩
  | _, _, i + 1, _, .cons _ t, h => by
    obtain ⟨d, h1, h2⟩ := Rvs.get (i := i) t (by simpa using h)
    exact ⟨d, by simpa using h1, h2⟩
theorem Rvs.get' : ∀ {ds : List D} {vs : List V} {i : Nat} {d : D}, Rvs M H ds vs → ds[i]? = some d → ∃ v, vs[i]? = some v ∧ Rv M H d v
  | _, _, _, _, .nil, h => by simp at h
  | _, _, 0, _, .cons r _, h => by simp at h; subst h; exact ⟨_, rfl, r⟩
  | _, _, i + 1, _, .cons _ t, h => by
    obtain ⟨d, h1, h2⟩ := Rvs.get' (i := i) t (by simpa using h)
    exact ⟨d, by simpa using h1, h2⟩
theorem Rvs.take : ∀ {ds : List D} {vs : List V} (n : Nat), Rvs M H ds vs → Rvs M H (ds.take n) (vs.take n)
  | _, _, 0, _ => .nil
  | _, _, _ + 1, .nil => .nil
  | _, _, n + 1, .cons r t => .cons r (Rvs.take n t)
theorem Rvs.drop : ∀ {ds : List D} {vs : List V} (n : Nat), Rvs M H ds vs → Rvs M H (ds.drop n) (vs.drop n)
  | _, _, 0, r => r
  | _, _, _ + 1, .nil => .nil
  | _, _, n + 1, .cons _ t => Rvs.drop n t
theorem Rvs.set : ∀ {ds : List D} {vs : List V} {d : D} {v : V} (n : Nat), Rvs M H ds vs → Rv M H d v → Rvs M H (ds.set n d) (vs.set n v)
  | _, _, _, _, _, .nil, _ => .nil
  | _, _, _, _, 0, .cons _ t, r => .cons r t
  | _, _, _, _, n + 1, .cons q t, r => .cons q (Rvs.set n t r)
theorem Rvs.reverse {ds : List D} {vs : List V} (h : Rvs M H ds vs) : Rvs M H ds.reverse vs.reverse := by
  induction ds generalizing vs with
  | nil => cases h; exact .nil
  | cons d ds ih => cases h with | cons r t => rw [List.reverse_cons, List.reverse_cons]; exact (ih t).append (.cons r .nil)
theorem Rvs.flatten_rep {ds : List D} {vs : List V} (h : Rvs M H ds vs) : ∀ n, Rvs M H (List.replicate n ds).flatten (List.replicate n vs).flatten
  | 0 => .nil
  | n + 1 => by rw [List.replicate_succ, List.replicate_succ, List.flatten_cons, List.flatten_cons]; exact h.append (Rvs.flatten_rep h n)
theorem Rfs.monoW (e : ExtW M H M' H') {fs : List (Str × D)} {vfs : List (Str × V)} (h : Rfs M H fs vfs) : Rfs M' H' fs vfs :=
  Paired.mapP h fun _ _ q => ⟨q.1, Rv.monoW e q.2⟩
theorem Rfs.mono (e : Ext M H M' H') {fs : List (Str × D)} {vfs : List (Str × V)} (h : Rfs M H fs vfs) : Rfs M' H' fs vfs := h.monoW e.toExtW
theorem Ro.monoW (e : ExtW M H M' H') (q : H' a = H a) {u : O} (h : Ro CA M H a u) : Ro CA M' H' a u := by
  cases u with
  | lst ds => obtain ⟨vs, h1, h2⟩ := h; exact ⟨vs, q.trans h1, h2.monoW e⟩
  | ins c fs =>
    obtain ⟨dx, vfs, h1, h2, h3, h4⟩ := h
    exact ⟨dx, vfs, q.trans h1, e.keep _ _ h2 h3 (fun _ z => nomatch z), e.out h2 h3, h4.monoW e⟩
theorem Ro.mono (e : Ext M H M' H') (q : H' a = H a) {u : O} (h : Ro CA M H a u) : Ro CA M' H' a u := h.monoW e.toExtW q
theorem Ro.some {u : O} (h : Ro CA M H a u) : ∃ o, H a = some o ∧ ∀ ps, o ≠ .tbl ps := by
  cases u with
  | lst ds => obtain ⟨vs, h1, _⟩ := h; exact ⟨_, h1, fun _ z => nomatch z⟩
  | ins c fs => obtain ⟨dx, vfs, h1, _⟩ := h; exact ⟨_, h1, fun _ z => nomatch z⟩
theorem Emb.has (e : Emb T CA KF M H S) (h : a ∈ M.n) : ∃ (i : Nat) (u : O), M.n[i]? = some a ∧ S[i]? = some u ∧ Ro CA M H a u := by
  obtain ⟨i, hi, q⟩ := List.mem_iff_getElem.mp h
  have h1 : M.n[i]? = some a := by rw [List.getElem?_eq_getElem hi, q]
  have hs : i < S.length := by rw [← e.len]; exact hi
  exact ⟨i, S[i], h1, List.getElem?_eq_getElem hs, e.ob i a _ h1 (List.getElem?_eq_getElem hs)⟩
theorem Emb.no (e : Emb T CA KF M H S) (h : H a = none) : a ∉ M := fun z => by
  rcases z with z | z
  · obtain ⟨_, _, _, _, r⟩ := e.has z
    obtain ⟨o, q, _⟩ := r.some
    rw [h] at q; cases q
  · obtain ⟨o, q, _⟩ := (e.df a z).1
    rw [h] at q; cases q
theorem Emb.alloc (e : Emb T CA KF M H S) (h : H p = none) : Emb T CA KF M (upd H p o) S := by
  have x : Ext M H M (upd H p o) := Ext.alloc h
  refine ⟨e.kf, e.len, e.nd, fun a ha => ⟨x.df (e.df a ha).1 ha, (e.df a ha).2⟩, fun i a u h1 h2 => (e.ob i a u h1 h2).mono x ?_, e.tb.ext fun b u q => by rw [upd_ne (ne_of_none q h)]; exact q⟩
  obtain ⟨o', q, _⟩ := (e.ob i a u h1 h2).some
  rw [upd_ne (ne_of_none q h)]
theorem Emb.allocM {u : O} (e : Emb T CA KF M H S) (h : H p = none) (r : Ro CA (M.push p) (upd H p o) p u) : Emb T CA KF (M.push p) (upd H p o) (S ++ [u]) := by
  have x : Ext M H (M.push p) (upd H p o) := Ext.allocM h
  have ml : (M.push p).n = M.n ++ [p] := rfl
  refine ⟨e.kf, by simp [ml, e.len], by
    rw [ml]
    refine List.nodup_append.mpr ⟨e.nd, by simp, fun a ha b hb => ?_⟩
    rw [List.mem_singleton.mp hb]
    exact fun z => e.no h (.inl (z ▸ ha)), fun a ha => ⟨x.df (e.df a ha).1 ha, fun z => ?_⟩, fun i a w h1 h2 => ?_, e.tb.ext fun b u q => by rw [upd_ne (ne_of_none q h)]; exact q⟩
  · rw [ml] at z
    rcases List.mem_append.mp z with z | z
    · exact (e.df a ha).2 z
    · obtain ⟨o, q, _⟩ := (e.df a ha).1
      rw [List.mem_singleton.mp z, h] at q; cases q
  · rw [ml] at h1
    by_cases hi : i < M.n.length
    · rw [List.getElem?_append_left hi] at h1
      rw [List.getElem?_append_left (by rw [← e.len]; exact hi)] at h2
      refine (e.ob i a w h1 h2).mono x ?_
      obtain ⟨o', q, _⟩ := (e.ob i a w h1 h2).some
      rw [upd_ne (ne_of_none q h)]
    · have hl := (List.getElem?_eq_some_iff.mp h1).1
      simp at hl
      have hi' : i = M.n.length := by omega
      subst hi'
      simp at h1
      rw [e.len] at h2
      simp at h2
      subst h1 h2
      exact r
theorem Emb.mut {u : O} {i : Nat} (e : Emb T CA KF M H S) (h : M.n[i]? = some a) (hi : i < S.length) (r : Ro CA M (upd H a o) a u) (ht : ∀ ps, H a ≠ some (.tbl ps)) : Emb T CA KF M (upd H a o) (S.set i u) := by
  have hn : a ∈ M.n := List.mem_of_getElem? h
  have hm : a ∈ M := .inl hn
  have x : Ext M H M (upd H a o) := Ext.mut hm fun z => (e.df a z).2 hn
  refine ⟨e.kf, by simp [e.len], e.nd, fun a ha => ⟨x.df (e.df a ha).1 ha, (e.df a ha).2⟩, fun j b w h1 h2 => ?_, fun p hp => ?_⟩
  · by_cases hj : j = i
    · subst hj
      rw [h] at h1; cases h1
      rw [List.getElem?_set_self hi] at h2; cases h2
      exact r
    · rw [List.getElem?_set_ne (Ne.symm hj)] at h2
      refine (e.ob j b w h1 h2).mono x ?_
      refine upd_ne fun z => hj ?_
      subst z
      have l1 := (List.getElem?_eq_some_iff.mp h1)
      have l2 := (List.getElem?_eq_some_iff.mp h)
      exact (List.getElem_inj e.nd).mp (l1.2.trans l2.2.symm)
  · obtain ⟨ps, h1, h2, h3⟩ := e.tb p hp
    refine ⟨ps, by rw [upd_ne (fun z : p.1 = a => ht ps (by rw [← z]; exact h1))]; exact h1, h2, fun pos cv hc => ?_⟩
    obtain ⟨c, e1, e2⟩ := h3 pos cv hc
    refine ⟨c, e1, ?_⟩
    rw [upd_ne ?_]
    · exact e2
    · rintro rfl
      obtain ⟨j, w, q1, q2, q3⟩ := e.has hn
      cases w with
      | lst ds => obtain ⟨vs, z, _⟩ := q3; rw [e2] at z; cases z
      | ins c fs => obtain ⟨dx, vfs, z, _⟩ := q3; rw [e2] at z; cases z
/-! ### the local names -/
structure Renv (M : Ma) (H : Hp) (ρ : Env) (σ : L2.St) : Prop where
  len : ρ.length = σ.length
  at_ : ∀ (i : Nat) (d : D), ρ[i]? = some (some d) → ∃ v, σ[i]? = some (some v) ∧ Rv M H d v
theorem Renv.mono {ρ : Env} {σ : L2.St} (r : Renv M H ρ σ) (e : Ext M H M' H') : Renv M' H' ρ σ :=
  ⟨r.len, fun i d h => let ⟨v, h1, h2⟩ := r.at_ i d h; ⟨v, h1, h2.mono e⟩⟩
theorem Renv.set {ρ : Env} {σ : L2.St} (r : Renv M H ρ σ) (i : Nat) (q : Rv M H d v) : Renv M H (ρ.set i (some d)) (σ.set i (some v)) := by
  refine ⟨by simp [r.len], fun j w h => ?_⟩
  by_cases hj : j = i
  · subst hj
    have hl : j < ρ.length := by
      have := (List.getElem?_eq_some_iff.mp h).1; simpa using this
    rw [List.getElem?_set_self hl] at h
    cases h
    exact ⟨v, List.getElem?_set_self (by rw [← r.len]; exact hl), q⟩
  · rw [List.getElem?_set_ne (Ne.symm hj)] at h
    obtain ⟨v', h1, h2⟩ := r.at_ j w h
    exact ⟨v', by rw [List.getElem?_set_ne (Ne.symm hj)]; exact h1, h2⟩
theorem Renv.setN {ρ : Env} {σ : L2.St} (r : Renv M H ρ σ) (i : Nat) (x : Option V) : Renv M H (ρ.set i none) (σ.set i x) := by
  refine ⟨by simp [r.len], fun j w h => ?_⟩
  by_cases hj : j = i
  · subst hj
    have hl : j < ρ.length := by
      have := (List.getElem?_eq_some_iff.mp h).1; simpa using this
    rw [List.getElem?_set_self hl] at h
    cases h
  · rw [List.getElem?_set_ne (Ne.symm hj)] at h
    obtain ⟨v', h1, h2⟩ := r.at_ j w h
    exact ⟨v', by rw [List.getElem?_set_ne (Ne.symm hj)]; exact h1, h2⟩
theorem Renv.wipe {ρ : Env} {σ : L2.St} (r : Renv M H ρ σ) : ∀ l : List Nat, Renv M H (PL.wipe ρ l) (L2.wipe σ l)
  | [] => r
  | v :: vs => (Renv.wipe r vs).setN v none
theorem Renv.unk {ρ : Env} {σ : L2.St} (h : ρ.length = σ.length) (hn : ∀ x ∈ ρ, x = Option.none) : Renv M H ρ σ :=
  ⟨h, fun i d q => by have := hn _ (List.mem_of_getElem? q); cases this⟩
/-! ### what is read -/
theorem Rvs.ints : ∀ {ds : List D} {vs : List V} {ns : List Int}, Rvs M H ds vs → intsOf ds = some ns → vs = ns.map V.int
  | _, _, _, .nil, h => by cases h; rfl
  | .int i :: _, _, ns, .cons r t, h => by
    cases r
    unfold intsOf at h
    cases q : intsOf _ with
    | none => rw [q] at h; cases h
    | some l => rw [q] at h; cases h; rw [List.map_cons, Rvs.ints t q]
  | .none :: _, _, _, .cons _ _, h => by cases h
  | .bool _ :: _, _, _, .cons _ _, h => by cases h
  | .str _ :: _, _, _, .cons _ _, h => by cases h
  | .list _ :: _, _, _, .cons _ _, h => by cases h
  | .tuple _ :: _, _, _, .cons _ _, h => by cases h
  | .dict _ :: _, _, _, .cons _ _, h => by cases h
theorem Rvs.bools : ∀ {ds : List D} {vs : List V} {ns : List Bool}, Rvs M H ds vs → boolsOf ds = some ns → vs = ns.map V.bl
  | _, _, _, .nil, h => by cases h; rfl
  | .bool i :: _, _, ns, .cons r t, h => by
    cases r
    unfold boolsOf at h
    cases q : boolsOf _ with
    | none => rw [q] at h; cases h
    | some l => rw [q] at h; cases h; rw [List.map_cons, Rvs.bools t q]
  | .none :: _, _, _, .cons _ _, h => by cases h
  | .int _ :: _, _, _, .cons _ _, h => by cases h
  | .str _ :: _, _, _, .cons _ _, h => by cases h
  | .list _ :: _, _, _, .cons _ _, h => by cases h
  | .tuple _ :: _, _, _, .cons _ _, h => by cases h
  | .dict _ :: _, _, _, .cons _ _, h => by cases h
theorem Rvs.strs : ∀ {ds : List D} {vs : List V} {ns : List Str}, Rvs M H ds vs → strsOf ds = some ns → vs = ns.map V.str
  | _, _, _, .nil, h => by cases h; rfl
  | .str i :: _, _, ns, .cons r t, h => by
    cases r
    unfold strsOf at h
    cases q : strsOf _ with
    | none => rw [q] at h; cases h
    | some l => rw [q] at h; cases h; rw [List.map_cons, Rvs.strs t q]
  | .none :: _, _, _, .cons _ _, h => by cases h
  | .int _ :: _, _, _, .cons _ _, h => by cases h
  | .bool _ :: _, _, _, .cons _ _, h => by cases h
  | .list _ :: _, _, _, .cons _ _, h => by cases h
  | .tuple _ :: _, _, _, .cons _ _, h => by cases h
  | .dict _ :: _, _, _, .cons _ _, h => by cases h
/-- a list's value -/
theorem Emb.lst (e : Emb T CA KF M H S) {xs : List D} (h : lstD S d = some xs) (r : Rv M H d v) : ∃ a vs, v = .ref a ∧ H a = some (.lst vs) ∧ Rvs M H xs vs := by
  rcases lstD_some h with rfl | ⟨i, rfl, hs⟩
  · cases r with
    | lst h1 n q => exact ⟨_, _, rfl, h1, q⟩
  · cases r with
    | ref hm => obtain ⟨vs, h1, h2⟩ := e.ob i _ _ hm hs; exact ⟨_, vs, rfl, h1, h2⟩
    | dct q _ _ =>
      rename_i ks _ _
      cases ks with
      | nil => cases q
      | cons k ks => simp at q
theorem Rv.tupI (r : Rv M H (.tuple ds) v) : ∃ a vs, v = .ref a ∧ TupF H a vs ∧ a ∉ M ∧ Rvs M H ds vs := by
  cases r with
  | tup h n q => exact ⟨_, _, rfl, h, n, q⟩
theorem Emb.seq (e : Emb T CA KF M H S) {xs : List D} (h : seqD S d = some xs) (r : Rv M H d v) : ∃ a vs, v = .ref a ∧ (H a = some (.lst vs) ∨ TupF H a vs) ∧ Rvs M H xs vs := by
  rcases seqD_some h with rfl | h1
  · obtain ⟨a, vs, rfl, h1, _, q⟩ := r.tupI
    exact ⟨a, vs, rfl, .inr h1, q⟩
  · have h2 : lstD S d = some xs := by
      rcases h1 with rfl | ⟨i, rfl, hs⟩
      · rfl
      · rw [lstD_rf]; exact objL_of hs
    obtain ⟨a, vs, rfl, h3, q⟩ := e.lst h2 r
    exact ⟨a, vs, rfl, .inl h3, q⟩
theorem Rv.scrI {ds : List D} (r : Rv M H (PL.scr ds) v) : ∃ a vs, v = .ref a ∧ SqL M.k.1.1 H a vs ∧ Rvs M H ds vs := by
  unfold PL.scr at r
  cases r with
  | scr h q => exact ⟨_, _, rfl, h.sq, q⟩
  | dct q _ _ =>
    rename_i ks _ _
    cases ks with
    | nil => cases q
    | cons k ks => simp at q
/-- an exception's value -/
theorem Rv.exnI {c : Str} (r : Rv M H (exD c) v) : ∃ a, v = .ref a ∧ (M.k.2 = some (a, c, none) ∨ ∃ C f, M.k.1.2 c = some (C, f) ∧ H a = some (ExO (.ref C) a)) := by
  unfold exD at r
  cases r with
  | exn h => exact ⟨_, rfl, .inl h⟩
  | exnH k h _ => exact ⟨_, rfl, .inr ⟨_, _, k, h⟩⟩
  | dct q _ _ =>
    rename_i ks _ _
    cases ks with
    | nil => cases q
    | cons k ks => simp at q
theorem Rv.exaI {c : Str} {i : Int} (r : Rv M H (exA c i) v) : ∃ a, v = .ref a ∧ ((∃ dd, M.k.2 = some (a, c, some dd) ∧ H dd = some (.xd [(("at" : Str), V.int i)])) ∨ ∃ C dx, M.k.1.2 c = some (C, true) ∧ H a = some (exo a C (some dx)) ∧ H dx = some (exd dx [(("at" : Str), V.int i)])) := by
  unfold exA at r
  cases r with
  | exnA h q _ => exact ⟨_, rfl, .inl ⟨_, h, q⟩⟩
  | exaH k h _ h2 _ => exact ⟨_, rfl, .inr ⟨_, _, k, h, h2⟩⟩
  | dct q _ _ =>
    rename_i ks _ _
    cases ks with
    | nil => cases q
    | cons k ks => simp at q
theorem Rv.refI {i : Nat} (r : Rv M H (rf i) v) : ∃ a, v = .ref a ∧ M.n[i]? = some a := by
  unfold rf at r
  cases r with
  | ref h => exact ⟨_, rfl, h⟩
  | dct q _ _ =>
    rename_i ks _ _
    cases ks with
    | nil => cases q
    | cons k ks => simp at q
theorem Emb.ins (e : Emb T CA KF M H S) {i : Nat} {c : Str} {fs : List (Str × D)} (h : insD S i = some (c, fs)) (r : Rv M H (rf i) v) :
    ∃ a dx vfs, v = .ref a ∧ M.n[i]? = some a ∧ H a = some (.ins (CA c) dx vfs) ∧ H dx = some (.own a) ∧ dx ∉ M ∧ Rfs M H fs vfs := by
  obtain ⟨a, rfl, hm⟩ := r.refI
  obtain ⟨dx, vfs, h1, h2, h3, h4⟩ := e.ob i a _ hm (insD_some h)
  exact ⟨a, dx, vfs, rfl, hm, h1, h2, h3, h4⟩
theorem Rfs.lookup {fs : List (Str × D)} {vfs : List (Str × V)} {f : Str} (h : Rfs M H fs vfs) : (∀ d, fs.lookup f = some d → ∃ v, vfs.lookup f = some v ∧ Rv M H d v) ∧ (fs.lookup f = none → vfs.lookup f = none) := by
  induction fs generalizing vfs with
  | nil =>
    cases h
    exact ⟨(fun d z => nomatch z), (fun _ => rfl)⟩
  | cons p fs ih =>
    cases h with
    | cons q t =>
      obtain ⟨g, d⟩ := p
      rename_i w _
      obtain ⟨g', v⟩ := w
      obtain ⟨q1, q2⟩ := q
      have q1' : g = g' := q1
      subst q1'
      simp only [List.lookup_cons]
      split
      · exact ⟨(fun d' z => by cases z; exact ⟨v, rfl, q2⟩), (fun z => nomatch z)⟩
      · exact ih t
theorem Rfs.put {fs : List (Str × D)} {vfs : List (Str × V)} (h : Rfs M H fs vfs) {f : Str} (q : Rv M H d v) : Rfs M H (PL.putF f d fs) (L2.putF f v vfs) := by
  induction fs generalizing vfs with
  | nil => cases h; exact .cons ⟨rfl, q⟩ .nil
  | cons p fs ih =>
    cases h with
    | cons q' t =>
      obtain ⟨g, e⟩ := p
      rename_i w _
      obtain ⟨g', v'⟩ := w
      obtain ⟨q1, q2⟩ := q'
      have q1' : g = g' := q1
      subst q1'
      unfold PL.putF L2.putF
      split
      · exact .cons ⟨rfl, q⟩ t
      · exact .cons ⟨rfl, q2⟩ (ih t)
theorem Rfs.length {fs : List (Str × D)} {vfs : List (Str × V)} (h : Rfs M H fs vfs) : fs.length = vfs.length := Paired.length h
/-! ### data without objects' numbers, against the layer's own relation -/
mutual
theorem Rv.dp {K : PySem.W.Frag} : ∀ {d : D} {v : V}, Rv M H d v → d.plain = true → Dp K H v d
  | _, _, .non, _ => .non
  | _, _, .bl b, _ => .bl b
  | _, _, .int i, _ => .int i
  | _, _, .str x, _ => .str x
  | _, _, .tup h n r, p => .tup h.sq (Rvs.dp r (by simpa [PyData.plain] using p))
  | _, _, .lst h n r, p => .lst (SqL.of h) (Rvs.dp r (by simpa [PyData.plain] using p))
  | _, _, .scr h r, p => by simp [PyData.plain] at p
  | _, _, .dct q h n, p => by simp [PyData.plain] at p
  | _, _, .ref h, p => by simp [PyData.plain] at p
  | _, _, .exn h, p => by simp [PyData.plain] at p
  | _, _, .exnA h q n, p => by simp [PyData.plain] at p
  | _, _, .exnH k h n, p => by simp [PyData.plain] at p
  | _, _, .exaH k h n h2 n2, p => by simp [PyData.plain] at p
theorem Rvs.dp {K : PySem.W.Frag} : ∀ {ds : List D} {vs : List V}, Rvs M H ds vs → PyData.plainAll ds = true → DpAll K H vs ds
  | _, _, .nil, _ => .nil
  | _, _, .cons r t, p => by
    simp only [PyData.plainAll, Bool.and_eq_true] at p
    exact .cons (Rv.dp r p.1) (Rvs.dp t p.2)
end
/-- a list object told as its list -/
theorem Emb.val (e : Emb T CA KF M H S) {K : PySem.W.Frag} (r : Rv M H d v) (p : (PL.val S d).plain = true) : Dp K H v (PL.val S d) := by
  unfold PL.val at p ⊢
  cases q : lstD S d with
  | none => rw [q] at p; exact r.dp p
  | some xs =>
    rw [q] at p
    obtain ⟨a, vs, rfl, h1, h2⟩ := e.lst q r
    exact .lst (SqL.of h1) (h2.dp (by simpa [PyData.plain] using p))
/-! ### leaving out the objects from n on -/
theorem Ma.cut_mem {M : Ma} {n : Nat} {a : Addr} (h : a ∈ M.cut n) : a ∈ M := by
  rcases h with h | h
  · exact .inl (List.mem_of_mem_take h)
  · exact .inr h
mutual
theorem Rv.cut {n : Nat} : ∀ {d : D} {v : V}, Rv M H d v → refB n d = true → Rv (M.cut n) H d v
  | _, _, .non, _ => .non
  | _, _, .bl b, _ => .bl b
  | _, _, .int i, _ => .int i
  | _, _, .str x, _ => .str x
  | _, _, .tup h m r, p => .tup h (fun z => m (Ma.cut_mem z)) (Rvs.cut r (by simpa [refB] using p))
  | _, _, .lst h m r, p => .lst h (fun z => m (Ma.cut_mem z)) (Rvs.cut r (by simpa [refB] using p))
  | _, _, .scr h r, p => .scr (h.sub rfl fun m z => m (Ma.cut_mem z)) (Rvs.cut r (by unfold refB at p; exact p))
  | _, _, .dct q h m, p => .dct q h (fun z => m (Ma.cut_mem z))
  | _, _, @Rv.ref _ _ i a h, p => .ref (by
    have hi : i < n := by unfold refB at p; exact of_decide_eq_true p
    show (M.n.take n)[i]? = _
    rw [List.getElem?_take_of_lt hi]; exact h)
  | _, _, .exn h, p => .exn h
  | _, _, .exnA h q m, p => .exnA h q (fun z => m (Ma.cut_mem z))
  | _, _, .exnH k h m, p => .exnH k h (fun z => m (Ma.cut_mem z))
  | _, _, .exaH k h m h2 m2, p => .exaH k h (fun z => m (Ma.cut_mem z)) h2 (fun z => m2 (Ma.cut_mem z))
theorem Rvs.cut {n : Nat} : ∀ {ds : List D} {vs : List V}, Rvs M H ds vs → refBs n ds = true → Rvs (M.cut n) H ds vs
  | _, _, .nil, _ => .nil
  | _, _, .cons r t, p => by
    simp only [refBs, Bool.and_eq_true] at p
    exact .cons (Rv.cut r p.1) (Rvs.cut t p.2)
end
/-! ### an object that no value tells, for a while -/
def Ma.del (M : Ma) (q : Addr) : Ma := ⟨M.n, M.f.filter fun a => decide (a ≠ q), M.k⟩
theorem Ma.del_no {M : Ma} {a q : Addr} (h : a ∉ M) : a ∉ M.del q := fun z => h (z.elim .inl fun z => .inr (List.mem_filter.mp z).1)
theorem Ma.del_yes {M : Ma} {a q : Addr} (h : a ∈ M) (n : a ≠ q) : a ∈ M.del q := h.elim .inl fun z => .inr (List.mem_filter.mpr ⟨z, by simpa using n⟩)
theorem Ma.ne_of {M : Ma} {a q : Addr} (h : a ∉ M) (hq : q ∈ M.f) : a ≠ q := fun z => h (.inr (by rw [z]; exact hq))
theorem Ext.inn {q : Addr} {o : HO} (hq : H q = none) : Ext M H (M.add q) (upd H q o) := by
  refine ⟨⟨⟨⟨[], by simp [Ma.add]⟩, rfl⟩, fun a h => List.mem_cons_of_mem _ h, (Ext.alloc (M := M) (o := o) hq).keep, fun a h n u q => ?_⟩, (Ext.alloc (M := M) (o := o) hq).kf⟩
  rcases h with h | h
  · exact absurd (.inl h) n
  · rcases List.mem_cons.mp h with z | z
    · rw [z, hq] at q; cases q
    · exact absurd (.inr z) n
mutual
theorem Rv.less {q : Addr} : ∀ {d : D} {v : V}, Rv M H d v → Rv (M.del q) H d v
  | _, _, .non => .non
  | _, _, .bl b => .bl b
  | _, _, .int i => .int i
  | _, _, .str x => .str x
  | _, _, .tup h m r => .tup h (Ma.del_no m) (Rvs.less r)
  | _, _, .lst h m r => .lst h (Ma.del_no m) (Rvs.less r)
  | _, _, .scr h r => .scr (h.sub rfl Ma.del_no) (Rvs.less r)
  | _, _, .dct e h m => .dct e h (Ma.del_no m)
  | _, _, .ref h => .ref h
  | _, _, .exn h => .exn h
  | _, _, .exnA h q m => .exnA h q (Ma.del_no m)
  | _, _, .exnH k h m => .exnH k h (Ma.del_no m)
  | _, _, .exaH k h m h2 m2 => .exaH k h (Ma.del_no m) h2 (Ma.del_no m2)
theorem Rvs.less {q : Addr} : ∀ {ds : List D} {vs : List V}, Rvs M H ds vs → Rvs (M.del q) H ds vs
  | _, _, .nil => .nil
  | _, _, .cons r t => .cons (Rv.less r) (Rvs.less t)
end
theorem Emb.inn {q : Addr} {o : HO} (e : Emb T CA KF M H S) (hq : H q = none) (t : ∀ ps, o ≠ .tbl ps := by intro _ z; cases z) : Emb T CA KF (M.add q) (upd H q o) S := by
  have x : Ext M H (M.add q) (upd H q o) := Ext.inn hq
  refine ⟨e.kf, e.len, e.nd, fun a ha => ?_, fun i a u h1 h2 => ?_, e.tb.ext fun b u p => by rw [upd_ne (ne_of_none p hq)]; exact p⟩
  · rcases List.mem_cons.mp ha with z | z
    · subst z
      exact ⟨⟨o, upd_same, t⟩, fun z => e.no hq (.inl z)⟩
    · exact ⟨x.df (e.df a z).1 z, (e.df a z).2⟩
  · refine (e.ob i a u h1 h2).mono x ?_
    obtain ⟨o', p, _⟩ := (e.ob i a u h1 h2).some
    rw [upd_ne (ne_of_none p hq)]
/-- the list is changed, still not told -/
theorem Emb.step {q : Addr} {xs ys : List V} (e : Emb T CA KF M H S) (hf : q ∈ M.f) (hq : H q = some (.lst xs)) : Emb T CA KF M (upd H q (.lst ys)) S := by
  have nq : ∀ a, a ∈ M.n → a ≠ q := fun a ha z => (e.df q hf).2 (z ▸ ha)
  have x : ExtW M H M (upd H q (.lst ys)) := ExtW.mut (.inr hf)
  refine ⟨e.kf, e.len, e.nd, fun a ha => ⟨?_, (e.df a ha).2⟩, fun i a u h1 h2 => (e.ob i a u h1 h2).monoW x (upd_ne (nq a (List.mem_of_getElem? h1))), fun p hp => ?_⟩
  · by_cases z : a = q
    · rw [z]; exact ⟨_, upd_same, fun _ z => nomatch z⟩
    · rw [upd_ne z]; exact (e.df a ha).1
  · obtain ⟨ps, h1, h2, h3⟩ := e.tb p hp
    refine ⟨ps, by rw [upd_ne (fun z : p.1 = q => by rw [z, hq] at h1; cases h1)]; exact h1, h2, fun pos cv hcv => ?_⟩
    obtain ⟨c, e1, e2⟩ := h3 pos cv hcv
    exact ⟨c, e1, by rw [upd_ne (fun z : c = q => by rw [z, hq] at e2; cases e2)]; exact e2⟩
theorem Emb.outw {q : Addr} (e : Emb T CA KF M H S) (hf : q ∈ M.f) : Emb T CA KF (M.del q) H S := by
  refine ⟨e.kf, e.len, e.nd, fun a ha => e.df a (List.mem_filter.mp ha).1, fun i a u h1 h2 => ?_, e.tb⟩
  have r := e.ob i a u h1 h2
  cases u with
  | lst ds => obtain ⟨vs, g1, g2⟩ := r; exact ⟨vs, g1, g2.less⟩
  | ins c fs =>
    obtain ⟨dx, vfs, g1, g2, g3, g4⟩ := r
    exact ⟨dx, vfs, g1, g2, Ma.del_no g3, Paired.mapP g4 fun _ _ p => ⟨p.1, p.2.less⟩⟩
/-- what was done the while, told from outside -/
theorem Ext.outw {q : Addr} (em : Emb T CA KF M H S) (e : Ext M H M' H') (hq : H q = none) : Ext M H (M'.del q) H' := by
  refine ⟨⟨e.pre, fun a h => ?_, e.keep, fun a h n => e.new a ?_ n⟩, e.kf⟩
  · refine List.mem_filter.mpr ⟨e.sub a h, ?_⟩
    have : a ≠ q := fun z => by
      obtain ⟨o, w, _⟩ := (em.df a h).1
      rw [z, hq] at w; cases w
    simpa using this
  · rcases h with h | h
    · exact .inl h
    · exact .inr (List.mem_filter.mp h).1
end
end PL
end

section
set_option Elab.async false
set_option linter.all false
set_option maxRecDepth 100000
set_option maxHeartbeats 1000000
/-! PLC: what is wanted of an evaluation; the rules of the layer met by the evaluator's steps. -/
namespace PL
open PySem L2
structure Pg where
  prog : Program
  w : World
  K : PySem.W.Frag
  mg : Str → Option Value
  base : Heap
  T : List (Addr × Str)
  CA : Str → Addr
  gi : Str → Option Int
  /-- exceptions' classes; those that may be raised -/
  xs : List Str := []
  xr : List Str := []
  /-- those that keep a whole number -/
  xa : List Str := []
  hx : Option (Addr × Str × Option Addr) := none
/-- what an exception keeps -/
def Pg.XD (P : Pg) (x : Xn) (d : Option Addr) (M : Ma) (H : Hp) : Prop := match x.at_ with
  | none => d = none
  | some i => x.cls ∈ P.xa ∧ ∃ dd, d = some dd ∧ H dd = some (.xd [(("at" : Str), V.int i)]) ∧ dd ∉ M
def Pg.XA (P : Pg) (x : Xn) (c : Value) (d : Option Addr) (M : Ma) (H : Hp) : Prop := c = .ref (P.CA x.cls) ∧ P.XD x d M H ∧ x.cls ∈ P.xr
abbrev ZX := Xn → Sto → Ma → Hp → Prop
/-- the classes of exceptions that may be made -/
def Pg.cx (P : Pg) (c : Str) : Option (Addr × Bool) := if c ∈ P.xr then some (P.CA c, decide (c ∈ P.xa)) else none
theorem Pg.cx_some {P : Pg} {c : Str} {C : Addr} {f : Bool} (h : P.cx c = some (C, f)) : c ∈ P.xr ∧ C = P.CA c ∧ f = decide (c ∈ P.xa) := by
  unfold Pg.cx at h
  split at h
  · have e := Prod.mk.inj (Option.some.inj h)
    exact ⟨by assumption, e.1.symm, e.2.symm⟩
  · cases h
theorem Pg.cx_mem {P : Pg} {c : Str} (h : c ∈ P.xr) : P.cx c = some (P.CA c, decide (c ∈ P.xa)) := if_pos h
abbrev Pg.Emb (P : Pg) (M : Ma) (H : Hp) (S : Sto) : Prop := PL.Emb P.T P.CA ((P.K, P.cx), P.hx) M H S
/-- what is known statically of a block: its names by slot, its scope, the names whose cells are its own -/
structure Ga where
  N : List Str
  sc : Scope
  fn : Str → Bool
  /-- within a suite that handles an exception -/
  hot : Bool := false
  /-- a def in which lambdas may stand -/
  sd : Bool := false
  /-- a lambda's body -/
  lam : Bool := false
structure Fit (P : Pg) (Γ : Ga) (X : Cx) : Prop where
  prog : X.prog = P.prog
  w : X.w = P.w
  K : X.K = P.K
  mg : X.mg = P.mg
  base : X.base = P.base
  N : X.N = Γ.N
  nd : Γ.N.Nodup
  sc : X.env.scope = Γ.sc
  kind : Γ.sc.kind = .function
  fn : X.fn = Γ.fn
  calm : Γ.hot = false → X.calm = true
  guards : X.A.guards = some []
  hd : Γ.hot = false → X.A.handled = none
  units : X.A.units + 150 < cLine
  hx0 : Γ.hot = false → P.hx = none
/-- what must hold of an outcome so that Q follows (Z: of an exception) -/
def Res {α β : Type} (P : Pg) (R : Ma → Hp → α → β → Prop) (M : Ma) (H : Hp) (r : Out α) (Q : β → Hp → Prop) (Z : ZX) : Prop := match r with
  | .ok d S' => ∀ M' H' v, Ext M H M' H' → P.Emb M' H' S' → R M' H' d v → Q v H'
  | .exc x S' => ∀ M' H', Ext M H M' H' → P.Emb M' H' S' → Z x S' M' H'
  | .bad => False
section
variable {P : Pg} {α β γ δ : Type} {R : Ma → Hp → α → β → Prop} {R' : Ma → Hp → γ → δ → Prop} {M : Ma} {H : Hp} {Z : ZX}
theorem Res.bind {r : Out α} {f : α → Sto → Out γ} {Q : δ → Hp → Prop} (h : Res P R' M H (r.bind f) Q Z) :
    Res P R M H r (fun v H' => ∃ M' S' d, Ext M H M' H' ∧ P.Emb M' H' S' ∧ R M' H' d v ∧ Res P R' M' H' (f d S') Q Z) Z := by
  cases r with
  | ok d S' =>
    intro M' H' v e em rv
    refine ⟨M', S', d, e, em, rv, ?_⟩
    have h : Res P R' M H (f d S') Q Z := h
    revert h
    cases f d S' with
    | ok d2 S2 => exact fun h M2 H2 v2 e2 em2 r2 => h M2 H2 v2 (e.trans e2) em2 r2
    | exc x S2 => exact fun h M2 H2 e2 em2 => h M2 H2 (e.trans e2) em2
    | bad => exact fun h => h
  | exc x S' => exact h
  | bad => exact h
theorem Res.mono {r : Out α} {Q Q' : β → Hp → Prop} (h : Res P R M H r Q Z) (q : ∀ v H', Q v H' → Q' v H') : Res P R M H r Q' Z := by
  cases r with
  | ok d S' => exact fun M' H' v e em rv => q _ _ (h M' H' v e em rv)
  | exc x S' => exact h
  | bad => exact h
theorem Res.ok {d : α} {S : Sto} {v : β} {Q : β → Hp → Prop} (h : Res P R M H (.ok d S) Q Z) (em : P.Emb M H S) (r : R M H d v) : Q v H := h M H v Ext.refl em r
theorem Res.ext {r : Out α} {M' : Ma} {H' : Hp} {Q : β → Hp → Prop} (h : Res P R M H r Q Z) (e : Ext M H M' H') : Res P R M' H' r Q Z := by
  cases r with
  | ok d S' => exact fun M2 H2 v e2 em rv => h M2 H2 v (e.trans e2) em rv
  | exc x S' => exact fun M2 H2 e2 em => h M2 H2 (e.trans e2) em
  | bad => exact h
theorem Res.okE {d : α} {S : Sto} {v : β} {M' : Ma} {H' : Hp} {Q : β → Hp → Prop} (h : Res P R M H (.ok d S) Q Z) (e : Ext M H M' H') (em : P.Emb M' H' S) (r : R M' H' d v) : Q v H' := h M' H' v e em r
end
/-- an optional whole number -/
def Ro? : Ma → Hp → Option Int → Option Int → Prop := fun _ _ d v => v = d
abbrev PE' := TE
section
variable (P : Pg) (G : Calls) (Z : ZX)
def tE (m : E) : TE := fun σ H Q => ∃ M S ρ, P.Emb M H S ∧ Renv M H ρ σ ∧ Res P Rv M H (ev G P.gi m ρ S) Q Z
def tEs (ms : List E) : TA := fun σ H Q => ∃ M S ρ, P.Emb M H S ∧ Renv M H ρ σ ∧ Res P Rvs M H (evs G P.gi ms ρ S) Q Z
def tEo (m : Option E) : TO := fun σ H Q => ∃ M S ρ, P.Emb M H S ∧ Renv M H ρ σ ∧ Res P Ro? M H (evo G P.gi m ρ S) Q Z
def tT (m : E) : TT := fun σ H Q => tE P G Z m σ H fun v H' => ∃ b, v = .bl b ∧ Q b H'
end
theorem PE.imp {X : Cx} {e : Expr} {t t' : TE} (h : PE X e t) (i : ∀ σ H Q, t' σ H Q → t σ H Q) : PE X e t' := ⟨fun pins s σ H Q I q => h.run pins s σ H Q I (i σ H Q q)⟩
theorem PT.imp {X : Cx} {e : Expr} {t t' : TT} (h : PT X e t) (i : ∀ σ H Q, t' σ H Q → t σ H Q) : PT X e t' := ⟨fun pins s σ H Q I q => h.run pins s σ H Q I (i σ H Q q)⟩
theorem PA.imp {X : Cx} {e : List Expr} {t t' : TA} (h : PA X e t) (i : ∀ σ H Q, t' σ H Q → t σ H Q) : PA X e t' := ⟨fun pos pins s σ H Q I q => h.run pos pins s σ H Q I (i σ H Q q)⟩
theorem PO.imp {X : Cx} {e : Option Expr} {t t' : TO} (h : PO X e t) (i : ∀ σ H Q, t' σ H Q → t σ H Q) : PO X e t' := ⟨fun pins s σ H Q I q => h.run pins s σ H Q I (i σ H Q q)⟩
theorem PS.imp {X : Cx} {e : Stmt} {t t' : TS} (h : PS X e t) (i : ∀ D σ H, t' D σ H → t D σ H) : PS X e t' := ⟨fun pins s σ H D I q => h.run pins s σ H D I (i D σ H q)⟩
theorem PSs.imp {X : Cx} {e : List Stmt} {t t' : TS} (h : PSs X e t) (i : ∀ D σ H, t' D σ H → t D σ H) : PSs X e t' := ⟨fun pins s σ H D I q => h.run pins s σ H D I (i D σ H q)⟩
/-! ### an operation by values: what it asks, as an outcome -/
/-- one value -/
def r1 (P : Pg) (Z : ZX) (f : D → Sto → Out D) : V → Hp → VK → Prop := fun x H Q => ∃ M S d, P.Emb M H S ∧ Rv M H d x ∧ Res P Rv M H (f d S) Q Z
def r2 (P : Pg) (Z : ZX) (f : D → D → Sto → Out D) : R2 := fun x y H Q => ∃ M S d e, P.Emb M H S ∧ Rv M H d x ∧ Rv M H e y ∧ Res P Rv M H (f d e S) Q Z
def rs (P : Pg) (Z : ZX) (f : List D → Sto → Out D) : List V → Hp → VK → Prop := fun xs H Q => ∃ M S ds, P.Emb M H S ∧ Rvs M H ds xs ∧ Res P Rv M H (f ds S) Q Z
/-- a value known to be of the data d: the continuation -/
theorem Res.oret {P : Pg} {M : Ma} {H : Hp} {Z : ZX} {o : Option D} {S : Sto} {Q : VK} (h : Res P Rv M H (PL.oret o S) Q Z) : ∃ d, o = some d ∧ Res P Rv M H (.ok d S) Q Z := by
  cases o with
  | none => exact h.elim
  | some d => exact ⟨d, rfl, h⟩
/-- a new list, by value or as an object -/
theorem Res.alloc {P : Pg} {M : Ma} {H : Hp} {Z : ZX} {r : Bool} {xs : List D} {S : Sto} {Q : VK} (h : Res P Rv M H (allocL r xs S) Q Z) :
    xs.length ≤ lim ∧ ∀ M' H' p vs, Ext M H M' H' → P.Emb M' H' S → Rvs M' H' xs vs → H' p = none → Q (.ref p) (upd H' p (.lst vs)) := by
  unfold allocL at h
  by_cases hl : xs.length ≤ lim
  · rw [if_pos hl] at h
    refine ⟨hl, fun M' H' p vs e em rv hp => ?_⟩
    cases r with
    | true =>
      rw [if_pos rfl] at h
      have e2 : Ext M' H' (M'.push p) (upd H' p (.lst vs)) := Ext.allocM hp
      refine h (M'.push p) _ _ (e.trans e2) (em.allocM hp ⟨vs, upd_same, rv.mono e2⟩) ?_
      refine .ref ?_
      rw [← em.len]
      show (M'.n ++ [p])[M'.n.length]? = some p
      simp
    | false =>
      rw [if_neg (by decide)] at h
      have e2 : Ext M' H' M' (upd H' p (.lst vs)) := Ext.alloc hp
      exact h M' _ _ (e.trans e2) (em.alloc hp) (.lst upd_same (em.no hp) (rv.mono e2))
  · rw [if_neg hl] at h
    exact h.elim
theorem lim_eq : lim = sizeLine := by decide
/-- a new tuple -/
theorem Res.tuple {P : Pg} {M : Ma} {H : Hp} {Z : ZX} {xs : List D} {S : Sto} {Q : VK} (h : Res P Rv M H (.ok (.tuple xs) S) Q Z) {M' : Ma} {H' : Hp} {p : Addr} {vs : List V} {o : Obj} (e : Ext M H M' H') (em : P.Emb M' H' S) (rv : Rvs M' H' xs vs) (hp : H' p = none) (ho : o.dict = none) :
    Q (.ref p) (upd H' p (.frz o (.tup vs))) := by
  have e2 : Ext M' H' M' (upd H' p (.frz o (.tup vs))) := Ext.alloc hp
  exact h M' _ _ (e.trans e2) (em.alloc hp) (.tup (TupF.new ho) (em.no hp) (rv.mono e2))
/-- the object of a new tuple -/
def tupO (its : List Value) : Obj := { cls := .type "tuple", data := .seq its.toArray }
theorem newTup {X : Cx} {pins : List (Addr × Obj)} {s : Shared} {σ : L2.St} {H : Hp} {vs : List V} {its : List Value} {t' : Nat} (I : L2.Inv X pins σ H s) (r : Vals vs its) (hz : vs.length ≤ sizeLine) :
    L2.Inv X pins σ (upd H s.heap.objs.size (.frz (tupO its) (.tup vs))) { s with heap := s.heap.push (tupO its), toks := t' } :=
  I.laid (fun _ _ e => Heap.get?_push_of_some _ e) (Nat.le_refl _) ⟨Heap.get?_push_size _ rfl, hz, its, r, ⟨_, Heap.get?_push_size _ rfl, rfl, _, rfl⟩⟩
end PL
end

section
set_option Elab.async false
set_option linter.all false
set_option maxRecDepth 100000
set_option maxHeartbeats 1000000
/-! PLD: operators, comparisons, subscripts by values. -/
namespace PL
open PySem PySem.Spec PyProof.Rows L2
theorem tuple_mulOne (l : Addr) (items : Array Value) (n : Nat) (dd : Option Addr) (sl : Array (Option Value)) (k : Int) (u : Tok) (c0 : (decide (k < -(2 ^ 63)) || decide (k ≥ 2 ^ 63)) = false) (c1 : (items.isEmpty || k == 1) = true) :
    Meets (Builtin.«tuple.__mul__» ⟨[.ref l, .int k u], []⟩) (fun _ R s => s.heap.get? l = some { cls := .type "tuple", dict := dd, data := .seq items n, slots := sl } ∧ R (.ok (.ret (Value.ref l))) s) :=
  .of_wp fun prog w A R s h => by
    obtain ⟨hp, g, d, tk, os⟩ := s
    obtain ⟨hl, h⟩ := h
    have f1 := AutoSeq1.idx_int
    wp_walk using wpAny_loadPart' hl
    repeat (first
      | (refine wpAny_ite_false (decide_eq_false (by rw [c0]; exact Bool.false_ne_true)) ?_; wp_walk using wpAny_loadPart' hl)
      | (refine wpAny_ite_true (decide_eq_true c1) ?_; wp_walk using wpAny_loadPart' hl))
    exact ⟨_, rfl, h⟩
theorem op_repOne {X : Cx} : OpR X (binaryOp .Mult) (fun x y H Q => ∃ l k xs, x = .ref l ∧ y = .int k ∧ SqT X.K H l xs ∧ 0 ≤ k ∧ k ≤ 1000 ∧ (xs = [] ∨ k = 1) ∧ Q (.ref l) H) := by
  intro pins s σ H x y v u Q I rx ry h
  obtain ⟨l, k, xs, rfl, rfl, hT, h0, h1, hk, q⟩ := h
  cases rx
  obtain ⟨t, rfl⟩ := ry
  obtain ⟨its, r, ⟨⟨cls, dd, data, sl⟩, ho, hc, n, hd⟩, hs⟩ := I.tuple hT
  simp only at hc hd
  subst hc hd
  have c0 : (decide (k < -(2 ^ 63)) || decide (k ≥ 2 ^ 63)) = false := by
    rw [decide_eq_false (by omega), decide_eq_false (by omega)] <;> rfl
  have c1 : (its.toArray.isEmpty || k == 1) = true := by
    rcases hk with z | z
    · subst z
      cases r
      rfl
    · subst z
      simp
  refine wpAny_binaryOp_repeat_ref (T := "tuple") (U := "int") (by decide) ⟨_, ho, rfl⟩ (fun s' => typeIs_int s' k t) noFill_tuple_mul F.fills_int_mul F.slot_int_rmul repeat_tuple F.slot_int_index.lookup
    (call_meets F.slot_int_rmul (typeIs_int s k t) F.entry_int_rmul (F.args_int_rmul_2 _ _) (int_rmul_tuple k t l its.toArray n dd sl)
      ⟨ho, rfl, ⟨_, ho, rfl⟩, call_meets F.slot_tuple_mul ⟨_, ho, rfl⟩ F.entry_tuple_mul (F.args_tuple_mul_2 _ _) (tuple_mulOne l its.toArray n dd sl k t c0 c1) ⟨ho, ?_⟩⟩)
  exact ⟨.ref l, H, I, rfl, q⟩
theorem tuple_mul0 (l : Addr) (items : Array Value) (n : Nat) (dd : Option Addr) (sl : Array (Option Value)) (u : Tok) (ne : items.isEmpty = false) :
    Meets (Builtin.«tuple.__mul__» ⟨[.ref l, .int 0 u], []⟩) (fun _ R s => s.heap.get? l = some { cls := .type "tuple", dict := dd, data := .seq items n, slots := sl } ∧
      R (.ok (.ret (Value.ref s.heap.objs.size))) { s with heap := s.heap.push { cls := Value.type "tuple", data := Data.seq #[] }, toks := s.toks }) :=
  .of_wp fun prog w A R s h => by
    obtain ⟨hp, g, d, tk, os⟩ := s
    obtain ⟨hl, h⟩ := h
    have f1 := AutoSeq1.idx_int
    have c0 : (decide ((0 : Int) < -(2 ^ 63)) || decide ((0 : Int) ≥ 2 ^ 63)) = false := by decide
    have c1 : (items.isEmpty || (0 : Int) == 1) = false := by simp [ne]
    have c2 : (decide ((0 : Int) ≤ 0) || items.isEmpty) = true := by simp
    wp_walk using wpAny_loadPart' hl
    repeat (first
      | (refine wpAny_ite_false (decide_eq_false (by rw [c0]; exact Bool.false_ne_true)) ?_; wp_walk using wpAny_loadPart' hl)
      | (refine wpAny_ite_false (decide_eq_false (by rw [c1]; exact Bool.false_ne_true)) ?_; wp_walk using wpAny_loadPart' hl)
      | (refine wpAny_ite_true (decide_eq_true c2) ?_; wp_walk using wpAny_loadPart' hl)
      | (refine wpAny_ite_false (decide_eq_false (by decide)) ?_; wp_walk using wpAny_loadPart' hl))
    exact ⟨_, rfl, h⟩
/-! ### new tuples, their objects known -/
section
variable {X : Cx}
theorem op_catF : OpR X (binaryOp .Add) (fun x y H Q => ∃ a b xs ys, x = .ref a ∧ y = .ref b ∧ SqT X.K H a xs ∧ SqT X.K H b ys ∧ xs.length + ys.length ≤ sizeLine ∧
    (xs = [] → Q (.ref b) H) ∧ (xs ≠ [] → ys = [] → Q (.ref a) H) ∧ (xs ≠ [] → ys ≠ [] → ∀ p o, H p = none → o.dict = none → Q (.ref p) (upd H p (.frz o (.tup (xs ++ ys)))))) := by
  intro pins s σ H x y v u Q I rx ry h
  obtain ⟨a, b, xs, ys, rfl, rfl, ha, hb, hz, q0, q1, q2⟩ := h
  cases rx
  cases ry
  obtain ⟨its, r1, p1, _⟩ := I.tuple ha
  obtain ⟨its2, r2, p2, _⟩ := I.tuple hb
  by_cases hx : xs = []
  · subst hx
    cases r1
    exact cat_tup0 p1 p2 ⟨.ref b, H, I, rfl, q0 rfl⟩
  · refine HT.cat_tup p1 p2 (fun z => hx (r1.nil_iff.mp z)) (fun z => ⟨.ref a, H, I, rfl, q1 hx (r2.nil_iff.mp z)⟩) (fun z => ?_) (by rw [← r1.length, ← r2.length]; exact hz)
    exact ⟨.ref s.heap.objs.size, _, newTup (t' := s.toks) I (r1.append r2) (by rw [List.length_append]; exact hz), rfl, q2 hx (fun w => z (r2.nil_iff.mpr w)) _ _ (I.hok.fresh (Nat.le_refl _)) rfl⟩
theorem sl_tupF : SlR X (fun x lo hi H Q => ∃ a xs, x = .ref a ∧ SqT X.K H a xs ∧
    (HT.sIx xs.length 0 lo = 0 ∧ HT.sIx xs.length xs.length hi = xs.length → Q (.ref a) H) ∧ (∀ p o, H p = none → o.dict = none → Q (.ref p) (upd H p (.frz o (.tup (cutV xs lo hi)))))) := by
  intro pins s σ H x v vl vu lo hi sl Q I rx hs pl pu h
  obtain ⟨a, xs, rfl, hx, q1, q2⟩ := h
  cases rx
  obtain ⟨its, r, ht, hz⟩ := I.tuple hx
  have hlen : its.toArray.size = xs.length := by rw [List.size_toArray]; exact r.length.symm
  refine ⟨"tuple", _, PyProof.Rows.slot_tuple_getitem.lookup, ht.typeIs, ?_⟩
  by_cases hw : HT.sIx xs.length 0 lo = 0 ∧ HT.sIx xs.length xs.length hi = xs.length
  · exact getItem_tuple_whole ht hs pl pu (by rw [hlen]; exact hw) ⟨.ref a, H, I, rfl, q1 hw⟩
  · refine HT.getItem_tuple_cut ht hs pl pu (by rw [hlen]; exact hw) ?_ (by rw [hlen]; exact hz)
    rw [hlen]
    exact ⟨.ref s.heap.objs.size, _, newTup (t' := s.toks) I ((r.drop (HT.sIx xs.length 0 lo)).take (HT.sIx xs.length xs.length hi - HT.sIx xs.length 0 lo)) (Nat.le_trans (cutV_length xs lo hi) hz), rfl, q2 _ _ (I.hok.fresh (Nat.le_refl _)) rfl⟩
theorem tuple_ofF : CallR X (.type "tuple") (fun xs H Q => ∃ p ys, xs = [.ref p] ∧ ((SqL X.K H p ys ∧ ∀ l o, H l = none → o.dict = none → Q (.ref l) (upd H l (.frz o (.tup ys)))) ∨ (SqT X.K H p ys ∧ Q (.ref p) H))) := by
  intro pins s σ H xs us Q I r h
  obtain ⟨p, ys, rfl, h⟩ := h
  obtain ⟨u, rfl, rx⟩ := vals1 r
  cases rx
  rcases h with ⟨hq, q⟩ | ⟨hq, q⟩
  · obtain ⟨its, r', pl, hz⟩ := I.list hq
    have hlen := r'.length
    refine call_tuple_list pl.isList (fun h' kp => ?_) (by simp only [List.size_toArray] <;> omega)
    have I1 : L2.Inv X pins σ H { s with heap := h' } := I.kept (t' := s.toks) kp
    exact ⟨.ref h'.objs.size, _, newTup (t' := s.toks) I1 r' hz, rfl, q _ _ (I1.hok.fresh (Nat.le_refl _)) rfl⟩
  · obtain ⟨its, r', pl, hz⟩ := I.tuple hq
    exact call_tuple_same pl ⟨.ref p, H, I, rfl, q⟩
theorem divmodF : CallR X (.builtin "divmod") (fun xs H Q => ∃ i j, xs = [.int i, .int j] ∧ CDiv i j ∧ ∀ p o, H p = none → o.dict = none → Q (.ref p) (upd H p (.frz o (.tup [.int (i / j), .int (i % j)])))) := by
  intro pins s σ H xs us Q I r h
  obtain ⟨i, j, rfl, ⟨h1, h2⟩, q⟩ := h
  obtain ⟨u, w', rfl, ⟨t, rfl⟩, ⟨t', rfl⟩⟩ := vals2 r
  refine divmod_int (by omega) ?_ (.inl (PyProof.noPylong_small (by omega)))
  rw [Int.fdiv_eq_ediv_of_nonneg i (by omega), Int.fmod_eq_emod_of_nonneg i (by omega)]
  have hn : H s.heap.objs.size = none := I.hok.fresh (Nat.le_refl _)
  exact ⟨.ref s.heap.objs.size, _, newTup I (vs := [.int (i / j), .int (i % j)]) (its := [.int (i / j) s.toks, .int (i % j) (s.toks + 1)]) (.cons ⟨_, rfl⟩ (.cons ⟨_, rfl⟩ .nil)) (by simp only [List.length_cons, List.length_nil]; rw [sizeLine_eq]; decide), rfl, q _ _ hn rfl⟩
theorem op_rep0 : OpR X (binaryOp .Mult) (fun x y H Q => ∃ l xs, x = .ref l ∧ y = .int 0 ∧ SqT X.K H l xs ∧ xs ≠ [] ∧ ∀ p o, H p = none → o.dict = none → Q (.ref p) (upd H p (.frz o (.tup [])))) := by
  intro pins s σ H x y v u Q I rx ry h
  obtain ⟨l, xs, rfl, rfl, hT, hne, q⟩ := h
  cases rx
  obtain ⟨t, rfl⟩ := ry
  obtain ⟨its, r, ⟨⟨cls, dd, data, sl⟩, ho, hc, n, hd⟩, hs⟩ := I.tuple hT
  simp only at hc hd
  subst hc hd
  have hle : its.length = xs.length := r.length.symm
  have hn : its ≠ [] := fun e => hne (by
    rw [e] at hle
    exact List.eq_nil_of_length_eq_zero hle.symm)
  have hi : its.toArray.isEmpty = false := by
    cases its with
    | nil => exact absurd rfl hn
    | cons a b => rfl
  refine wpAny_binaryOp_repeat_ref (T := "tuple") (U := "int") (by decide) ⟨_, ho, rfl⟩ (fun s' => typeIs_int s' 0 t) noFill_tuple_mul F.fills_int_mul F.slot_int_rmul repeat_tuple F.slot_int_index.lookup
    (call_meets F.slot_int_rmul (typeIs_int s 0 t) F.entry_int_rmul (F.args_int_rmul_2 _ _) (int_rmul_tuple 0 t l its.toArray n dd sl)
      ⟨ho, rfl, ⟨_, ho, rfl⟩, call_meets F.slot_tuple_mul ⟨_, ho, rfl⟩ F.entry_tuple_mul (F.args_tuple_mul_2 _ _) (tuple_mul0 l its.toArray n dd sl t hi) ⟨ho, ?_⟩⟩)
  exact ⟨.ref s.heap.objs.size, _, newTup (t' := s.toks) (its := []) I .nil (Nat.zero_le _), rfl, q _ _ (I.hok.fresh (Nat.le_refl _)) rfl⟩
theorem op_repF : OpR X (binaryOp .Mult) (fun x y H Q => ∃ l k xs, x = .ref l ∧ y = .int k ∧ SqT X.K H l xs ∧ xs ≠ [] ∧ 2 ≤ k ∧ k ≤ 1000 ∧ xs.length ≤ 1000 ∧ ∀ p o, H p = none → o.dict = none → Q (.ref p) (upd H p (.frz o (.tup (List.replicate k.toNat xs).flatten)))) := by
  intro pins s σ H x y v u Q I rx ry h
  obtain ⟨l, k, xs, rfl, rfl, hT, hne, h1, h2, hz, q⟩ := h
  cases rx
  obtain ⟨t, rfl⟩ := ry
  obtain ⟨its, r, ⟨⟨cls, dd, data, sl⟩, ho, hc, n, hd⟩, hs⟩ := I.tuple hT
  simp only at hc hd
  subst hc hd
  have hle : its.length = xs.length := r.length.symm
  have hn : its ≠ [] := fun e => hne (by
    rw [e] at hle
    exact List.eq_nil_of_length_eq_zero hle.symm)
  have hi : its.toArray.isEmpty = false := by
    cases its with
    | nil => exact absurd rfl hn
    | cons a b => rfl
  have hsz0 : its.toArray.size = xs.length := by rw [List.size_toArray, hle]
  have hm : ((its.toArray.size : Nat) : Int) * k ≤ 1000000 := by
    rw [hsz0]
    have a1 : ((xs.length : Nat) : Int) * k ≤ 1000 * k := Int.mul_le_mul_of_nonneg_right (by omega) (by omega)
    omega
  have fl : k.toNat * xs.length ≤ 1000 * 1000 := Nat.mul_le_mul (by omega) hz
  have flen : (List.replicate k.toNat its).flatten.length ≤ sizeLine := by
    rw [PyProof.Rows.lm_len_rep_flat, hle, sizeLine_eq]
    omega
  have c0 : (decide (k < -(2 ^ 63)) || decide (k ≥ 2 ^ 63)) = false := by
    rw [decide_eq_false (by omega), decide_eq_false (by omega)] <;> rfl
  have c1 : (its.toArray.isEmpty || k == 1) = false := by
    rw [hi, Bool.false_or]
    exact beq_eq_false_iff_ne.mpr (by omega)
  have c2 : (decide (k ≤ 0) || its.toArray.isEmpty) = false := by
    rw [hi, Bool.or_false]
    exact decide_eq_false (by omega)
  have c4 : Builtin.Tuple.tupleTooMany (((its.toArray.size : Nat) : Int) * k) = false := by
    unfold Builtin.Tuple.tupleTooMany
    rw [sizeLine_eq]
    exact decide_eq_false (by omega)
  refine wpAny_binaryOp_repeat_ref (T := "tuple") (U := "int") (by decide) ⟨_, ho, rfl⟩ (fun s' => typeIs_int s' k t) noFill_tuple_mul F.fills_int_mul F.slot_int_rmul repeat_tuple F.slot_int_index.lookup
    (call_meets F.slot_int_rmul (typeIs_int s k t) F.entry_int_rmul (F.args_int_rmul_2 _ _) (int_rmul_tuple k t l its.toArray n dd sl)
      ⟨ho, rfl, ⟨_, ho, rfl⟩, call_meets F.slot_tuple_mul ⟨_, ho, rfl⟩ F.entry_tuple_mul (F.args_tuple_mul_2 _ _) (tuple_mulW l its.toArray n dd sl k t c0 c1 c2 (by omega) c4 (by rw [size_rep, List.size_toArray]; exact flen)) ⟨ho, ?_⟩⟩)
  rw [size_rep]
  exact ⟨.ref s.heap.objs.size, _, newTup (t' := s.toks) I (r.rep k.toNat) (by rw [PyProof.Rows.lm_len_rep_flat, sizeLine_eq]; omega), rfl, q _ _ (I.hok.fresh (Nat.le_refl _)) rfl⟩
end
/-! ### a < b where the first difference decides; the items behind it are not asked -/
open SeqAt in
theorem tuple_ltF (l b : Addr) (items items2 : Array Value) (n n2 : Nat) (dd dd2 : Option Addr) (sl sl2 : Array (Option Value)) (e r : Nat → Bool) :
    Meets (Builtin.«tuple.__lt__» ⟨[.ref l, .ref b], []⟩)
      (fun A R s => s.heap.get? l = some { cls := .type "tuple", dict := dd, data := .seq items n, slots := sl } ∧ s.heap.get? b = some { cls := .type "tuple", dict := dd2, data := .seq items2 n2, slots := sl2 } ∧
        (∀ (j : Nat) (h1 : j < items.size) (h2 : j < items2.size), (∀ i, i < j → e i = true) → EqAt A.in1 s items[j] items2[j] (e j)) ∧ (∀ (j : Nat) (h1 : j < items.size) (h2 : j < items2.size), (∀ i, i < j → e i = true) → e j = false → RcLt A.in1 s items[j] items2[j] (r j)) ∧
        R (.ok (.ret (.bool (firstLt e r (decide (items.size < items2.size)) (List.range (min items.size items2.size)))))) s) :=
  .of_wp fun prog w A R s h => by
    obtain ⟨hp0, g0, d0, tk0, os0⟩ := s; obtain ⟨hl, hb, hE, hR0, hfin⟩ := h
    have f2 := AutoSeq1.sub_tuple_tuple
    have hZ : (items.toList.zip items2.toList).length = min items.size items2.size := by simp
    wp_walk using wpAny_loadPart' hl, wpAny_loadPart' hb, wpAny_forIn_list _ (fun rest b s' => b.1 = none ∧ s' = ⟨hp0, g0, d0, tk0, os0⟩ ∧ ∃ i, rest = (items.toList.zip items2.toList).drop i ∧ (∀ m, m < i → e m = true) ∧
      R (.ok (.ret (.bool (firstLt e r (decide (items.size < items2.size)) ((List.range (min items.size items2.size)).drop i))))) ⟨hp0, g0, d0, tk0, os0⟩) _
    case turn =>
      rintro ⟨y, x⟩ rest b s' ⟨hb', rfl, i, hz, hbef, hR⟩
      have hlt : i < (items.toList.zip items2.toList).length := by
        rcases Nat.lt_or_ge i (items.toList.zip items2.toList).length with q | q
        · exact q
        · rw [List.drop_of_length_le q] at hz; cases hz
      have hm : i < min items.size items2.size := hZ ▸ hlt
      have h1 : i < items.size := Nat.lt_of_lt_of_le hm (Nat.min_le_left _ _)
      have h2 : i < items2.size := Nat.lt_of_lt_of_le hm (Nat.min_le_right _ _)
      rw [List.drop_eq_getElem_cons hlt] at hz
      injection hz with hyx hrest
      have hy : y = items[i] := by have := congrArg Prod.fst hyx; simpa using this
      have hx : x = items2[i] := by have := congrArg Prod.snd hyx; simpa using this
      subst hy hx
      have hd : (List.range (min items.size items2.size)).drop i = i :: (List.range (min items.size items2.size)).drop (i + 1) := by simp [List.drop_eq_getElem_cons, hm]
      rw [hd] at hR
      refine wpAny_bind (hE i h1 h2 hbef prog w _ _ ?_)
      cases hy : e i with
      | true =>
        rw [firstLt_yes hy] at hR
        wp_walk
        refine ⟨rfl, rfl, i + 1, hrest, fun m hm' => ?_, hR⟩
        rcases Nat.lt_succ_iff_lt_or_eq.mp hm' with q | q
        · exact hbef m q
        · rw [q]; exact hy
      | false =>
        rw [firstLt_no hy] at hR
        have hq : ∀ (E : Value → Shared → Prop) (Q : Value → Shared → Prop), Q (.bool (r i)) ⟨hp0, g0, d0, tk0, os0⟩ → wpAny (model prog w) A.in1 (PySem.richCompare .Lt items[i] items2[i]) Q E ⟨hp0, g0, d0, tk0, os0⟩ := fun E Q z => hR0 i h1 h2 hbef hy prog w E Q z
        clear hR0 hE
        generalize PySem.richCompare .Lt items[i] items2[i] = rc at hq ⊢
        wp_walk
        refine hq _ _ ?_
        wp_walk
        exact ⟨_, rfl, hR⟩
    case fin =>
      rintro ⟨b1, b2⟩ s' ⟨hb', rfl, i, hz, hbef, hR⟩
      simp only at hb'
      subst hb'
      have hge : min items.size items2.size ≤ i := by
        rcases Nat.lt_or_ge i (items.toList.zip items2.toList).length with q | q
        · rw [List.drop_eq_getElem_cons q] at hz; cases hz
        · exact hZ ▸ q
      rw [List.drop_of_length_le (by simpa using hge)] at hR
      wp_walk
      exact ⟨_, rfl, by simpa [Builtin.Tuple.tupleCompareSizes, firstLt] using hR⟩
    case h =>
      exact ⟨rfl, rfl, 0, rfl, (fun m z => absurd z (Nat.not_lt_zero _)), by simpa using hfin⟩
open SeqAt in
theorem rcLt_tupF {A : Around} {s : Shared} {l b : Addr} {items items2 : Array Value} {e r : Nat → Bool} (hl : s.heap.IsTuple l items) (hb : s.heap.IsTuple b items2) (hu : A.units < cLine)
    (he : ∀ (j : Nat) (h1 : j < items.size) (h2 : j < items2.size), (∀ i, i < j → e i = true) → EqAt A.in1 s items[j] items2[j] (e j)) (hr : ∀ (j : Nat) (h1 : j < items.size) (h2 : j < items2.size), (∀ i, i < j → e i = true) → e j = false → RcLt A.in1 s items[j] items2[j] (r j)) :
    RcLt A s (.ref l) (.ref b) (firstLt e r (decide (items.size < items2.size)) (List.range (min items.size items2.size))) := fun prog w E Q h => by
  obtain ⟨⟨c1, dd, data, sl⟩, ho, hc, n, hd⟩ := id hl
  obtain ⟨⟨c2, dd2, data2, sl2⟩, ho2, hc2, n2, hd2⟩ := id hb
  simp only at hc hd hc2 hd2
  subst hc hd hc2 hd2
  exact richCompare_meets_room (op := .Lt) ⟨_, ho, rfl⟩ ⟨_, ho2, rfl⟩ F.slot_tuple_lt F.entry_tuple_lt (F.args_tuple_lt_2 _ _) (tuple_ltF l b items items2 n n2 dd dd2 sl sl2 e r)
    ⟨ho, ho2, he, hr, (fun x => nomatch x), h⟩ hu
section
variable {P : Pg} {Γ : Ga} {X : Cx} {Z : ZX}
theorem ifn {α : Type} {c : Prop} [Decidable c] {x : Option α} {y : α} (h : (if c then x else none) = some y) : c ∧ x = some y := by
  split at h
  · exact ⟨‹_›, h⟩
  · cases h
theorem big_eq : bigD = 2 ^ 64 := by decide
theorem o_int2 {f : Value → Value → Sem Value} {g : Int → Int → Option D} {r : R2} (h : OpR X f r)
    (i : ∀ (i j : Int) (w : D) (M : Ma) (H : Hp) (Q : VK), g i j = some w → (∀ v, Rv M H w v → Q v H) → r (.int i) (.int j) H Q) :
    OpR X f (r2 P Z fun x y S => oret (int2 g x y) S) := by
  intro pins s σ H x y v u Q I rx ry ⟨M, S, d, e, em, rd, re, h'⟩
  obtain ⟨w, ho, hk⟩ := h'.oret
  unfold int2 at ho
  split at ho
  · cases rd
    cases re
    exact h pins s σ H _ _ v u Q I rx ry (i _ _ w M H Q ho fun v r => hk.ok em r)
  · cases ho
theorem o_add : OpR X (binaryOp .Add) (r2 P Z fun x y S => oret (opD S .add x y) S) := by
  intro pins s σ H x y v u Q I rx ry ⟨M, S, d, e, em, rd, re, h⟩
  obtain ⟨w, ho, hk⟩ := h.oret
  change addD S d e = some w at ho
  unfold addD at ho
  split at ho
  · cases ho
    cases rd
    cases re
    exact op_add pins s σ H _ _ v u Q I rx ry ⟨_, _, rfl, rfl, hk.ok em (.int _)⟩
  · obtain ⟨c, ho⟩ := ifn ho
    cases ho
    cases rd
    cases re
    exact op_add_str pins s σ H _ _ v u Q I rx ry ⟨_, _, rfl, rfl, c, hk.ok em (.str _)⟩
  · obtain ⟨c, ho⟩ := ifn ho
    cases ho
    obtain ⟨a, vs, rfl, h1, n1, q1⟩ := rd.tupI
    obtain ⟨b, ws, rfl, h2, n2, q2⟩ := re.tupI
    refine op_catF pins s σ H _ _ v u Q I rx ry ⟨a, b, vs, ws, rfl, rfl, h1.sq, h2.sq, by rw [← q1.length, ← q2.length]; exact c, fun z => ?_, fun z1 z2 => ?_, fun z1 z2 p o hp ho => ?_⟩
    · subst z
      have l := List.eq_nil_of_length_eq_zero (q1.length.trans rfl)
      subst l
      exact hk.ok em re
    · subst z2
      have l := List.eq_nil_of_length_eq_zero (q2.length.trans rfl)
      subst l
      rw [List.append_nil] at hk
      exact hk.ok em rd
    · exact hk.tuple Ext.refl em (q1.append q2) hp ho
  · split at ho
    · rename_i xs ys e1 e2
      obtain ⟨c, ho⟩ := ifn ho
      cases ho
      obtain ⟨a, vs, rfl, h1, q1⟩ := em.lst e1 rd
      obtain ⟨b, ws, rfl, h2, q2⟩ := em.lst e2 re
      refine op_cat pins s σ H _ _ v u Q I rx ry ⟨a, b, vs, ws, rfl, rfl, h1, h2, by rw [← q1.length, ← q2.length]; exact c, fun p hp => ?_⟩
      have x := Ext.alloc (M := M) (o := .lst (vs ++ ws)) hp
      exact hk.okE x (em.alloc hp) (.lst upd_same (em.no hp) ((q1.append q2).mono x))
    · cases ho
theorem o_cat : OpR X (binaryOp .Add) (r2 P Z fun x y S => catO S x y) := by
  intro pins s σ H x y v u Q I rx ry ⟨M, S, d, e, em, rd, re, h⟩
  replace h : Res P Rv M H (catO S d e) Q Z := h
  unfold catO at h
  split at h
  · rename_i xs ys e1 e2
    obtain ⟨c, k⟩ := h.alloc
    obtain ⟨a, vs, rfl, h1, q1⟩ := em.lst e1 rd
    obtain ⟨b, ws, rfl, h2, q2⟩ := em.lst e2 re
    rw [List.length_append] at c
    exact op_cat pins s σ H _ _ v u Q I rx ry ⟨a, b, vs, ws, rfl, rfl, h1, h2, by rw [← q1.length, ← q2.length]; exact c, fun p hp => k M H p _ Ext.refl em (q1.append q2) hp⟩
  · exact h.elim
theorem o_rep : OpR X (binaryOp .Mult) (r2 P Z fun x y S => repO S x y) := by
  intro pins s σ H x y v u Q I rx ry ⟨M, S, d, e, em, rd, re, h⟩
  replace h : Res P Rv M H (repO S d e) Q Z := h
  unfold repO at h
  split at h
  · rename_i xs k e1
    split at h
    · rename_i c
      obtain ⟨c1, c2, c3⟩ := c
      obtain ⟨c4, kk⟩ := h.alloc
      obtain ⟨a, vs, rfl, h1, q1⟩ := em.lst e1 rd
      cases re
      refine op_rep pins s σ H _ _ v u Q I rx ry ⟨a, k, vs, rfl, rfl, h1, by omega, by omega, ?_, fun p hp => kk M H p _ Ext.refl em (q1.flatten_rep _) hp⟩
      rw [← q1.length, sizeLine_eq]
      have : xs.length * k.toNat ≤ 1000 * 1000 := Nat.mul_le_mul c3 (by omega)
      omega
    · exact h.elim
  · exact h.elim
theorem o_sub : OpR X (binaryOp .Sub) (r2 P Z fun x y S => oret (opD S .sub x y) S) :=
  o_int2 op_sub fun i j w M H Q e k => by cases e; exact ⟨i, j, rfl, rfl, k _ (.int _)⟩
theorem o_fdiv : OpR X (binaryOp .FloorDiv) (r2 P Z fun x y S => oret (opD S .fdiv x y) S) :=
  o_int2 op_fdiv fun i j w M H Q e k => by
    obtain ⟨c, e⟩ := ifn e
    cases e
    exact ⟨i, j, rfl, rfl, c, k _ (.int _)⟩
theorem o_mod : OpR X (binaryOp .Mod) (r2 P Z fun x y S => oret (opD S .mod x y) S) :=
  o_int2 op_mod fun i j w M H Q e k => by
    obtain ⟨c, e⟩ := ifn e
    cases e
    exact ⟨i, j, rfl, rfl, c, k _ (.int _)⟩
theorem o_pow : OpR X (binaryOp .Pow) (r2 P Z fun x y S => oret (opD S .pow x y) S) :=
  o_int2 op_pow fun i j w M H Q e k => by
    obtain ⟨c, e⟩ := ifn e
    cases e
    refine ⟨i, j, rfl, rfl, ?_, k _ (.int _)⟩
    obtain ⟨c1, c2, c3, c4⟩ := c
    rw [big_eq] at c3 c4
    exact ⟨c1, by omega, by omega⟩
theorem o_mul : OpR X (binaryOp .Mult) (r2 P Z fun x y S => oret (opD S .mul x y) S) := by
  intro pins s σ H x y v u Q I rx ry ⟨M, S, d, e, em, rd, re, h⟩
  obtain ⟨w, ho, hk⟩ := h.oret
  change mulD d e = some w at ho
  unfold mulD at ho
  split at ho
  · obtain ⟨c, ho⟩ := ifn ho
    cases ho
    cases rd
    cases re
    rw [big_eq] at c
    exact op_mul pins s σ H _ _ v u Q I rx ry ⟨_, _, rfl, rfl, .inl c, hk.ok em (.int _)⟩
  · obtain ⟨⟨c1, c2, c3⟩, ho⟩ := ifn ho
    cases ho
    obtain ⟨a, vs, rfl, h1, n1, q1⟩ := rd.tupI
    cases re
    rename_i xs k
    have hv : vs = [] → xs = [] := fun z => by
      subst z
      exact List.eq_nil_of_length_eq_zero (q1.length.trans rfl)
    by_cases hk1 : vs = [] ∨ k = 1
    · refine op_repOne pins s σ H _ _ v u Q I rx ry ⟨a, k, vs, rfl, rfl, h1.sq, c1, c2, hk1, ?_⟩
      have e : (List.replicate k.toNat xs).flatten = xs := by
        rcases hk1 with z | z
        · rw [hv z]
          simp
        · subst z
          simp
      rw [e] at hk
      exact hk.ok em rd
    · by_cases hk0 : k = 0
      · subst hk0
        refine op_rep0 pins s σ H _ _ v u Q I rx ry ⟨a, vs, rfl, rfl, h1.sq, fun z => hk1 (.inl z), fun p o hp ho => ?_⟩
        exact hk.tuple Ext.refl em .nil hp ho
      · refine op_repF pins s σ H _ _ v u Q I rx ry ⟨a, k, vs, rfl, rfl, h1.sq, fun z => hk1 (.inl z), by omega, c2, by rw [← q1.length]; exact c3, fun p o hp ho => ?_⟩
        exact hk.tuple Ext.refl em (q1.flatten_rep _) hp ho
  · cases ho
def opOf : Op → Operator
  | .add => .Add
  | .sub => .Sub
  | .mul => .Mult
  | .fdiv => .FloorDiv
  | .mod => .Mod
  | .pow => .Pow
theorem o_op : ∀ o : Op, OpR X (binaryOp (opOf o)) (r2 P Z fun x y S => oret (opD S o x y) S)
  | .add => o_add
  | .sub => o_sub
  | .mul => o_mul
  | .fdiv => o_fdiv
  | .mod => o_mod
  | .pow => o_pow
/-! ### comparisons -/
theorem emb_reads {pins : List (Addr × Obj)} {s : Shared} {σ : L2.St} {H : Hp} {M : Ma} {S : Sto} {d : D} {x : V} {v : Value} (em : P.Emb M H S) (I : L2.Inv X pins σ H s) (rd : Rv M H d x) (rx : RelV x v) (p : eqOk (PL.val S d) = true) :
    ∃ as, Reads s.heap v (PL.val S d) as := Dp.reads I _ _ _ (PL.Emb.val em rd (by simp only [eqOk, Bool.and_eq_true] at p; exact p.1)) rx
theorem eqOk_dec {d : D} (h : eqOk d = true) : d.plain = true ∧ d.depth ≤ depthMax := by
  simp only [eqOk, Bool.and_eq_true, decide_eq_true_eq] at h
  exact h
theorem o_eq (F : Fit P Γ X) : OpR X (compareOp .Eq) (r2 P Z fun x y S => oret ((cmD S .eq x y).map .bool) S) := by
  intro pins s σ H x y v u Q I rx ry ⟨M, S, d, e, em, rd, re, h⟩
  obtain ⟨w, ho, hk⟩ := h.oret
  change (eqD S d e).map PyData.bool = some w at ho
  unfold eqD at ho
  split at ho
  · rename_i c
    cases ho
    rw [Bool.and_eq_true] at c
    obtain ⟨as, q1⟩ := emb_reads em I rd rx c.1
    obtain ⟨bs, q2⟩ := emb_reads em I re ry c.2
    have hu := F.units
    obtain ⟨p1, p2⟩ := eqOk_dec c.1
    exact SeqAt.eq_plain q1 q2 p1 (eqOk_dec c.2).1 (by unfold depthMax at p2; omega) ⟨.bl _, H, I, rfl, hk.ok em (.bl _)⟩
  · cases ho
theorem o_ne (F : Fit P Γ X) : OpR X (compareOp .NotEq) (r2 P Z fun x y S => oret ((cmD S .ne x y).map .bool) S) := by
  intro pins s σ H x y v u Q I rx ry ⟨M, S, d, e, em, rd, re, h⟩
  obtain ⟨w, ho, hk⟩ := h.oret
  change ((eqD S d e).map (!·)).map PyData.bool = some w at ho
  unfold eqD at ho
  split at ho
  · rename_i c
    cases ho
    rw [Bool.and_eq_true] at c
    obtain ⟨as, q1⟩ := emb_reads em I rd rx c.1
    obtain ⟨bs, q2⟩ := emb_reads em I re ry c.2
    have hu := F.units
    obtain ⟨p1, p2⟩ := eqOk_dec c.1
    exact SeqAt.ne_plain q1 q2 p1 (eqOk_dec c.2).1 (by unfold depthMax at p2; omega) ⟨.bl _, H, I, rfl, hk.ok em (.bl _)⟩
  · cases ho
/-! ### a < b -/
def eqP (xs ys : List D) (j : Nat) : Bool := PyData.eqv (xs.getD j .none) (ys.getD j .none)
def ltP (xs ys : List D) (j : Nat) : Bool := (ltD (xs.getD j .none) (ys.getD j .none)).getD false
theorem ltDs_cons {x y : D} {xs ys : List D} {k : Bool} (h : ltDs (x :: xs) (y :: ys) = some k) : eqOk x = true ∧ eqOk y = true ∧ ((PyData.eqv x y = true ∧ ltDs xs ys = some k) ∨ (PyData.eqv x y = false ∧ ltD x y = some k)) := by
  unfold ltDs at h
  split at h
  · rename_i c
    rw [Bool.and_eq_true] at c
    refine ⟨c.1, c.2, ?_⟩
    split at h
    · exact .inl ⟨‹_›, h⟩
    · rename_i e
      exact .inr ⟨by simpa using e, h⟩
  · cases h
theorem ltDs_first : ∀ (xs ys : List D) (i : Nat) (e r : Nat → Bool) (k : Bool), ltDs xs ys = some k → (∀ j, e (i + j) = eqP xs ys j) → (∀ j, r (i + j) = ltP xs ys j) →
    SeqAt.firstLt e r (decide (xs.length < ys.length)) (List.range' i (min xs.length ys.length)) = k
  | [], [], i, e, r, k, h, _, _ => by cases h; rfl
  | [], _ :: _, i, e, r, k, h, _, _ => by cases h; rfl
  | _ :: _, [], i, e, r, k, h, _, _ => by cases h; rfl
  | x :: xs, y :: ys, i, e, r, k, h, he, hr => by
    have hm : min (x :: xs).length (y :: ys).length = min xs.length ys.length + 1 := by simp only [List.length_cons]; omega
    rw [hm, List.range'_succ]
    have e0 : e i = PyData.eqv x y := he 0
    have r0 : r i = (ltD x y).getD false := hr 0
    obtain ⟨_, _, ⟨q, q2⟩ | ⟨q, q2⟩⟩ := ltDs_cons h
    · rw [SeqAt.firstLt_yes (e0.trans q)]
      have hd : decide ((x :: xs).length < (y :: ys).length) = decide (xs.length < ys.length) := by simp
      rw [hd]
      exact ltDs_first xs ys (i + 1) e r k q2 (fun j => by rw [show i + 1 + j = i + (j + 1) by omega]; exact he (j + 1)) (fun j => by rw [show i + 1 + j = i + (j + 1) by omega]; exact hr (j + 1))
    · rw [SeqAt.firstLt_no (e0.trans q), r0, q2]; rfl
theorem ltDs_at : ∀ (xs ys : List D) (k : Bool) (j : Nat), ltDs xs ys = some k → j < xs.length → j < ys.length → (∀ i, i < j → eqP xs ys i = true) → eqP xs ys j = false → ltD (xs.getD j .none) (ys.getD j .none) = some (ltP xs ys j)
  | [], _, _, j, _, h, _, _, _ => absurd h (Nat.not_lt_zero _)
  | _ :: _, [], _, j, _, _, h, _, _ => absurd h (Nat.not_lt_zero _)
  | x :: xs, y :: ys, k, 0, h, _, _, _, e => by
    obtain ⟨_, _, ⟨q, q2⟩ | ⟨q, q2⟩⟩ := ltDs_cons h
    · have e : PyData.eqv x y = false := e
      rw [q] at e; cases e
    · show ltD x y = some ((ltD x y).getD false)
      rw [q2]; rfl
  | x :: xs, y :: ys, k, j + 1, h, h1, h2, hb, e => by
    obtain ⟨_, _, ⟨q, q2⟩ | ⟨q, q2⟩⟩ := ltDs_cons h
    · exact ltDs_at xs ys k j q2 (by simpa using h1) (by simpa using h2) (fun i hi => hb (i + 1) (by omega)) e
    · have h0 : PyData.eqv x y = true := hb 0 (Nat.succ_pos _)
      rw [q] at h0; cases h0
theorem ltDs_ok : ∀ (xs ys : List D) (k : Bool) (j : Nat), ltDs xs ys = some k → j < xs.length → j < ys.length → (∀ i, i < j → eqP xs ys i = true) → eqOk (xs.getD j .none) = true ∧ eqOk (ys.getD j .none) = true
  | [], _, _, j, _, h, _, _ => absurd h (Nat.not_lt_zero _)
  | _ :: _, [], _, j, _, _, h, _ => absurd h (Nat.not_lt_zero _)
  | x :: xs, y :: ys, k, 0, h, _, _, _ => by
    obtain ⟨q1, q2, _⟩ := ltDs_cons h
    exact ⟨q1, q2⟩
  | x :: xs, y :: ys, k, j + 1, h, h1, h2, hb => by
    obtain ⟨_, _, ⟨q, q2⟩ | ⟨q, q2⟩⟩ := ltDs_cons h
    · exact ltDs_ok xs ys k j q2 (by simpa using h1) (by simpa using h2) (fun i hi => hb (i + 1) (by omega))
    · have h0 : PyData.eqv x y = true := hb 0 (Nat.succ_pos _)
      rw [q] at h0; cases h0
theorem reads_at {h : Heap} : ∀ {us : List Value} {ds : List D} {as : List Addr}, ReadsAll h us ds as → ∀ (j : Nat) (h1 : j < us.length), ∃ bs, Reads h us[j] (ds.getD j .none) bs
  | _, _, _, .nil, j, h1 => absurd h1 (Nat.not_lt_zero _)
  | _, _, _, .cons r t, 0, _ => ⟨_, r⟩
  | _, _, _, .cons r t, j + 1, h1 => by
    obtain ⟨bs, q⟩ := reads_at t j (by simpa using h1)
    exact ⟨bs, q⟩
theorem depth_at : ∀ (ds : List D) (j : Nat), j < ds.length → (ds.getD j .none).depth ≤ PyData.depthAll ds
  | [], j, h => absurd h (Nat.not_lt_zero _)
  | d :: ds, 0, _ => by simp only [PyData.depthAll, List.getD_cons_zero]; omega
  | d :: ds, j + 1, h => by
    have := depth_at ds j (by simpa using h)
    simp only [PyData.depthAll, List.getD_cons_succ]; omega
theorem rcLt_d : ∀ (da db : D) (A : Around) (s : Shared) (a b : Value) (as bs : List Addr) (k : Bool), Reads s.heap a da as → Reads s.heap b db bs → ltD da db = some k → A.units + min da.depth db.depth < cLine → SeqAt.RcLt A s a b k
  | .int x, .int y, A, s, a, b, as, bs, k, ra, rb, h, _ => by
    cases h
    cases ra
    cases rb
    intro prog w E Q hq
    exact PySem.P.lt_int hq
  | .str x, .str y, A, s, a, b, as, bs, k, ra, rb, h, _ => by
    cases h
    cases ra
    cases rb
    intro prog w E Q hq
    exact PySem.P.lt_str hq
  | .tuple xs, .tuple ys, A, s, a, b, as, bs, k, ra, rb, h, hu => by
    have h : ltDs xs ys = some k := h
    cases ra with
    | @tuple l o vs n _ as₁ h1 h2 h3 h4 =>
      cases rb with
      | @tuple l' o' vs' n' _ bs₁ k1 k2 k3 k4 =>
        have n1 : vs.size = xs.length := by simpa using SeqAt.len_at h4
        have n2 : vs'.size = ys.length := by simpa using SeqAt.len_at k4
        have e := ltDs_first xs ys 0 (eqP xs ys) (ltP xs ys) k h (fun j => by rw [Nat.zero_add]) (fun j => by rw [Nat.zero_add])
        rw [← List.range_eq_range', ← n1, ← n2] at e
        rw [← e]
        have hu1 : A.units + 1 + min (PyData.depthAll xs) (PyData.depthAll ys) < cLine := by
          simp only [PyData.depth] at hu
          omega
        refine rcLt_tupF ⟨_, h1, h2, _, h3⟩ ⟨_, k1, k2, _, k3⟩ (by omega) (fun j j1 j2 hb => ?_) (fun j j1 j2 hb he => ?_)
        · obtain ⟨cs, r1⟩ := reads_at h4 j (by simpa using j1)
          obtain ⟨cs', r2⟩ := reads_at k4 j (by simpa using j2)
          obtain ⟨p1, p2⟩ := ltDs_ok xs ys k j h (by omega) (by omega) hb
          have d1 := depth_at xs j (by omega)
          have d2 := depth_at ys j (by omega)
          have := SeqAt.eqAt_plain _ _ A.in1 s _ _ _ _ r1 r2 (eqOk_dec p1).1 (eqOk_dec p2).1 (by show A.units + 1 + _ < _; omega)
          simpa [eqP] using this
        · obtain ⟨cs, r1⟩ := reads_at h4 j (by simpa using j1)
          obtain ⟨cs', r2⟩ := reads_at k4 j (by simpa using j2)
          have d1 := depth_at xs j (by omega)
          have d2 := depth_at ys j (by omega)
          have hlt := ltDs_at xs ys k j h (by omega) (by omega) hb he
          have := rcLt_d (xs.getD j .none) (ys.getD j .none) A.in1 s _ _ _ _ _ r1 r2 hlt (by show A.units + 1 + _ < _; omega)
          simpa using this
  | .int _, .none, _, _, _, _, _, _, _, _, _, h, _ => by cases h
  | .int _, .bool _, _, _, _, _, _, _, _, _, _, h, _ => by cases h
  | .int _, .str _, _, _, _, _, _, _, _, _, _, h, _ => by cases h
  | .int _, .list _, _, _, _, _, _, _, _, _, _, h, _ => by cases h
  | .int _, .tuple _, _, _, _, _, _, _, _, _, _, h, _ => by cases h
  | .int _, .dict _, _, _, _, _, _, _, _, _, _, h, _ => by cases h
  | .str _, .none, _, _, _, _, _, _, _, _, _, h, _ => by cases h
  | .str _, .bool _, _, _, _, _, _, _, _, _, _, h, _ => by cases h
  | .str _, .int _, _, _, _, _, _, _, _, _, _, h, _ => by cases h
  | .str _, .list _, _, _, _, _, _, _, _, _, _, h, _ => by cases h
  | .str _, .tuple _, _, _, _, _, _, _, _, _, _, h, _ => by cases h
  | .str _, .dict _, _, _, _, _, _, _, _, _, _, h, _ => by cases h
  | .tuple _, .none, _, _, _, _, _, _, _, _, _, h, _ => by cases h
  | .tuple _, .bool _, _, _, _, _, _, _, _, _, _, h, _ => by cases h
  | .tuple _, .int _, _, _, _, _, _, _, _, _, _, h, _ => by cases h
  | .tuple _, .str _, _, _, _, _, _, _, _, _, _, h, _ => by cases h
  | .tuple _, .list _, _, _, _, _, _, _, _, _, _, h, _ => by cases h
  | .tuple _, .dict _, _, _, _, _, _, _, _, _, _, h, _ => by cases h
  | .none, _, _, _, _, _, _, _, _, _, _, h, _ => by cases h
  | .bool _, _, _, _, _, _, _, _, _, _, _, h, _ => by cases h
  | .list _, _, _, _, _, _, _, _, _, _, _, h, _ => by cases h
  | .dict _, _, _, _, _, _, _, _, _, _, _, h, _ => by cases h
termination_by da => da.depth
decreasing_by simp only [PyData.depth]; omega
theorem val_plain {S : Sto} {d : D} (h : d.plain = true) : PL.val S d = d := by
  unfold PL.val
  cases q : lstD S d with
  | none => rfl
  | some xs =>
    rcases lstD_some q with rfl | ⟨i, rfl, _⟩
    · rfl
    · simp [rf, PyData.plain] at h
theorem o_lt (F : Fit P Γ X) : OpR X (compareOp .Lt) (r2 P Z fun x y S => oret ((cmD S .lt x y).map .bool) S) := by
  intro pins s σ H x y v u Q I rx ry ⟨M, S, d, e, em, rd, re, h⟩
  obtain ⟨w, ho, hk⟩ := h.oret
  change (if (eqOk d && eqOk e) = true then ltD d e else none).map PyData.bool = some w at ho
  split at ho
  · rename_i c
    rw [Bool.and_eq_true] at c
    cases q : ltD d e with
    | none => rw [q] at ho; cases ho
    | some k =>
      rw [q] at ho
      cases ho
      obtain ⟨p1, p2⟩ := eqOk_dec c.1
      obtain ⟨as, q1⟩ := emb_reads em I rd rx (by rw [val_plain p1]; exact c.1)
      obtain ⟨bs, q2⟩ := emb_reads em I re ry (by rw [val_plain (eqOk_dec c.2).1]; exact c.2)
      rw [val_plain p1] at q1
      rw [val_plain (eqOk_dec c.2).1] at q2
      have hu := F.units
      exact rcLt_d d e X.A s v u _ _ k q1 q2 q (by unfold depthMax at p2; omega) _ _ _ _ ⟨.bl _, H, I, rfl, hk.ok em (.bl _)⟩
  · cases ho
theorem o_cmI {c : Cm} {f : Value → Value → Sem Value} {g : Int → Int → Bool} {r : R2} (hc : ∀ S x y, cmD S c x y = cmI g x y) (h : OpR X f r) (i : ∀ (i j : Int) (H : Hp) (Q : VK), Q (.bl (g i j)) H → r (.int i) (.int j) H Q) :
    OpR X f (r2 P Z fun x y S => oret ((cmD S c x y).map .bool) S) := by
  intro pins s σ H x y v u Q I rx ry ⟨M, S, d, e, em, rd, re, h'⟩
  obtain ⟨w, ho, hk⟩ := h'.oret
  rw [hc] at ho
  unfold cmI at ho
  split at ho
  · cases ho
    cases rd
    cases re
    exact h pins s σ H _ _ v u Q I rx ry (i _ _ H Q (hk.ok em (.bl _)))
  · cases ho
theorem o_le : OpR X (compareOp .LtE) (r2 P Z fun x y S => oret ((cmD S .le x y).map .bool) S) := o_cmI (fun _ _ _ => rfl) op_le fun i j H Q q => ⟨i, j, rfl, rfl, q⟩
theorem o_gt : OpR X (compareOp .Gt) (r2 P Z fun x y S => oret ((cmD S .gt x y).map .bool) S) := o_cmI (fun _ _ _ => rfl) op_gt fun i j H Q q => ⟨i, j, rfl, rfl, q⟩
theorem all_ok : ∀ {ds : List D}, ds.all eqOk = true → PyData.plainAll ds = true ∧ PyData.depthAll ds ≤ depthMax
  | [], _ => ⟨rfl, by simp [PyData.depthAll]⟩
  | d :: ds, h => by
    rw [List.all_cons, Bool.and_eq_true] at h
    obtain ⟨h1, h2⟩ := eqOk_dec h.1
    obtain ⟨h3, h4⟩ := all_ok h.2
    exact ⟨by simp [PyData.plainAll, h1, h3], by simp only [PyData.depthAll]; omega⟩
/-- what is walked by in, count, index: a list or a tuple, read -/
theorem seq_reads {pins : List (Addr × Obj)} {s : Shared} {σ : L2.St} {H : Hp} {M : Ma} {S : Sto} {e : D} {y : V} {u : Value} {ys : List D} (em : P.Emb M H S) (I : L2.Inv X pins σ H s) (re : Rv M H e y) (ry : RelV y u) (h : seqD S e = some ys) (p : ys.all eqOk = true) :
    ∃ as, Reads s.heap u (.list ys) as ∨ Reads s.heap u (.tuple ys) as := by
  obtain ⟨a, vs, rfl, h1, q⟩ := em.seq h re
  have dp : DpAll X.K H vs ys := q.dp (all_ok p).1
  rcases h1 with h1 | h1
  · obtain ⟨as, r⟩ := Dp.reads I (.list ys) (.ref a) u (.lst (SqL.of h1) dp) ry
    exact ⟨as, .inl r⟩
  · obtain ⟨as, r⟩ := Dp.reads I (.tuple ys) (.ref a) u (.tup h1.sq dp) ry
    exact ⟨as, .inr r⟩
theorem o_inG (F : Fit P Γ X) (neg : Bool) : OpR X (compareOp (if neg then .NotIn else .In)) (r2 P Z fun x y S => oret (((inD S x y).map fun b => neg != b).map .bool) S) := by
  intro pins s σ H x y v u Q I rx ry ⟨M, S, d, e, em, rd, re, h⟩
  obtain ⟨w, ho, hk⟩ := h.oret
  cases q : inD S d e with
  | none => rw [q] at ho; cases ho
  | some k =>
    rw [q] at ho
    cases ho
    unfold inD at q
    split at q
    · split at q
      · split at q
        · rename_i z _ a _ c hc
          cases q
          cases rd
          cases re
          have ha : a = ⟨#[c]⟩ := by
            obtain ⟨l⟩ := a
            obtain ⟨l⟩ := l
            have hc : l = [c] := hc
            rw [hc]
          rw [ha] at rx
          cases neg with
          | true => exact op_notIn_sign pins s σ H _ _ v u Q I rx ry ⟨c, z, rfl, rfl, hk.ok em (by simpa using Rv.bl _)⟩
          | false => exact op_in_sign pins s σ H _ _ v u Q I rx ry ⟨c, z, rfl, rfl, hk.ok em (by simpa using Rv.bl _)⟩
        · cases q
      · cases q
    · unfold inSq at q
      split at q
      · rename_i ys hs
        obtain ⟨c, q⟩ := ifn q
        cases q
        rw [Bool.and_eq_true] at c
        obtain ⟨p1, p2⟩ := eqOk_dec c.1
        obtain ⟨p3, p4⟩ := all_ok c.2
        obtain ⟨as, q1⟩ := emb_reads em I rd rx (by rw [val_plain p1]; exact c.1)
        rw [val_plain p1] at q1
        obtain ⟨bs, q2⟩ := seq_reads em I re ry hs c.2
        have hu := F.units
        have hu2 : X.A.units + 1 + min (PyData.depthAll ys) d.depth < cLine := by unfold depthMax at p2; omega
        cases neg with
        | true =>
          rcases q2 with q2 | q2
          · exact SeqAt.notIn_list_data q2 q1 p3 p1 hu2 ⟨.bl _, H, I, rfl, hk.ok em (by simpa using Rv.bl _)⟩
          · exact SeqAt.notIn_tuple_data q2 q1 p3 p1 hu2 ⟨.bl _, H, I, rfl, hk.ok em (by simpa using Rv.bl _)⟩
        | false =>
          rcases q2 with q2 | q2
          · exact SeqAt.in_list_data q2 q1 p3 p1 hu2 ⟨.bl _, H, I, rfl, hk.ok em (by simpa using Rv.bl _)⟩
          · exact SeqAt.in_tuple_data q2 q1 p3 p1 hu2 ⟨.bl _, H, I, rfl, hk.ok em (by simpa using Rv.bl _)⟩
      · cases q
theorem o_in (F : Fit P Γ X) : OpR X (compareOp .In) (r2 P Z fun x y S => oret ((cmD S .in_ x y).map .bool) S) := by
  intro pins s σ H x y v u Q I rx ry ⟨M, S, d, e, em, rd, re, h⟩
  refine o_inG (Z := Z) F false pins s σ H x y v u Q I rx ry ⟨M, S, d, e, em, rd, re, ?_⟩
  have e1 : ((inD S d e).map fun b => false != b) = inD S d e := by cases inD S d e <;> simp
  show Res P Rv M H (oret (((inD S d e).map fun b => false != b).map .bool) S) Q Z
  rw [e1]
  exact h
theorem o_nin (F : Fit P Γ X) : OpR X (compareOp .NotIn) (r2 P Z fun x y S => oret ((cmD S .nin x y).map .bool) S) := by
  intro pins s σ H x y v u Q I rx ry ⟨M, S, d, e, em, rd, re, h⟩
  refine o_inG (Z := Z) F true pins s σ H x y v u Q I rx ry ⟨M, S, d, e, em, rd, re, ?_⟩
  have e1 : ((inD S d e).map fun b => true != b) = (inD S d e).map (!·) := by cases inD S d e <;> simp
  show Res P Rv M H (oret (((inD S d e).map fun b => true != b).map .bool) S) Q Z
  rw [e1]
  exact h
def cmOf : Cm → CmpOp
  | .eq => .Eq
  | .ne => .NotEq
  | .lt => .Lt
  | .le => .LtE
  | .gt => .Gt
  | .in_ => .In
  | .nin => .NotIn
theorem o_cm (F : Fit P Γ X) : ∀ c : Cm, OpR X (compareOp (cmOf c)) (r2 P Z fun x y S => oret ((cmD S c x y).map .bool) S)
  | .eq => o_eq F
  | .ne => o_ne F
  | .lt => o_lt F
  | .le => o_le
  | .gt => o_gt
  | .in_ => o_in F
  | .nin => o_nin F
end
end PL
end

section
set_option Elab.async false
set_option linter.all false
set_option maxRecDepth 100000
set_option maxHeartbeats 1000000
/-! PLE: subscripts, slices, built-ins by values. -/
namespace PL
open PySem PySem.Spec PyProof.Rows L2
section
variable {M : Ma} {H : Hp} {ds : List D} {vs : List V} {d : D}
theorem Rvs.atI {i : Int} (h : Rvs M H ds vs) (q : L2.atI ds i = some d) : ∃ v, L2.atI vs i = some v ∧ Rv M H d v := by
  unfold L2.atI at q ⊢
  rw [← h.length]
  cases e : ixN ds.length i with
  | none => rw [e] at q; cases q
  | some j =>
    rw [e] at q
    exact h.get' q
end
section
variable {P : Pg} {Γ : Ga} {X : Cx} {Z : ZX}
theorem o_ix (F : Fit P Γ X) : IxR X (r2 P Z fun x y S => oret (ixD S x y) S) := by
  intro value slice pins s σ H x y v u Q I rx ry ⟨M, S, d, e, em, rd, re, h⟩ hs
  obtain ⟨w, ho, hk⟩ := h.oret
  unfold ixD at ho
  split at ho
  · cases re
    unfold ixS at ho
    split at ho
    · rename_i i _ z
      obtain ⟨c, ho⟩ := ifn ho
      cases rd
      cases e : L2.atI z.cps.toList i with
      | none => rw [e] at ho; cases ho
      | some k =>
        rw [e] at ho
        cases ho
        exact ix_str value slice pins s σ H _ _ v u Q I rx ry ⟨_, _, _, rfl, rfl, by rw [← lim_eq]; exact c, e, hk.ok em (.str _)⟩ hs
    · split at ho
      · rename_i xs hx
        rw [asScr_some hx] at rd
        obtain ⟨a, vs, rfl, h1, q1⟩ := rd.scrI
        rw [em.kf, ← F.K] at h1
        obtain ⟨z, h2, h3⟩ := q1.atI ho
        exact ix_list value slice pins s σ H _ _ v u Q I rx ry ⟨a, vs, _, z, rfl, rfl, h1, h2, hk.ok em h3⟩ hs
      · cases e : seqD S d with
        | none => rw [e] at ho; cases ho
        | some xs =>
          rw [e] at ho
          obtain ⟨a, vs, rfl, h1, q1⟩ := em.seq e rd
          obtain ⟨z, h2, h3⟩ := q1.atI ho
          rcases h1 with h1 | h1
          · exact ix_list value slice pins s σ H _ _ v u Q I rx ry ⟨a, vs, _, z, rfl, rfl, SqL.of h1, h2, hk.ok em h3⟩ hs
          · exact ix_tup value slice pins s σ H _ _ v u Q I rx ry ⟨a, vs, _, z, rfl, rfl, h1.sq, h2, hk.ok em h3⟩ hs
  · cases ho
theorem Rvs.cutV {M : Ma} {H : Hp} {ds : List D} {vs : List V} (h : Rvs M H ds vs) (lo hi : Option Int) : Rvs M H (cutD ds lo hi) (L2.cutV vs lo hi) := by
  unfold cutD L2.cutV
  rw [← h.length]
  exact (h.drop _).take _
theorem cut_whole {α : Type} {xs : List α} {a b : Nat} (h : a = 0 ∧ b = xs.length) : (xs.drop a).take (b - a) = xs := by
  rw [h.1, h.2]; simp
theorem o_sl : SlR X (fun x lo hi H Q => ∃ M S d, P.Emb M H S ∧ Rv M H d x ∧ Res P Rv M H (oret (slD S d lo hi) S) Q Z) := by
  intro pins s σ H x v vl vu lo hi sl Q I rx hs pl pu ⟨M, S, d, em, rd, h⟩
  obtain ⟨w, ho, hk⟩ := h.oret
  unfold slD at ho
  split at ho
  · cases ho
    obtain ⟨a, vs, rfl, h1, n1, q1⟩ := rd.tupI
    refine sl_tupF pins s σ H _ v vl vu lo hi sl Q I rx hs pl pu ⟨a, vs, rfl, h1.sq, fun z => ?_, fun p o hp ho => ?_⟩
    · rw [← q1.length] at z
      have e := cut_whole z
      unfold cutD at hk
      rw [e] at hk
      exact hk.ok em rd
    · exact hk.tuple Ext.refl em (q1.cutV lo hi) hp ho
  · split at ho
    · rename_i c
      cases ho
      cases rd
      exact sl_str pins s σ H _ v vl vu lo hi sl Q I rx hs pl pu ⟨_, rfl, by rw [← lim_eq]; exact c, hk.ok em (.str _)⟩
    · cases ho
  · cases e : lstD S d with
    | none => rw [e] at ho; cases ho
    | some xs =>
      rw [e] at ho
      cases ho
      obtain ⟨a, vs, rfl, h1, q1⟩ := em.lst e rd
      refine sl_list pins s σ H _ v vl vu lo hi sl Q I rx hs pl pu ⟨a, vs, rfl, SqL.of h1, fun p hp => ?_⟩
      have x := Ext.alloc (M := M) (o := .lst (L2.cutV vs lo hi)) hp
      exact hk.okE x (em.alloc hp) (.lst upd_same (em.no hp) ((q1.cutV lo hi).mono x))
/-! ### built-ins -/
theorem Rvs.one {M : Ma} {H : Hp} {ds : List D} {xs : List V} {f : D → Option D} {w : D} (h : Rvs M H ds xs) (q : bi1 f ds = some w) : ∃ d v, ds = [d] ∧ xs = [v] ∧ Rv M H d v ∧ f d = some w := by
  unfold bi1 at q
  split at q
  · cases h with
    | cons r t => cases t; exact ⟨_, _, rfl, rfl, r, q⟩
  · cases q
theorem Rvs.two {M : Ma} {H : Hp} {ds : List D} {xs : List V} {f : D → D → Option D} {w : D} (h : Rvs M H ds xs) (q : bi2 f ds = some w) : ∃ d e v u, ds = [d, e] ∧ xs = [v, u] ∧ Rv M H d v ∧ Rv M H e u ∧ f d e = some w := by
  unfold bi2 at q
  split at q
  · cases h with
    | cons r t => cases t with
      | cons r2 t => cases t; exact ⟨_, _, _, _, rfl, rfl, r, r2, q⟩
  · cases q
theorem Rvs.oneL {M : Ma} {H : Hp} {ds : List D} {xs : List V} {f : D → Option (List D)} {w : List D} (h : Rvs M H ds xs) (q : biL f ds = some w) : ∃ d v, ds = [d] ∧ xs = [v] ∧ Rv M H d v ∧ f d = some w := by
  unfold biL at q
  split at q
  · cases h with
    | cons r t => cases t; exact ⟨_, _, rfl, rfl, r, q⟩
  · cases q
theorem Res.allo {M : Ma} {H : Hp} {r : Bool} {o : Option (List D)} {S : Sto} {Q : VK} (h : Res P Rv M H (oallo r o S) Q Z) : ∃ xs, o = some xs ∧ Res P Rv M H (allocL r xs S) Q Z := by
  cases o with
  | none => exact h.elim
  | some xs => exact ⟨xs, rfl, h⟩
theorem b_len (F : Fit P Γ X) : CallR X (.builtin "len") (rs P Z (biD .len)) := by
  intro pins s σ H xs us Q I rx ⟨M, S, ds, em, rd, h⟩
  obtain ⟨w, ho, hk⟩ := Res.oret h
  obtain ⟨d, v, rfl, rfl, r, q⟩ := rd.one ho
  unfold lenD at q
  split at q
  · obtain ⟨c, q⟩ := ifn q
    cases q
    cases r
    exact call_len pins s σ H _ us Q I rx ⟨_, _, rfl, ⟨by rw [← lim_eq]; exact c, rfl⟩, hk.ok em (.int _)⟩
  · split at q
    · rename_i ys hx
      cases q
      rw [asScr_some hx] at r
      obtain ⟨a, vs, rfl, h1, q1⟩ := r.scrI
      rw [em.kf, ← F.K] at h1
      exact call_len pins s σ H _ us Q I rx ⟨_, _, rfl, .inl ⟨vs, h1, rfl⟩, by rw [← q1.length]; exact hk.ok em (.int _)⟩
    · cases e : seqD S d with
      | none => rw [e] at q; cases q
      | some ys =>
        rw [e] at q
        cases q
        obtain ⟨a, vs, rfl, h1, q1⟩ := em.seq e r
        rcases h1 with h1 | h1
        · exact call_len pins s σ H _ us Q I rx ⟨_, _, rfl, .inl ⟨vs, SqL.of h1, rfl⟩, by rw [← q1.length]; exact hk.ok em (.int _)⟩
        · exact call_len pins s σ H _ us Q I rx ⟨_, _, rfl, .inr ⟨vs, h1.sq, rfl⟩, by rw [← q1.length]; exact hk.ok em (.int _)⟩
theorem b_str : CallR X (.type "str") (rs P Z (biD .str)) := by
  intro pins s σ H xs us Q I rx ⟨M, S, ds, em, rd, h⟩
  obtain ⟨w, ho, hk⟩ := Res.oret h
  obtain ⟨d, v, rfl, rfl, r, q⟩ := rd.one ho
  unfold strD at q
  split at q
  · obtain ⟨c, q⟩ := ifn q
    cases q
    cases r
    exact call_str_int pins s σ H _ us Q I rx ⟨_, rfl, c, hk.ok em (.str _)⟩
  · cases q
    cases r
    exact SkE.call_str_str pins s σ H _ us Q I rx ⟨_, rfl, hk.ok em (.str _)⟩
  · cases q
theorem b_int : CallR X (.type "int") (rs P Z (biD .int)) := by
  intro pins s σ H xs us Q I rx ⟨M, S, ds, em, rd, h⟩
  obtain ⟨w, ho, hk⟩ := Res.oret h
  obtain ⟨d, v, rfl, rfl, r, q⟩ := rd.one ho
  unfold intsD at q
  split at q
  · cases q
    cases r
    exact call_int1 pins s σ H _ us Q I rx (.inr ⟨_, rfl, hk.ok em (.int _)⟩)
  · cases q
    cases r
    exact call_int1 pins s σ H _ us Q I rx (.inl ⟨_, rfl, hk.ok em (.int _)⟩)
  · unfold intD at q
    split at q
    · rename_i x c
      cases e : intText? x with
      | none => rw [e] at q; cases q
      | some n =>
        rw [e] at q
        cases q
        cases r
        exact call_int_str pins s σ H _ us Q I rx ⟨_, _, rfl, e, c, hk.ok em (.int _)⟩
    · cases q
  · cases q
theorem b_list (r : Bool) : CallR X (.type "list") (rs P Z (biD (.list r))) := by
  intro pins s σ H xs us Q I rx ⟨M, S, ds, em, rd, h⟩
  obtain ⟨ys, ho, hk⟩ := Res.allo h
  obtain ⟨d, v, rfl, rfl, r, q⟩ := rd.oneL ho
  obtain ⟨hl, hk⟩ := Res.alloc hk
  obtain ⟨a, vs, rfl, h1, q1⟩ := em.seq q r
  exact call_list_of pins s σ H _ us Q I rx ⟨a, vs, rfl, h1.imp SqL.of TupF.sq, fun l hp => hk M H l vs Ext.refl em q1 hp⟩
theorem b_tuple : CallR X (.type "tuple") (rs P Z (biD .tuple)) := by
  intro pins s σ H xs us Q I rx ⟨M, S, ds, em, rd, h⟩
  obtain ⟨w, ho, hk⟩ := Res.oret h
  obtain ⟨d, v, rfl, rfl, r, q⟩ := rd.one ho
  unfold tupD at q
  split at q
  · cases q
    obtain ⟨a, vs, rfl, h1, n1, q1⟩ := r.tupI
    exact tuple_ofF pins s σ H _ us Q I rx ⟨a, vs, rfl, .inr ⟨h1.sq, hk.ok em r⟩⟩
  · cases e : lstD S d with
    | none => rw [e] at q; cases q
    | some ys =>
      rw [e] at q
      cases q
      obtain ⟨a, vs, rfl, h1, q1⟩ := em.lst e r
      exact tuple_ofF pins s σ H _ us Q I rx ⟨a, vs, rfl, .inl ⟨SqL.of h1, fun l o hp ho => hk.tuple Ext.refl em q1 hp ho⟩⟩
theorem b_sum (hc : X.calm = true) : CallR X (.builtin "sum") (rs P Z fun ds S => oret (bi1 (fun x => ((lstD S x).bind intsOf).map fun ns => .int ns.sum) ds) S) := by
  intro pins s σ H xs us Q I rx ⟨M, S, ds, em, rd, h⟩
  obtain ⟨w, ho, hk⟩ := Res.oret h
  obtain ⟨d, v, rfl, rfl, r, q⟩ := rd.one ho
  cases e : lstD S d with
  | none => simp [e] at q
  | some ys =>
    cases e2 : intsOf ys with
    | none => simp [e, e2] at q
    | some ns =>
      simp [e, e2] at q
      subst q
      obtain ⟨a, vs, rfl, h1, q1⟩ := em.lst e r
      have := q1.ints e2
      subst this
      exact cr_sum hc pins s σ H _ us Q I rx ⟨a, ns, rfl, SqL.of h1, hk.ok em (.int _)⟩
theorem b_max2 (hc : X.calm = true) : CallR X (.builtin "max") (rs P Z (biD .max2)) := by
  intro pins s σ H xs us Q I rx ⟨M, S, ds, em, rd, h⟩
  obtain ⟨w, ho, hk⟩ := Res.oret h
  obtain ⟨d, e, v, u, rfl, rfl, r, r2, q⟩ := rd.two ho
  unfold int2 at q
  split at q
  · cases q; cases r; cases r2
    exact call_max2 hc pins s σ H _ us Q I rx ⟨_, _, rfl, hk.ok em (.int _)⟩
  · cases q
theorem b_min2 (hc : X.calm = true) : CallR X (.builtin "min") (rs P Z (biD .min2)) := by
  intro pins s σ H xs us Q I rx ⟨M, S, ds, em, rd, h⟩
  obtain ⟨w, ho, hk⟩ := Res.oret h
  obtain ⟨d, e, v, u, rfl, rfl, r, r2, q⟩ := rd.two ho
  unfold int2 at q
  split at q
  · cases q; cases r; cases r2
    exact call_min2 hc pins s σ H _ us Q I rx ⟨_, _, rfl, hk.ok em (.int _)⟩
  · cases q
theorem b_abs : CallR X (.builtin "abs") (rs P Z (biD .abs)) := by
  intro pins s σ H xs us Q I rx ⟨M, S, ds, em, rd, h⟩
  obtain ⟨w, ho, hk⟩ := Res.oret h
  obtain ⟨d, v, rfl, rfl, r, q⟩ := rd.one ho
  unfold absD at q
  split at q
  · cases q; cases r
    exact call_abs pins s σ H _ us Q I rx ⟨_, rfl, hk.ok em (.int _)⟩
  · cases q
theorem b_divmod : CallR X (.builtin "divmod") (rs P Z (biD .divmod)) := by
  intro pins s σ H xs us Q I rx ⟨M, S, ds, em, rd, h⟩
  obtain ⟨w, ho, hk⟩ := Res.oret h
  obtain ⟨d, e, v, u, rfl, rfl, r, r2, q⟩ := rd.two ho
  unfold int2 at q
  split at q
  · obtain ⟨c, q⟩ := ifn q
    cases q; cases r; cases r2
    exact divmodF pins s σ H _ us Q I rx ⟨_, _, rfl, c, fun p o hp ho => hk.tuple Ext.refl em (.cons (.int _) (.cons (.int _) .nil)) hp ho⟩
  · cases q
theorem b_all (hc : X.calm = true) : CallR X (.builtin "all") (rs P Z (biD .all)) := by
  intro pins s σ H xs us Q I rx ⟨M, S, ds, em, rd, h⟩
  obtain ⟨w, ho, hk⟩ := Res.oret h
  obtain ⟨d, v, rfl, rfl, r, q⟩ := rd.one ho
  unfold allD at q
  cases e : lstD S d with
  | none => simp [e] at q
  | some ys =>
    cases e2 : boolsOf ys with
    | none => simp [e, e2] at q
    | some ns =>
      rw [e] at q
      simp only [Option.bind_some, e2, Option.map_some, Option.some.injEq] at q
      subst q
      obtain ⟨a, vs, rfl, h1, q1⟩ := em.lst e r
      have := q1.bools e2
      subst this
      exact cr_all hc pins s σ H _ us Q I rx ⟨a, ns, rfl, SqL.of h1, hk.ok em (.bl _)⟩
theorem b_any (hc : X.calm = true) : CallR X (.builtin "any") (rs P Z (biD .any)) := by
  intro pins s σ H xs us Q I rx ⟨M, S, ds, em, rd, h⟩
  obtain ⟨w, ho, hk⟩ := Res.oret h
  obtain ⟨d, v, rfl, rfl, r, q⟩ := rd.one ho
  unfold anyD at q
  cases e : lstD S d with
  | none => simp [e] at q
  | some ys =>
    cases e2 : boolsOf ys with
    | none => simp [e, e2] at q
    | some ns =>
      rw [e] at q
      simp only [Option.bind_some, e2, Option.map_some, Option.some.injEq] at q
      subst q
      obtain ⟨a, vs, rfl, h1, q1⟩ := em.lst e r
      have := q1.bools e2
      subst this
      exact cr_any hc pins s σ H _ us Q I rx ⟨a, ns, rfl, SqL.of h1, hk.ok em (.bl _)⟩
end
end PL
end

section
set_option Elab.async false
set_option linter.all false
set_option maxRecDepth 100000
set_option maxHeartbeats 1000000
/-! PLE2: xs[::-1] of lists and tuples. -/
namespace PL
open PySem PySem.Spec PyProof.Rows L2
theorem rev_pick (xs : List Value) : ∀ n : Nat, n ≤ xs.length → ((List.range n).filterMap fun (m : Nat) => xs[((n : Int) - 1 + (m : Int) * (-1)).toNat]?) = (xs.take n).reverse
  | 0, _ => by simp
  | n + 1, h => by
    rw [List.range_succ_eq_map, List.filterMap_cons]
    have e0 : (((n + 1 : Nat) : Int) - 1 + ((0 : Nat) : Int) * (-1)).toNat = n := by omega
    rw [e0, List.getElem?_eq_getElem (by omega)]
    simp only
    rw [List.filterMap_map, List.take_succ_eq_append_getElem (by omega), List.reverse_append]
    have e1 : ((fun (m : Nat) => xs[(((n + 1 : Nat) : Int) - 1 + (m : Int) * (-1)).toNat]?) ∘ Nat.succ) = fun (m : Nat) => xs[((n : Int) - 1 + (m : Int) * (-1)).toNat]? := by
      funext m
      show xs[(((n + 1 : Nat) : Int) - 1 + ((m.succ : Nat) : Int) * (-1)).toNat]? = _
      have : ((((n + 1 : Nat) : Int) - 1 + ((m.succ : Nat) : Int) * (-1)).toNat) = ((n : Int) - 1 + (m : Int) * (-1)).toNat := by omega
      rw [this]
    rw [e1, rev_pick xs n (by omega)]
    rfl
section
variable {prog : Program} {w : World} {A : Around} {E : Value → Shared → Prop} {s : Shared}
theorem sliceApplied_rev {sl : Addr} {vl vu vs : Value} {n : Nat} {Q : Int × Int × Nat → Shared → Prop} (hs : s.heap.IsSliceOf sl vl vu vs) (pl : IsPart vl none) (pu : IsPart vu none) (ps : IsPart vs (some (-1)))
    (h : Q ((n : Int) - 1, -1, n) s) : wpAny (model prog w) A (Builtin.Slice.sliceApplied (.ref sl) (pure (n : Int))) Q E s := by
  obtain ⟨os, hos, hcs, hds⟩ := id hs
  unfold Builtin.Slice.sliceApplied Builtin.Slice.sliceFields
  refine wpAny_bind (wpAny_bind (wpAny_field hos hds (x := vl) rfl (wpAny_bind (wpAny_field hos hds (x := vu) rfl (wpAny_bind (wpAny_field hos hds (x := vs) rfl (wpAny_pure ?_)))))))
  refine wpAny_bind (HT.slicePart_ ps ?_)
  show wpAny _ _ (if ((-1 : Int) == 0) = true then _ else _) _ _ s
  rw [if_neg (by decide)]
  refine wpAny_bind (HT.slicePart_ pl (wpAny_bind (HT.slicePart_ pu (wpAny_bind (wpAny_pure ?_)))))
  show wpAny _ _ (pure ((n : Int) - 1, (-1 : Int), Builtin.Slice.slicePlaces ((n : Int) - 1) (-1) (-1))) _ _ s
  have e : Builtin.Slice.slicePlaces ((n : Int) - 1) (-1) (-1) = n := by
    unfold Builtin.Slice.slicePlaces
    have h1 : ¬ ((-1 : Int) > 0) := by omega
    simp only [h1, if_false]
    have h2 : (-(-1) : Int) = 1 := rfl
    rw [h2, Int.ediv_one]
    split <;> omega
  rw [e]
  exact wpAny_pure h
theorem getItem_tuple_rev {t sl : Addr} {items : Array Value} {vl vu vs : Value} {Q : Value → Shared → Prop} (ht : IsTup s.heap t items) (hs : s.heap.IsSliceOf sl vl vu vs) (pl : IsPart vl none) (pu : IsPart vu none) (ps : IsPart vs (some (-1)))
    (h : Q (.ref s.heap.objs.size) { s with heap := s.heap.push (tupO items.toList.reverse) })
    (hsz : items.size ≤ sizeLine) : wpAny (model prog w) A (getItem (.ref t) (.ref sl)) Q E s := by
  have htake : sizeOk (.seq (items.toList.reverse).toArray) := by
    show (items.toList.reverse).toArray.size ≤ sizeLine
    rw [List.size_toArray, List.length_reverse, Array.length_toList]
    exact hsz
  obtain ⟨os, hos, hcs, hds⟩ := id hs
  have hTs : s.TypeIs (.ref sl) "slice" := ⟨os, hos, hcs⟩
  unfold getItem
  try with_reducible refine wpAny_holding ?_
  first | refine wpAny_bind (wpAny_pure ?_) | skip
  refine wpAny_bind (wpAny_sequenceKey ht.typeIs (by decide) ?_)
  refine wpAny_bind (wpAny_callSpecial?_slot (name := Str.ofString "__getitem__") ht.typeIs PyProof.Rows.slot_tuple_getitem
    (wpAny_call_entry PyProof.Rows.slot_tuple_getitem ht.typeIs entry_tuple_getitem ?_ (args_tuple_getitem _ _)))
  show wpAny _ _ (Builtin.Tuple.tupleItemsOf (.ref t) >>= _) _ _ s
  refine wpAny_bind (tupleItemsOf_ ht ?_)
  refine wpAny_bind (wpAny_typeOf hTs ?_)
  rw [if_pos (by decide)]
  refine wpAny_bind (sliceApplied_rev (n := items.size) hs pl pu ps ?_)
  have hno : ¬ (((((items.size : Nat) : Int) - 1) == 0 && (-1 : Int) == 1 && items.size == items.size) = true) := by
    intro q
    rw [Bool.and_eq_true, Bool.and_eq_true] at q
    have := eq_of_beq q.1.2
    omega
  show wpAny _ _ (if ((((items.size : Nat) : Int) - 1) == 0 && (-1 : Int) == 1 && items.size == items.size) = true then _ else _) _ _ s
  rw [if_neg hno]
  have e : ((List.range items.size).filterMap fun (m : Nat) => items[(((items.size : Nat) : Int) - 1 + (m : Int) * (-1)).toNat]?).toArray = (items.toList.reverse).toArray := by
    have := rev_pick items.toList items.size (by simp)
    simp only [Array.getElem?_toList] at this
    rw [this, List.take_of_length_le (by simp)]
  rw [e]
  first
    | exact wpAny_bind (m := Builtin.Tuple.tupleExact _) (wpAny_newObj_type (wpAny_pure ⟨_, rfl, wpAny_pure h⟩) htake)
    | exact wpAny_bind (m := Builtin.Tuple.tupleExact _) (wpAny_newObj_type (wpAny_bind (wpAny_pure (wpAny_pure ⟨_, rfl, wpAny_pure h⟩))) htake)
    | exact wpAny_bind (wpAny_bind (m := Builtin.Tuple.tupleExact _) (wpAny_newObj_type (wpAny_pure (wpAny_pure ⟨_, rfl, wpAny_pure h⟩)) htake))
    | exact wpAny_bind (wpAny_bind (m := Builtin.Tuple.tupleExact _) (wpAny_newObj_type (wpAny_pure ⟨_, rfl, wpAny_pure h⟩) htake))
end
section
variable {X : Cx} {e : Expr} {te : TE} {k : Nat} {p1 p2 p3 pos : Pos}
/-- e[::-1], of a list or of a tuple -/
def tRev (K : PySem.W.Frag) (te : TE) : TE := fun σ H Q => te σ H fun x H1 => ∃ a xs, x = .ref a ∧ ((SqL K H1 a xs ∧ ∀ p, H1 p = none → Q (.ref p) (upd H1 p (.lst xs.reverse))) ∨
  (SqT K H1 a xs ∧ ∀ p o, H1 p = none → o.dict = none → Q (.ref p) (upd H1 p (.frz o (.tup xs.reverse)))))
theorem pe_rev (he : PE X e te) : PE X (.Subscript e (.Slice none none (some (.UnaryOp .USub (.Constant (.int 1) k p1) p2)) p3) pos) (tRev X.K te) := by
  refine ⟨fun pins s σ H Q I h => ?_⟩
  refine Subscript_ (thn (he.run pins s σ H _ I h) fun v s1 ⟨x, H1, I1, r1, q1⟩ => ?_)
  obtain ⟨a, xs, ex, q⟩ := q1
  subst ex
  cases r1
  have hst : PO X (some (.UnaryOp .USub (.Constant (.int 1) k p1) p2)) (tPart (tUn (rU fun i => .int (-i)) (tC (.int 1)))) := po_some (pe_un un_neg pe_int)
  refine wpAny_Slice (thn (po_none.run pins s1 σ H1 (fun o H2 => o = none ∧ H2 = H1) I1 ⟨rfl, rfl⟩) fun vl s2 ⟨l, H2, I2, pl, el, e2⟩ => ?_)
  subst el e2
  refine thn (po_none.run pins s2 σ H2 (fun o H3 => o = none ∧ H3 = H2) I2 ⟨rfl, rfl⟩) fun vu s3 ⟨u, H3, I3, pu, eu, e3⟩ => ?_
  subst eu e3
  refine thn (hst.run pins s3 σ H3 (fun o H4 => o = some (-1) ∧ H4 = H3) I3 ⟨1, rfl, -1, rfl, rfl, rfl⟩) fun vs s4 ⟨o, H4, I4, ps, eo, e4⟩ => ?_
  subst eo e4
  have I5 : Inv X pins σ H4 { s4 with heap := s4.heap.push { cls := .type "slice", data := .fields #[vl, vu, vs] } } := I4.kept (t' := s4.toks) fun b ob q => Heap.get?_push_of_some _ q
  show wpAny (model X.prog X.w) X.A (subscriptTail e (.Slice none none (some (.UnaryOp .USub (.Constant (.int 1) k p1) p2)) p3) (.ref a) (.ref s4.heap.objs.size)) (EP X pins σ Q) X.xe { s4 with heap := s4.heap.push { cls := .type "slice", data := .fields #[vl, vu, vs] } }
  rcases q with ⟨hx, q⟩ | ⟨hx, q⟩
  · obtain ⟨its, r, ht, hz⟩ := I5.list hx
    have hlen := r.length
    refine tail_any (ops := [.ref a, .ref s4.heap.objs.size]) ht.isList.typeIs (PySem.slot_list_getitem.lookup) ?_ (by with_unfolding_all rfl)
    refine wpAny_getItem_list_slice ht.isList (Heap.IsSliceOf.new _ vl vu vs) pl pu ps (by decide) ?_ (by rw [List.size_toArray]; omega)
    rw [PySem.W.krv_pick]
    refine ⟨.ref _, _, I5.laid (t' := s4.toks) (o := .lst xs.reverse) (fun b ob q => Heap.get?_push_of_some _ q) (Nat.le_refl _) ?_, rfl, q _ (I5.hok.fresh (Nat.le_refl _))⟩
    exact ⟨by rw [List.length_reverse]; exact hz, _, 0, r.reverse, Heap.get?_push_size _ rfl⟩
  · obtain ⟨its, r, ht, hz⟩ := I5.tuple hx
    have hlen := r.length
    refine tail_any (ops := [.ref a, .ref s4.heap.objs.size]) ht.typeIs (PyProof.Rows.slot_tuple_getitem.lookup) ?_ (by with_unfolding_all rfl)
    refine getItem_tuple_rev ht (Heap.IsSliceOf.new _ vl vu vs) pl pu ps ?_ (by rw [List.size_toArray]; omega)
    exact ⟨.ref _, _, newTup (t' := s4.toks) I5 (vs := xs.reverse) (its := its.reverse) r.reverse (by rw [List.length_reverse]; exact hz), rfl, q _ _ (I5.hok.fresh (Nat.le_refl _)) rfl⟩
end
end PL
end

section
set_option Elab.async false
set_option linter.all false
set_option maxRecDepth 100000
set_option maxHeartbeats 1000000
/-! PLE4: repr of data in which dicts of whole numbers stand. -/
namespace PL
open PySem PySem.Spec PyProof.Rows L2
mutual
/-- read off the heap; of dicts it is known that they are not the modules' one -/
inductive RdN (h : Heap) : Value → D → Prop
  | pl {v : Value} {d : D} {as : List Addr} : Reads h v d as → d.hasDict = false → RdN h v d
  | ls {a : Addr} {o : Obj} {vs : Array Value} {n : Nat} {xs : List D} : h.get? a = some o → o.cls = .type "list" → o.data = .seq vs n → RdNs h vs.toList xs → RdN h (.ref a) (.list xs)
  | tu {a : Addr} {o : Obj} {vs : Array Value} {n : Nat} {xs : List D} : h.get? a = some o → o.cls = .type "tuple" → o.data = .seq vs n → RdNs h vs.toList xs → RdN h (.ref a) (.tuple xs)
  | di {a : Addr} {o : Obj} {es : Array DictEntry} {n : Nat} {kvs : List (D × D)} {as bs : List Addr} : h.get? a = some o → o.cls = .type "dict" → o.data = .dict es n → (a == sysModules) = false →
      ReadsAll h (es.toList.map (·.key)) (kvs.map (·.1)) as → ReadsAll h (es.toList.map (·.val)) (kvs.map (·.2)) bs → PyData.hasDictAll (kvs.map (·.1)) = false → PyData.hasDictAll (kvs.map (·.2)) = false → RdN h (.ref a) (.dict kvs)
inductive RdNs (h : Heap) : List Value → List D → Prop
  | nil : RdNs h [] []
  | cons {v : Value} {vs : List Value} {d : D} {ds : List D} : RdN h v d → RdNs h vs ds → RdNs h (v :: vs) (d :: ds)
end
section
variable {P : Program} {w : World} {h : Heap}
mutual
theorem RdN.reads : ∀ {v : Value} {d : D}, RdN h v d → ∃ as, Reads h v d as
  | _, _, .pl r _ => ⟨_, r⟩
  | _, _, .ls a b c t => let ⟨_, q⟩ := RdNs.reads t; ⟨_, .list a b c q⟩
  | _, _, .tu a b c t => let ⟨_, q⟩ := RdNs.reads t; ⟨_, .tuple a b c q⟩
  | _, _, .di a b c _ k v _ _ => ⟨_, .dict a b c k v⟩
theorem RdNs.reads : ∀ {v : List Value} {d : List D}, RdNs h v d → ∃ as, ReadsAll h v d as
  | _, _, .nil => ⟨_, .nil⟩
  | _, _, .cons r t => let ⟨_, q⟩ := RdN.reads r; let ⟨_, q2⟩ := RdNs.reads t; ⟨_, .cons q q2⟩
end
theorem no_sys {b : Bool} {as : List Addr} (hb : b = false) : b = true → sysModules ∉ as := fun z => by rw [hb] at z; cases z
/-- a dict's entries -/
theorem ents {es : Array DictEntry} {kvs : List (D × D)} {as bs : List Addr} (k : ReadsAll h (es.toList.map (·.key)) (kvs.map (·.1)) as) (v : ReadsAll h (es.toList.map (·.val)) (kvs.map (·.2)) bs)
    (nk : PyData.hasDictAll (kvs.map (·.1)) = false) (nv : PyData.hasDictAll (kvs.map (·.2)) = false) (hs : PyData.showableKv kvs = true) (hz : (PyData.shown (.dict kvs)).length ≤ sizeLine) :
    ∃ cs, ReadAtMost h (PyData.depthKv kvs) cs ∧ ReprEntriesK P w cs h (PyData.depthKv kvs) es.toList (PyData.shownKv kvs) := by
  have z : (dictText (PyData.shownKv kvs)).length ≤ sizeLine := by
    simp only [PyData.shown] at hz
    exact hz
  have sp := PyData.showableKv_split kvs hs
  obtain ⟨c1, m1, r1⟩ := ReprAllK.of_readsAll (prog := P) (w := w) k sp.1 (no_sys nk) fun t ht => by
    obtain ⟨p, hp, hl⟩ := PyData.shownKv_key_le kvs t ht
    exact Nat.le_trans hl (Nat.le_trans (dictText_mem_le hp) z)
  obtain ⟨c2, m2, r2⟩ := ReprAllK.of_readsAll (prog := P) (w := w) v sp.2 (no_sys nv) fun t ht => by
    obtain ⟨p, hp, hl⟩ := PyData.shownKv_val_le kvs t ht
    exact Nat.le_trans hl (Nat.le_trans (dictText_mem_le hp) z)
  refine ⟨c1 ++ c2, (m1.mono (PyData.depthAll_keys_le kvs)).append (m2.mono (PyData.depthAll_vals_le kvs)), ?_⟩
  rw [PyData.shownKv_eq]
  refine ReprEntriesK.of_two es.toList _ _ (r1.more_le (fun b hb => ?_) (PyData.depthAll_keys_le kvs)) (r2.more_le (fun b hb => ?_) (PyData.depthAll_vals_le kvs))
  · exact List.mem_append.mpr (.inl hb)
  · exact List.mem_append.mpr (.inr hb)
mutual
theorem RdN.rep : ∀ {v : Value} {d : D}, RdN h v d → d.showable = true → d.shown.length ≤ sizeLine → ∃ bs, ReadAtMost h d.depth bs ∧ ReprK P w bs h d.depth v d.shown
  | _, _, .pl r n, hs, hz => ReprK.of_reads r hs (no_sys n) hz
  | _, _, @RdN.ls _ a o vs n xs e1 e2 e3 t, hs, hz => by
    have z : (listText (PyData.shownAll xs)).length ≤ sizeLine := by
      simp only [PyData.shown] at hz
      exact hz
    have s : PyData.showableAll xs = true := by
      simp only [PyData.showable] at hs
      exact hs
    obtain ⟨cs, m, r⟩ := RdNs.rep t s fun u hu => Nat.le_trans (listText_mem_le hu) z
    obtain ⟨as, q⟩ := t.reads
    have rd := Reads.list e1 e2 e3 q
    have dp : PyData.depth (.list xs) = PyData.depthAll xs + 1 := by simp only [PyData.depth]
    have out : a ∉ cs := not_mem_of_deeper rd (by rw [dp]; exact Nat.lt_succ_self _) m
    refine ⟨a :: cs, .cons rd (by rw [dp]; exact Nat.le_succ _) m, ?_⟩
    rw [dp]
    simp only [PyData.shown]
    revert e3 t q r
    obtain ⟨l⟩ := vs
    cases l with
    | nil =>
      intro e3 t r q
      have q' : ReadsAll h [] xs as := q
      cases q'
      rw [show listText (PyData.shownAll []) = ("[]" : Str) by simp only [PyData.shownAll, listText_nil]]
      exact ReprK.listEmpty e1 e2 e3
    | cons x l =>
      intro e3 t r q
      exact ReprK.list e1 e2 e3 out (by have := r.length_eq; simpa using this) fun i y ey => r.item i y (by simpa using ey)
  | _, _, @RdN.tu _ a o vs n xs e1 e2 e3 t, hs, hz => by
    have z : (tupleText (PyData.shownAll xs)).length ≤ sizeLine := by
      simp only [PyData.shown] at hz
      exact hz
    have s : PyData.showableAll xs = true := by
      simp only [PyData.showable] at hs
      exact hs
    obtain ⟨cs, m, r⟩ := RdNs.rep t s fun u hu => Nat.le_trans (tupleText_mem_le hu) z
    obtain ⟨as, q⟩ := t.reads
    have rd := Reads.tuple e1 e2 e3 q
    have dp : PyData.depth (.tuple xs) = PyData.depthAll xs + 1 := by simp only [PyData.depth]
    have out : a ∉ cs := not_mem_of_deeper rd (by rw [dp]; exact Nat.lt_succ_self _) m
    refine ⟨a :: cs, .cons rd (by rw [dp]; exact Nat.le_succ _) m, ?_⟩
    rw [dp]
    simp only [PyData.shown]
    exact ReprK.tuple e1 e2 e3 out r
  | _, _, @RdN.di _ a o es n kvs as bs e1 e2 e3 ns k v nk nv, hs, hz => by
    have s : PyData.showableKv kvs = true := by
      simp only [PyData.showable] at hs
      exact hs
    obtain ⟨cs, m, r⟩ := ents (P := P) (w := w) k v nk nv s hz
    have rd := Reads.dict e1 e2 e3 k v
    have dp : PyData.depth (.dict kvs) = PyData.depthKv kvs + 1 := by simp only [PyData.depth]
    have out : a ∉ cs := not_mem_of_deeper rd (by rw [dp]; exact Nat.lt_succ_self _) m
    refine ⟨a :: cs, .cons rd (by rw [dp]; exact Nat.le_succ _) m, ?_⟩
    rw [dp]
    simp only [PyData.shown]
    exact ReprK.dict e1 e2 e3 ns out r
theorem RdNs.rep : ∀ {v : List Value} {d : List D}, RdNs h v d → PyData.showableAll d = true → (∀ t ∈ PyData.shownAll d, t.length ≤ sizeLine) → ∃ bs, ReadAtMost h (PyData.depthAll d) bs ∧ ReprAllK P w bs h (PyData.depthAll d) v (PyData.shownAll d)
  | _, _, .nil, _, _ => ⟨[], (fun b hb => nomatch hb), by simp only [PyData.shownAll]; exact .nil⟩
  | _, _, @RdNs.cons _ v vs d ds r t, hs, hz => by
    simp only [PyData.showableAll, Bool.and_eq_true] at hs
    obtain ⟨c1, m1, r1⟩ := RdN.rep r hs.1 (hz _ (by simp [PyData.shownAll]))
    obtain ⟨c2, m2, r2⟩ := RdNs.rep t hs.2 fun u hu => hz u (by simp [PyData.shownAll, hu])
    have l1 : d.depth ≤ PyData.depthAll (d :: ds) := by simp only [PyData.depthAll]; exact Nat.le_max_left _ _
    have l2 : PyData.depthAll ds ≤ PyData.depthAll (d :: ds) := by simp only [PyData.depthAll]; exact Nat.le_max_right _ _
    refine ⟨c1 ++ c2, (m1.mono l1).append (m2.mono l2), ?_⟩
    simp only [PyData.shownAll]
    refine .cons ((r1.more fun b hb => ?_).level_le l1) (r2.more_le (fun b hb => ?_) l2)
    · exact List.mem_append.mpr (.inl hb)
    · exact List.mem_append.mpr (.inr hb)
end
/-- repr of what is read so -/
theorem repr_rdN {d : D} {A : Around} {E : Value → Shared → Prop} {s : Shared} {Q : Value → Shared → Prop} {a : Addr} (r : RdN s.heap (.ref a) d) (hs : d.showable = true) (hz : d.shown.length ≤ sizeLine) (hg : A.guards = some []) (hu : A.units + (d.depth + 1) < cLine)
    (hQ : ∀ h' u tk, (∀ b o, s.heap.get? b = some o → h'.get? b = some o) → Q (.str d.shown u) { s with heap := h', toks := tk }) : wpAny (model P w) A (call (.builtin "repr") [.ref a]) Q E s := by
  have nc : ∀ {as : List Addr}, ∀ b ∈ a :: as, Clear [] b := fun b _ => Clear.nil b
  cases r with
  | pl r n => exact repr_of_reads' r hs (no_sys n) hg hu (fun _ _ e => e) hQ hz
  | ls e1 e2 e3 t =>
    rename_i o vs n xs
    have z : (listText (PyData.shownAll xs)).length ≤ sizeLine := by
      simp only [PyData.shown] at hz
      exact hz
    have sa : PyData.showableAll xs = true := by
      simp only [PyData.showable] at hs
      exact hs
    obtain ⟨cs, m, r⟩ := RdNs.rep (P := P) (w := w) t sa fun u hu => Nat.le_trans (listText_mem_le hu) z
    obtain ⟨as, q⟩ := t.reads
    have dp : PyData.depth (.list xs) = PyData.depthAll xs + 1 := by simp only [PyData.depth]
    have out : a ∉ cs := not_mem_of_deeper (Reads.list e1 e2 e3 q) (by rw [dp]; exact Nat.lt_succ_self _) m
    rw [dp] at hu
    simp only [PyData.shown] at hQ
    have hu2 : A.in1.units + (PyData.depthAll xs + 1) < cLine := by show A.units + 1 + (PyData.depthAll xs + 1) < cLine; omega
    refine call_repr_slot (by omega) ⟨o, e1, e2⟩ F.slot_list_repr.toG ?_
    revert e3 t q r
    obtain ⟨l⟩ := vs
    cases l with
    | nil =>
      intro e3 t r q
      have q' : ReadsAll s.heap [] xs as := q
      cases q'
      rw [show listText (PyData.shownAll []) = ("[]" : Str) by simp only [PyData.shownAll, listText_nil]] at hQ
      exact call_list_repr_empty ⟨o, e1, e2⟩ e1 e3 ⟨_, _, rfl, hQ s.heap _ _ fun _ _ e => e⟩
    | cons x l =>
      intro e3 t r q
      exact call_list_reprK e1 e2 e3 out (by have := r.length_eq; simpa using this) (fun i y ey => r.item i y (by simpa using ey)) hg nc hu2 (fun _ _ e => e) (fun h' u tk k => ⟨_, _, rfl, hQ h' u tk k⟩) z
  | tu e1 e2 e3 t =>
    rename_i o vs n xs
    have z : (tupleText (PyData.shownAll xs)).length ≤ sizeLine := by
      simp only [PyData.shown] at hz
      exact hz
    have sa : PyData.showableAll xs = true := by
      simp only [PyData.showable] at hs
      exact hs
    obtain ⟨cs, m, r⟩ := RdNs.rep (P := P) (w := w) t sa fun u hu => Nat.le_trans (tupleText_mem_le hu) z
    obtain ⟨as, q⟩ := t.reads
    have dp : PyData.depth (.tuple xs) = PyData.depthAll xs + 1 := by simp only [PyData.depth]
    have out : a ∉ cs := not_mem_of_deeper (Reads.tuple e1 e2 e3 q) (by rw [dp]; exact Nat.lt_succ_self _) m
    rw [dp] at hu
    simp only [PyData.shown] at hQ
    have hu2 : A.in1.units + (PyData.depthAll xs + 1) < cLine := by show A.units + 1 + (PyData.depthAll xs + 1) < cLine; omega
    exact call_repr_slot (by omega) ⟨o, e1, e2⟩ F.slot_tuple_repr (call_tuple_reprK e1 e2 e3 out r hg nc hu2 (fun _ _ e => e) (fun h' u tk k => ⟨_, _, rfl, hQ h' u tk k⟩) z)
  | di e1 e2 e3 ns k v nk nv =>
    rename_i o es n kvs as bs
    have sa : PyData.showableKv kvs = true := by
      simp only [PyData.showable] at hs
      exact hs
    obtain ⟨cs, m, r⟩ := ents (P := P) (w := w) k v nk nv sa hz
    have dp : PyData.depth (.dict kvs) = PyData.depthKv kvs + 1 := by simp only [PyData.depth]
    have out : a ∉ cs := not_mem_of_deeper (Reads.dict e1 e2 e3 k v) (by rw [dp]; exact Nat.lt_succ_self _) m
    rw [dp] at hu
    simp only [PyData.shown] at hQ hz
    have hu2 : A.in1.units + (PyData.depthKv kvs + 1) < cLine := by show A.units + 1 + (PyData.depthKv kvs + 1) < cLine; omega
    exact call_repr_slot (by omega) ⟨o, e1, e2⟩ F.slot_dict_repr (call_dict_reprK e1 e2 e3 ns out r hg nc hu2 (fun _ _ e => e) (fun h' u tk k => ⟨_, _, rfl, hQ h' u tk k⟩) hz)
end
/-! ### off the layer's heap -/
theorem pairs_reads {P : Program} {w : World} {h : Heap} : ∀ {es : List DictEntry} {ks : List (Int × Int)} {vs : List (Key × Value)}, KV (ks.map fun p => ((.inl p.1 : Key), V.int p.2)) vs → PySem.Pairs (mixKind P w) es vs →
    ReadsAll h (es.map (·.key)) (ks.map fun p => PyData.int p.1) [] ∧ ReadsAll h (es.map (·.val)) (ks.map fun p => PyData.int p.2) []
  | _, [], _, kv, p => by
    cases kv
    cases p
    exact ⟨.nil, .nil⟩
  | _, k :: ks, _, kv, p => by
    cases kv with
    | cons r t =>
      cases p with
      | cons hk hv hp =>
        obtain ⟨q1, q2⟩ := pairs_reads t hp
        obtain ⟨r1, tk, r2⟩ := r
        rw [← r1] at hk
        have hk2 : keyIs (.inl k.1) _ = true := hk
        rcases keyIs_shape hk2 with ⟨i, t1, e1, e2⟩ | ⟨x, t1, e1, e2⟩
        · cases e1
          refine ⟨?_, ?_⟩
          · rw [List.map_cons, e2]
            exact ReadsAll.cons (.int _ _) q1
          · rw [List.map_cons, hv, r2]
            exact ReadsAll.cons (.int _ _) q2
        · cases e1
end PL
end

section
set_option Elab.async false
set_option linter.all false
set_option maxRecDepth 100000
set_option maxHeartbeats 1000000
/-! PLE3: repr of data. -/
namespace PL
open PySem PySem.Spec PyProof.Rows L2
mutual
theorem plain_noDict : ∀ {d : D}, d.plain = true → d.hasDict = false
  | .none, _ => rfl
  | .bool _, _ => rfl
  | .int _, _ => rfl
  | .str _, _ => rfl
  | .list xs, h => by
    simp only [PyData.plain] at h
    simp only [PyData.hasDict]
    exact plain_noDicts h
  | .tuple xs, h => by
    simp only [PyData.plain] at h
    simp only [PyData.hasDict]
    exact plain_noDicts h
  | .dict _, h => by simp [PyData.plain] at h
theorem plain_noDicts : ∀ {d : List D}, PyData.plainAll d = true → PyData.hasDictAll d = false
  | [], _ => rfl
  | d :: ds, h => by
    simp only [PyData.plainAll, Bool.and_eq_true] at h
    simp only [PyData.hasDictAll, plain_noDict h.1, plain_noDicts h.2, Bool.or_self]
end
theorem ints_noDict : ∀ ks : List (Int × Int), PyData.hasDictAll (ks.map fun p => PyData.int p.1) = false ∧ PyData.hasDictAll (ks.map fun p => PyData.int p.2) = false
  | [] => ⟨rfl, rfl⟩
  | k :: ks => by simp [PyData.hasDictAll, PyData.hasDict, ints_noDict ks]
section
variable {X : Cx} {pins : List (Addr × Obj)} {σ : L2.St} {H : Hp} {s : Shared} {M : Ma}
mutual
theorem Rv.rdn (I : L2.Inv X pins σ H s) : ∀ {d : D} {v : V} {u : Value}, Rv M H d v → shp d = true → RelV v u → RdN s.heap u d
  | _, _, _, .non, _, r => by cases r; exact .pl .none rfl
  | _, _, _, .bl b, _, r => by cases r; exact .pl (.bool b) rfl
  | _, _, _, .int i, _, r => by obtain ⟨t, rfl⟩ := r; exact .pl (.int i t) rfl
  | _, _, _, .str x, _, r => by obtain ⟨t, rfl⟩ := r; exact .pl (.str x t) rfl
  | _, _, _, .tup h n q, p, r => by
    cases r
    obtain ⟨its, rv, ⟨o, ho, hc, n, hd⟩, _⟩ := I.tuple h.sq
    exact .tu ho hc hd (Rvs.rdn I q (by simpa [shp] using p) rv)
  | _, _, _, .lst h n q, p, r => by
    cases r
    obtain ⟨its, rv, ⟨o, n, ho, hc, _, hd⟩, _⟩ := I.list (SqL.of h)
    exact .ls ho hc hd (Rvs.rdn I q (by simpa [shp] using p) rv)
  | _, _, _, .scr h q, p, r => by simp [shp, isI] at p
  | _, _, _, .ref h, p, r => by simp [shp, isI] at p
  | _, _, _, .exn h, p, r => by simp [shp, isI] at p
  | _, _, _, .exnA h _ _, p, r => by simp [shp, isI] at p
  | _, _, _, .exnH _ _ _, p, r => by simp [shp, isI] at p
  | _, _, _, .exaH _ _ _ _ _, p, r => by simp [shp, isI] at p
  | _, _, _, @Rv.dct _ _ a kvs ks e h n, p, r => by
    subst e
    cases r
    obtain ⟨_, ns, vs, kv, o, es, ep, ho, ex, hd, _, pr, _⟩ := I.hok a _ h
    obtain ⟨q1, q2⟩ := pairs_reads kv pr
    obtain ⟨n1, n2⟩ := ints_noDict ks
    refine .di (as := []) (bs := []) ho ex.1 hd ns ?_ ?_ ?_ ?_
    · rw [List.map_map]; exact q1
    · rw [List.map_map]; exact q2
    · rw [List.map_map]; exact n1
    · rw [List.map_map]; exact n2
theorem Rvs.rdn (I : L2.Inv X pins σ H s) : ∀ {ds : List D} {vs : List V} {us : List Value}, Rvs M H ds vs → shps ds = true → Vals vs us → RdNs s.heap us ds
  | _, _, _, .nil, _, r => by cases r; exact .nil
  | _, _, _, .cons q t, p, r => by
    cases r with
    | cons r1 r2 =>
      simp only [shps, Bool.and_eq_true] at p
      exact .cons (Rv.rdn I q p.1 r1) (Rvs.rdn I t p.2 r2)
end
theorem emb_rdn {P : Pg} {S : Sto} {d : D} {v : V} {u : Value} (em : P.Emb M H S) (I : L2.Inv X pins σ H s) (r : Rv M H d v) (p : shp (PL.val S d) = true) (ru : RelV v u) : RdN s.heap u (PL.val S d) := by
  unfold PL.val at p ⊢
  cases q : lstD S d with
  | none => rw [q] at p; exact r.rdn I p ru
  | some xs =>
    rw [q] at p
    obtain ⟨a, vs, rfl, h1, h2⟩ := em.lst q r
    cases ru
    obtain ⟨its, rv, ⟨o, n, ho, hc, _, hd⟩, _⟩ := I.list (SqL.of h1)
    exact .ls ho hc hd (h2.rdn I (by simpa [shp] using p) rv)
end
section
variable {P : Pg} {Γ : Ga} {X : Cx} {Z : ZX}
theorem b_repr (F : Fit P Γ X) : CallR X (.builtin "repr") (rs P Z (biD .repr)) := by
  intro pins s σ H xs us Q I r ⟨M, S, ds, em, rv, h⟩
  obtain ⟨w, hw, k⟩ := h.oret
  cases ds with
  | nil => cases hw
  | cons d ds =>
    cases ds with
    | cons _ _ => cases hw
    | nil =>
      simp only [bi1, reprD] at hw
      split at hw
      · rename_i c
        cases hw
        unfold showOk at c
        simp only [Bool.and_eq_true, decide_eq_true_eq] at c
        obtain ⟨⟨⟨c1, c2⟩, c3⟩, c4⟩ := c
        cases rv with
        | cons r1 t1 =>
          cases t1
          obtain ⟨u, rfl, ru⟩ := vals1 r
          have rd := emb_rdn em I r1 c1 ru
          have hk := k.ok em (.str _)
          generalize hd : PL.val S d = e at *
          have big : ∀ {a : Addr}, RdN s.heap (.ref a) e → wpAny (model X.prog X.w) X.A (call (.builtin "repr") [.ref a]) (EP X pins σ Q) X.xe s := fun {a} rd =>
            repr_rdN rd c2 (by rw [← lim_eq]; exact c4) F.guards (by have := F.units; unfold depthMax at c3; omega) fun h' u tk hk2 => ⟨.str _, H, I.kept (t' := tk) hk2, ⟨_, rfl⟩, hk⟩
          cases rd with
          | pl rr n =>
            cases rr with
            | none => exact PySem.P.repr_of_none ⟨.str "None", H, I.tok _, ⟨_, rfl⟩, hk⟩
            | bool b => exact PySem.P.repr_of_bool ⟨.str _, H, I.tok _, ⟨_, rfl⟩, hk⟩
            | int i t => exact PySem.P.repr_of_int (by simpa [PyData.showable] using c2) ⟨.str _, H, I.tok _, ⟨_, rfl⟩, hk⟩
            | str x t => exact PySem.P.repr_of_str ⟨.str _, H, I.tok _, ⟨_, rfl⟩, hk⟩ (by rw [← lim_eq]; exact c4)
            | list g1 g2 g3 g4 => exact big (.pl (.list g1 g2 g3 g4) n)
            | tuple g1 g2 g3 g4 => exact big (.pl (.tuple g1 g2 g3 g4) n)
            | dict g1 g2 g3 g4 g5 => exact big (.pl (.dict g1 g2 g3 g4 g5) n)
          | ls g1 g2 g3 g4 => exact big (.ls g1 g2 g3 g4)
          | tu g1 g2 g3 g4 => exact big (.tu g1 g2 g3 g4)
          | di g1 g2 g3 g4 g5 g6 g7 g8 => exact big (.di g1 g2 g3 g4 g5 g6 g7 g8)
      · cases hw
theorem pairsOf_eq : ∀ {ds : List D} {ps : List (Int × Int)}, pairsOf ds = some ps → ds = ps.map pairD
  | [], _, h => by cases h; rfl
  | d :: r, ps, h => by
    unfold pairsOf at h
    split at h
    · rename_i e; cases e
    · rename_i i j r' e
      cases e
      cases q : pairsOf r with
      | none => rw [q] at h; cases h
      | some l =>
        rw [q] at h
        cases h
        rw [List.map_cons, ← pairsOf_eq q]
        rfl
    · cases h
theorem minP_mem (p : Int × Int) : ∀ ps : List (Int × Int), minP p ps ∈ p :: ps := by
  intro ps
  unfold minP
  induction ps generalizing p with
  | nil => simp
  | cons q r ih =>
    rw [List.foldl_cons]
    rcases List.mem_cons.mp (ih (if ltPr q p = true then q else p)) with h | h
    · rw [h]
      split
      · simp
      · simp
    · simp [h]
theorem pair_plain (ps : List (Int × Int)) : PyData.plainAll (ps.map pairD) = true := by
  induction ps with
  | nil => rfl
  | cons p r ih => simp only [List.map_cons, PyData.plainAll, pairD, PyData.plain, ih, Bool.and_self]
theorem b_min (hc : X.calm = true) (F : Fit P Γ X) : CallR X (.builtin "min") (rs P Z (biD .min1)) := by
  intro pins s σ H xs us Q I r ⟨M, S, ds, em, rv, h⟩
  obtain ⟨w, hw, k⟩ := h.oret
  cases ds with
  | nil => cases hw
  | cons d ds =>
    cases ds with
    | cons _ _ => cases hw
    | nil =>
      simp only [bi1, minD] at hw
      cases e1 : lstD S d with
      | none => rw [e1] at hw; cases hw
      | some ys =>
        cases e2 : pairsOf ys with
        | none => simp [e1, e2] at hw
        | some ps =>
          simp only [e1, e2, Option.bind_some] at hw
          cases ps with
          | nil => cases hw
          | cons p ps =>
            cases hw
            have ey := pairsOf_eq e2
            subst ey
            cases rv with
            | cons r1 t1 =>
              cases t1
              obtain ⟨a, vs, rfl, h1, q1⟩ := em.lst e1 r1
              obtain ⟨u, rfl, ru⟩ := vals1 r
              cases ru
              obtain ⟨its, r2, pl, hz⟩ := I.list (SqL.of h1)
              have dps := q1.dp (K := X.K) (pair_plain (p :: ps))
              obtain ⟨as, rd⟩ := Dp.readsAll I _ _ its dps r2
              have hu := F.units
              have hdp : PySem.W.Datum.depth (Int × Int) ≤ 10 := by decide
              have ed : ∀ l : List (Int × Int), l.map pairD = l.map PySem.W.Datum.toD := fun l => rfl
              refine PySem.W.min_list_datum (x := p) (xs := ps) (I.ok.hd hc) pl.isList ⟨as, by rw [← ed]; simpa using rd⟩ (by omega) fun i v h' tk hi ⟨bs, hr⟩ hk => ?_
              have I2 : L2.Inv X pins σ H { s with heap := h', toks := tk } := I.kept hk
              have hi' : its[i]? = some v := by simpa using hi
              have hlt : i < (p :: ps).length := by
                have h2 := (List.getElem?_eq_some_iff.mp hi').1
                have h3 := r2.length
                have h4 := q1.length
                rw [List.length_map] at h4
                omega
              obtain ⟨y, hy, _⟩ := q1.get' (i := i) (d := ((p :: ps).map pairD)[i]'(by rw [List.length_map]; exact hlt)) (List.getElem?_eq_getElem _)
              obtain ⟨v', hv', ry⟩ := r2.get hy
              rw [hi'] at hv'
              cases hv'
              obtain ⟨d', hd', rd'⟩ := q1.get hy
              refine ⟨y, H, I2, ry, ?_⟩
              obtain ⟨as2, rr⟩ := Dp.reads I2 _ _ v (rd'.dp (K := X.K) (by
                have hm := List.mem_of_getElem? hd'
                obtain ⟨z, _, rfl⟩ := List.mem_map.mp hm
                rfl)) ry
              have e := PySem.SeqAt.plain_unique _ _ v _ _ (by rfl) hr rr
              have hmin : pairD (minP p ps) = d' := e
              rw [hmin] at k
              exact k.ok em rd'
end
end PL
end

section
set_option Elab.async false
set_option linter.all false
set_option maxRecDepth 100000
set_option maxHeartbeats 1000000
/-! PLF: sorted, methods, isinstance, repr by values. -/
namespace PL
open PySem PySem.Spec PyProof.Rows L2
theorem isort_perm (ns : List Int) : (isort ns).Perm ns := List.mergeSort_perm ..
theorem isort_sorted (ns : List Int) : (isort ns).Pairwise (· ≤ ·) := by
  have h := List.pairwise_mergeSort (le := fun a b : Int => decide (a ≤ b)) (fun a b c h1 h2 => by simp only [decide_eq_true_eq] at *; omega) (fun a b => by simp only [Bool.or_eq_true, decide_eq_true_eq]; omega) ns
  exact h.imp fun q => by simpa using q
theorem isort_of {ns ms : List Int} (p : ms.Perm ns) (s : ms.Pairwise (· ≤ ·)) : ms = isort ns := by
  refine List.Perm.eq_of_pairwise (le := fun a b : Int => a ≤ b) ?_ s (isort_sorted ns) (p.trans (isort_perm ns).symm)
  intro a b _ _ h1 h2
  omega
theorem Rvs.ofInts {M : Ma} {H : Hp} : ∀ ns : List Int, Rvs M H (ns.map PyData.int) (ns.map V.int)
  | [] => .nil
  | n :: ns => .cons (.int n) (Rvs.ofInts ns)
section
variable {prog : Program} {w : World} {A : Around} {E : Value → Shared → Prop} {s : Shared}
/-- sorted(x) of a list or a tuple of ints -/
theorem sorted_ints {l : Addr} {T : String} {o : Obj} {items : Array Value} {n : Nat} {ns : List Int} {Q : Value → Shared → Prop} (hT : T = "list" ∨ T = "tuple")
    (ho : s.heap.get? l = some o) (hc : o.cls = .type T) (hd : o.data = .seq items n) (hi : IntsAre items.toList ns) (hz : items.size ≤ sizeLine)
    (h : ∀ (h1 h2 : Heap) (out : List Value) (c : Nat), (∀ b o, s.heap.get? b = some o → h1.get? b = some o) → (∀ b o, h1.get? b = some o → h2.get? b = some o) → h2.get? h1.objs.size = some (seqObj "list" out.toArray c) → IntsAre out (isort ns) → Q (.ref h1.objs.size) { s with heap := h2 }) :
    wpAny (model prog w) A (call (.builtin "sorted") [.ref l]) Q E s := by
  refine Calls.call_function_entry kind_sorted plain_sorted entry_sorted (args_sorted1 _) ?_
  unfold Builtin.«sorted»
  refine wpAny_bind (m := checkCount "sorted" 1 1 _) (wpAny_pure ?_)
  refine wpAny_bind (wpAny_collect_seq l hT ho hc hd (fun h1 k1 => ?_) hz)
  refine wpAny_bind (wpAny_newList ?_ (by rw [Array.length_toList]; exact hz))
  have hoL : (h1.push (seqObj "list" items.toList.toArray 0)).get? h1.objs.size = some (seqObj "list" items.toList.toArray 0) := Heap.get?_push_size _ rfl
  refine wpAny_bind (wpAny_holding (wpAny_call_entry slot_list_sort ⟨_, hoL, rfl⟩ entry_list_sort
    (SrtO.list_sort_ord SrtO.swo_int hoL (by rw [Array.length_toList]; exact hz) (fun h2 => SrtO.ints_sortable hi h2) fun out hs hb => ⟨_, rfl, ?_⟩) (args_list_sort _)))
  obtain ⟨e1, e2, e3⟩ := SrtO.ints_out hi hs hb
  obtain ⟨c, hc'⟩ := sortedHeap_at (vs := items.toList) (out := out.toArray) hoL
  refine wpAny_pure ⟨_, rfl, h h1 _ out c k1 (fun b u e => ?_) hc' (by rw [← isort_of e2 e3]; exact e1)⟩
  have hlt := Heap.lt_size e
  show (sortedHeap (h1.push (seqObj "list" items.toList.toArray 0)) h1.objs.size items.toList out.toArray).get? b = some u
  rw [sortedHeap_old (Nat.ne_of_lt hlt) (by rw [size_push']; exact Nat.lt_succ_of_lt hlt)]
  exact Heap.get?_push_of_some _ e
end
section
variable {P : Pg} {X : Cx} {M : Ma} {H : Hp}
theorem b_sortedI {pins : List (Addr × Obj)} {s : Shared} {σ : L2.St} {S : Sto} {us : List Value} {zs : List D} {ns : List Int} {d : D} {v : V} {Q : VK} (I : L2.Inv X pins σ H s) (rx : Vals [v] us) (em : P.Emb M H S) (e : seqD S d = some zs) (e2 : intsOf zs = some ns) (r : Rv M H d v) (hl : ((isort ns).map PyData.int).length ≤ lim)
    (hk : ∀ M' H' p vs, Ext M H M' H' → P.Emb M' H' S → Rvs M' H' ((isort ns).map .int) vs → H' p = none → Q (.ref p) (upd H' p (.lst vs))) : wpAny (model X.prog X.w) X.A (call (.builtin "sorted") us) (EP X pins σ Q) X.xe s := by
  obtain ⟨a, vs, rfl, h1, q1⟩ := em.seq e r
  have := q1.ints e2
  subst this
  rw [Vals.ref1 rx]
  have key : ∀ {T : String} {o : Obj} {its : List Value} {n : Nat}, (T = "list" ∨ T = "tuple") → s.heap.get? a = some o → o.cls = .type T → o.data = .seq its.toArray n → Vals (ns.map V.int) its → its.length ≤ sizeLine →
      wpAny (model X.prog X.w) X.A (call (.builtin "sorted") [.ref a]) (EP X pins σ Q) X.xe s := by
    intro T o its n hT ho hc hd rv hz
    refine sorted_ints (ns := ns) hT ho hc hd (by simpa using rv.ints) (by simpa using hz) fun h1 h2 out c k1 k2 g e3 => ?_
    have I1 : L2.Inv X pins σ H { s with heap := h1 } := I.kept (t' := s.toks) k1
    have hn : H h1.objs.size = none := I1.hok.fresh (Nat.le_refl _)
    refine ⟨.ref h1.objs.size, upd H h1.objs.size (.lst ((isort ns).map V.int)), I1.laid (t' := s.toks) k2 (Nat.le_refl _) ⟨?_, out, c, ?_, g⟩, rfl, ?_⟩
    · simp only [List.length_map] at hl ⊢
      rw [← lim_eq]; exact hl
    · exact vals_of_ints e3
    · exact hk M H _ _ Ext.refl em (Rvs.ofInts _) hn
  rcases h1 with h1 | h1
  · obtain ⟨hz, its, n, rv, hob⟩ := I.hok a _ h1
    exact key (.inl rfl) hob rfl rfl rv (by rw [← rv.length]; exact hz)
  · obtain ⟨its, rv, ⟨o, ho, hc, n, hd⟩, hz⟩ := I.tuple (h1.sq)
    exact key (.inr rfl) ho hc hd rv (by rw [← rv.length]; exact hz)
end
end PL
end

section
set_option Elab.async false
set_option linter.all false
set_option maxRecDepth 100000
set_option maxHeartbeats 1000000
/-! PLF2: sorted of tuples whose first is a whole number. -/
namespace PL
open PySem PySem.Spec PyProof.Rows L2
section
variable {prog : Program} {w : World} {A : Around} {E : Value → Shared → Prop} {s : Shared}
/-- sorted(x) of a list or a tuple, by what its items say of each other -/
theorem sorted_any {l : Addr} {T : String} {o : Obj} {items : Array Value} {n : Nat} {ltv : Value → Value → Bool} {Q : Value → Shared → Prop} (hT : T = "list" ∨ T = "tuple") (O : SrtO.Swo ltv)
    (ho : s.heap.get? l = some o) (hc : o.cls = .type T) (hd : o.data = .seq items n) (hz : items.size ≤ sizeLine)
    (hS : 2 ≤ items.toList.length → ∀ (h1 : Heap) (a : Addr), (∀ b o, s.heap.get? b = some o → h1.get? b = some o ∧ b ≠ a) → SrtO.SortableO prog w A.in1.in1 { s with heap := h1 } a items.toList ltv)
    (h : ∀ (h1 h2 : Heap) (out : List Value) (c : Nat), (∀ b o, s.heap.get? b = some o → h1.get? b = some o) → (∀ b o, h1.get? b = some o → h2.get? b = some o) → h2.get? h1.objs.size = some (seqObj "list" out.toArray c) →
      SrtO.Srtd ltv out → SrtO.Stb ltv out items.toList → Q (.ref h1.objs.size) { s with heap := h2 }) :
    wpAny (model prog w) A (call (.builtin "sorted") [.ref l]) Q E s := by
  refine Calls.call_function_entry kind_sorted plain_sorted entry_sorted (args_sorted1 _) ?_
  unfold Builtin.«sorted»
  refine wpAny_bind (m := checkCount "sorted" 1 1 _) (wpAny_pure ?_)
  refine wpAny_bind (wpAny_collect_seq l hT ho hc hd (fun h1 k1 => ?_) hz)
  refine wpAny_bind (wpAny_newList ?_ (by rw [Array.length_toList]; exact hz))
  have hoL : (h1.push (seqObj "list" items.toList.toArray 0)).get? h1.objs.size = some (seqObj "list" items.toList.toArray 0) := Heap.get?_push_size _ rfl
  have kp : ∀ b o, s.heap.get? b = some o → (h1.push (seqObj "list" items.toList.toArray 0)).get? b = some o ∧ b ≠ h1.objs.size := fun b o e => ⟨Heap.get?_push_of_some _ (k1 b o e), Nat.ne_of_lt (Heap.lt_size (k1 b o e))⟩
  refine wpAny_bind (wpAny_holding (wpAny_call_entry slot_list_sort ⟨_, hoL, rfl⟩ entry_list_sort
    (SrtO.list_sort_ord O hoL (by rw [Array.length_toList]; exact hz) (fun h2 => hS h2 _ _ kp) fun out hs hb => ⟨_, rfl, ?_⟩) (args_list_sort _)))
  obtain ⟨c, hc'⟩ := sortedHeap_at (vs := items.toList) (out := out.toArray) hoL
  refine wpAny_pure ⟨_, rfl, h h1 _ out c k1 (fun b u e => ?_) hc' hs hb⟩
  have hlt := Heap.lt_size e
  show (sortedHeap (h1.push (seqObj "list" items.toList.toArray 0)) h1.objs.size items.toList out.toArray).get? b = some u
  rw [sortedHeap_old (Nat.ne_of_lt hlt) (by rw [size_push']; exact Nat.lt_succ_of_lt hlt)]
  exact Heap.get?_push_of_some _ e
/-- the sort's own look at two tuples -/
theorem katlex_d : ∀ (ds es : List D) (vs ws : List Value) (as bs : List Addr) (i : Nat) (k fin : Bool) (Q : Bool → Shared → Prop), ReadsAll s.heap vs ds as → ReadsAll s.heap ws es bs → ltDs ds es = some k → A.units + 60 < cLine → (i = 0 → ∃ x y, ds.head? = some (.int x) ∧ es.head? = some (.int y)) →
    fin = decide (vs.length < ws.length) → Q k s → PySem.W.KatLex prog w A true fin Q (vs.zip ws) i s
  | [], [], _, _, _, _, i, k, fin, Q, ra, rb, h, hu, h0, hf, hq => by
    cases ra
    cases rb
    cases h
    rw [hf]
    exact PySem.W.kat_nil hq
  | [], e :: es, _, _, _, _, i, k, fin, Q, ra, rb, h, hu, h0, hf, hq => by
    cases ra
    cases rb with
    | cons r2 t2 =>
      cases h
      rw [hf]
      refine PySem.W.kat_nil ?_
      simpa using hq
  | d :: ds, [], _, _, _, _, i, k, fin, Q, ra, rb, h, hu, h0, hf, hq => by
    cases rb
    cases ra with
    | cons r2 t2 =>
      cases h
      rw [hf]
      refine PySem.W.kat_nil ?_
      simpa using hq
  | d :: ds, e :: es, _, _, _, _, i, k, fin, Q, ra, rb, h, hu, h0, hf, hq => by
    cases ra with
    | cons r1 t1 =>
      cases rb with
      | cons r2 t2 =>
        obtain ⟨p1, p2, c⟩ := ltDs_cons h
        have d1 := eqOk_dec p1
        have d2 := eqOk_dec p2
        have hm : A.units + min d.depth e.depth < cLine := by
          have := d1.2
          unfold depthMax at this
          omega
        refine PySem.W.kat_cons (SeqAt.eqAt_plain d e A s _ _ _ _ r1 r2 d1.1 d2.1 hm prog w _ _ ?_)
        rcases c with ⟨c1, c2⟩ | ⟨c1, c2⟩
        · rw [c1]
          exact PySem.W.kat_yes (katlex_d ds es _ _ _ _ (i + 1) k fin Q t1 t2 c2 hu (fun z => by omega) (by rw [hf]; simp) hq)
        · rw [c1]
          refine PySem.W.kat_no ?_
          cases i with
          | zero =>
            obtain ⟨x, y, e1, e2⟩ := h0 rfl
            cases e1
            cases e2
            cases r1
            cases r2
            have e3 : ltD (.int x) (.int y) = some (decide (x < y)) := rfl
            rw [e3] at c2
            cases c2
            exact PyProof.Rows.oneLt_int hq
          | succ i =>
            have e3 : (true && i + 1 == 0) = false := by simp
            rw [e3]
            exact PySem.W.kat_one _ _ (rcLt_d d e A s _ _ _ _ k r1 r2 c2 hm prog w _ _ hq)
end
/-- what is told of an item: its data -/
noncomputable def dOf (h : Heap) (v : Value) : D := open Classical in if c : ∃ d as, Reads h v d as ∧ d.plain = true then c.choose else .none
theorem dOf_eq {h : Heap} {v : Value} {d : D} {as : List Addr} (r : Reads h v d as) (p : d.plain = true) : dOf h v = d := by
  have c : ∃ d as, Reads h v d as ∧ d.plain = true := ⟨d, as, r, p⟩
  unfold dOf
  rw [dif_pos c]
  obtain ⟨bs, q, p2⟩ := c.choose_spec
  exact (SeqAt.plain_unique d _ v _ _ p r q).symm
theorem swo_rank {α : Type} (rk : α → Nat) : SrtO.Swo fun x y => decide (rk x < rk y) := by
  refine ⟨fun x y h => ?_, fun x y z h1 h2 => ?_⟩
  · simp only [decide_eq_true_eq, decide_eq_false_iff_not] at *
    omega
  · simp only [decide_eq_false_iff_not] at *
    omega
section
variable {prog : Program} {w : World} {A : Around} {s : Shared}
theorem firsts_d {h : Heap} : ∀ {vs : List Value}, (∀ v ∈ vs, ∃ d as, Reads h v d as ∧ tupI d = true) → ∃ fs : List Value, PySem.W.KatTups h vs fs ∧ fs.length = vs.length ∧ ∀ f ∈ fs, ∃ x t, f = Value.int x t
  | [], _ => ⟨[], PySem.W.KatTups.nil, rfl, fun _ hm => by simp at hm⟩
  | v :: vs, hp => by
    obtain ⟨fs, h1, h2, h3⟩ := firsts_d (vs := vs) fun v' hm => hp v' (List.mem_cons_of_mem _ hm)
    obtain ⟨d, as, rr, p⟩ := hp v List.mem_cons_self
    unfold tupI at p
    split at p
    · rename_i x r
      cases rr with
      | @tuple a o its n _ as1 g1 g2 g3 g4 =>
        obtain ⟨its⟩ := its
        have g4' : ReadsAll h its (.int x :: r) as := g4
        cases g4' with
        | cons q t =>
          cases q with
          | int _ tk =>
            refine ⟨.int x tk :: fs, PySem.W.KatTups.cons g1 g2 g3 rfl h1, by simp [h2], fun f hm => ?_⟩
            rcases List.mem_cons.mp hm with rfl | hm
            · exact ⟨_, _, rfl⟩
            · exact h3 f hm
    · cases p
theorem sortable_d {h0 : Heap} {a : Addr} {vs : List Value} {rk : D → Nat} (hn : 2 ≤ vs.length) (hu : A.units + 60 < cLine) (k0 : ∀ b o, h0.get? b = some o → s.heap.get? b = some o ∧ b ≠ a) (hp : ∀ v ∈ vs, ∃ d as, Reads h0 v d as ∧ tupI d = true ∧ eqOk d = true)
    (hr : ∀ v ∈ vs, ∀ u ∈ vs, ltD (dOf h0 v) (dOf h0 u) = some (decide (rk (dOf h0 v) < rk (dOf h0 u)))) : SrtO.SortableO prog w A s a vs fun v u => decide (rk (dOf h0 v) < rk (dOf h0 u)) := by
  intro h' keep
  have k1 : ∀ b o, h0.get? b = some o → h'.get? b = some o := fun b o e => keep b o (k0 b o e).2 (k0 b o e).1
  have hp' : ∀ v ∈ vs, ∃ d as, Reads h' v d as ∧ tupI d = true ∧ eqOk d = true ∧ dOf h0 v = d := fun v hv => by
    obtain ⟨d, as, r, p1, p2⟩ := hp v hv
    exact ⟨d, as, Reads.keeps k1 r, p1, p2, dOf_eq r (eqOk_dec p2).1⟩
  obtain ⟨fs, h1, h2, h3⟩ := firsts_d fun v hm => (let ⟨d, as, r, p, _⟩ := hp' v hm; ⟨d, as, r, p⟩)
  refine ⟨tuples' true, fun Q E hq => ?_, fun p q hm hm' => ?_⟩
  · refine PySem.W.kat_kind (T := .type "int") h1 (by omega) (fun f hm => ?_) (by rfl) ?_
    · obtain ⟨x, t, rfl⟩ := h3 f hm
      exact PySem.W.Looks.now
    · have e : (Value.type "int" != Value.type "tuple") = true := by first | decide +kernel | rfl | decide
      rw [e]
      exact hq
  · obtain ⟨d, as, r1, p1, p2, e1⟩ := hp' _ hm
    obtain ⟨e, bs, r2, p3, p4, e2⟩ := hp' _ hm'
    have hk := hr _ hm _ hm'
    show wpAny (model prog w) A (keyLt' (tuples' true) p.1 q.1) (fun r s' => s' = { s with heap := h' } ∧ r = decide (rk (dOf h0 p.1) < rk (dOf h0 q.1))) (fun _ _ => False) { s with heap := h' }
    rw [e1, e2] at hk ⊢
    unfold tupI at p1 p3
    split at p1
    · split at p3
      · rename_i x xs _ y ys
        generalize p.1 = v1 at r1 ⊢
        generalize q.1 = v2 at r2 ⊢
        cases r1 with
        | tuple g1 g2 g3 g4 =>
          cases r2 with
          | tuple f1 f2 f3 f4 =>
            refine PySem.W.kat_lt g1 g3 f1 f3 ?_
            exact katlex_d (s := { s with heap := h' }) _ _ _ _ _ _ 0 _ _ _ g4 f4 hk hu (fun _ => ⟨x, y, rfl, rfl⟩) (by simp) ⟨rfl, rfl⟩
      · cases p3
    · cases p1
end
theorem sortD_perm (xs : List D) : (sortD xs).Perm xs := List.mergeSort_perm ..
theorem sortD_rk {xs : List D} {rk : D → Nat} (h : ∀ x ∈ xs, ∀ y ∈ xs, ltD x y = some (decide (rk x < rk y))) : sortD xs = xs.mergeSort fun a b => decide (rk a ≤ rk b) := by
  have key : ∀ (f g : D → D → Bool), (∀ x ∈ xs, ∀ y ∈ xs, f x y = g x y) → xs.mergeSort f = xs.mergeSort g := fun f g hfg => by
    have e1 : xs = (xs.attach.map fun x => x.1) := by simp
    rw [e1, ← List.map_mergeSort (r := fun (x y : { x // x ∈ xs }) => f x.1 y.1) (fun a ha b hb => rfl), ← List.map_mergeSort (r := fun (x y : { x // x ∈ xs }) => g x.1 y.1) (fun a ha b hb => rfl)]
    congr 2
    funext x y
    exact hfg _ x.2 _ y.2
  unfold sortD
  refine key _ _ fun x hx y hy => ?_
  unfold leD
  rw [h y hy x hx]
  simp only [Option.getD_some]
  rw [Bool.eq_iff_iff]
  simp
theorem sortD_of {xs ys : List D} {rk : D → Nat} (h : ∀ x ∈ xs, ∀ y ∈ xs, ltD x y = some (decide (rk x < rk y))) (inj : ∀ x ∈ xs, ∀ y ∈ xs, rk x = rk y → x = y) (p : ys.Perm xs) (s : ys.Pairwise fun a b => rk a ≤ rk b) : ys = sortD xs := by
  have hs : (sortD xs).Pairwise fun a b => rk a ≤ rk b := by
    rw [sortD_rk h]
    have q := List.pairwise_mergeSort (le := fun a b : D => decide (rk a ≤ rk b)) (fun a b c h1 h2 => by simp only [decide_eq_true_eq] at *; omega) (fun a b => by simp only [Bool.or_eq_true, decide_eq_true_eq]; omega) xs
    exact q.imp fun q => by simpa using q
  have pp := p.trans (sortD_perm xs).symm
  refine List.Perm.eq_of_pairwise (le := fun a b : D => rk a ≤ rk b) ?_ s hs pp
  intro a b ha hb h1 h2
  exact inj a (p.mem_iff.mp ha) b ((sortD_perm xs).mem_iff.mp hb) (by omega)
section
variable {P : Pg} {Γ : Ga} {X : Cx} {Z : ZX} {M : Ma} {H : Hp}
theorem Rvs.mem_v : ∀ {ds : List D} {vs : List V} {us : List Value}, Rvs M H ds vs → Vals vs us → ∀ u ∈ us, ∃ d ∈ ds, ∃ v ∈ vs, Rv M H d v ∧ RelV v u
  | _, _, _, .nil, r, u, hu => by cases r; cases hu
  | _, _, _, .cons q t, r, u, hu => by
    cases r with
    | cons r1 r2 =>
      rcases List.mem_cons.mp hu with z | z
      · rw [z]
        exact ⟨_, List.mem_cons_self, _, List.mem_cons_self, q, r1⟩
      · obtain ⟨d, h1, v, h2, h3⟩ := Rvs.mem_v t r2 u z
        exact ⟨d, List.mem_cons_of_mem _ h1, v, List.mem_cons_of_mem _ h2, h3⟩
theorem Rvs.of_map {f : Value → D} {g : Value → V} : ∀ {us : List Value}, (∀ u ∈ us, Rv M H (f u) (g u)) → Rvs M H (us.map f) (us.map g)
  | [], _ => .nil
  | u :: us, h => .cons (h u List.mem_cons_self) (Rvs.of_map fun v hv => h v (List.mem_cons_of_mem _ hv))
theorem Rvs.map_d {f : Value → D} {h0 : Heap} : ∀ {ds : List D} {vs : List V} {us : List Value}, Rvs M H ds vs → Vals vs us → (∀ d v u, d ∈ ds → Rv M H d v → RelV v u → f u = d) → us.map f = ds
  | _, _, _, .nil, r, _ => by cases r; rfl
  | _, _, _, .cons q t, r, h => by
    cases r with
    | cons r1 r2 =>
      rw [List.map_cons, h _ _ _ List.mem_cons_self q r1, Rvs.map_d (h0 := h0) t r2 fun d v u hd => h d v u (List.mem_cons_of_mem _ hd)]
theorem b_sortedT {pins : List (Addr × Obj)} {s : Shared} {σ : L2.St} {S : Sto} {us : List Value} {zs ys : List D} {d : D} {v : V} {Q : VK} (hu : X.A.units + 100 < cLine) (I : L2.Inv X pins σ H s) (rx : Vals [v] us) (em : P.Emb M H S) (e : seqD S d = some zs) (r : Rv M H d v) (q : sortedT zs = some ys) (hl : ys.length ≤ lim)
    (hk : ∀ M' H' p vs, Ext M H M' H' → P.Emb M' H' S → Rvs M' H' ys vs → H' p = none → Q (.ref p) (upd H' p (.lst vs))) : wpAny (model X.prog X.w) X.A (call (.builtin "sorted") us) (EP X pins σ Q) X.xe s := by
  unfold sortedT at q
  split at q
  case isFalse => cases q
  rename_i c
  cases q
  obtain ⟨c1, rk, c2, c3⟩ := c
  obtain ⟨a, vs, rfl, h1, q1⟩ := em.seq e r
  rw [Vals.ref1 rx]
  have key : ∀ {T : String} {o : Obj} {its : List Value} {n : Nat}, (T = "list" ∨ T = "tuple") → s.heap.get? a = some o → o.cls = .type T → o.data = .seq its.toArray n → Vals vs its → its.length ≤ sizeLine →
      wpAny (model X.prog X.w) X.A (call (.builtin "sorted") [.ref a]) (EP X pins σ Q) X.xe s := by
    intro T o its n hT ho hc hd rv hz
    have rd : ∀ d v u, d ∈ zs → Rv M H d v → RelV v u → ∃ as, Reads s.heap u d as := fun d v u hd r1 r2 => by
      have p := (eqOk_dec (c1 d hd).2).1
      exact Dp.reads I d v u (r1.dp (K := X.K) p) r2
    have dd : ∀ d v u, d ∈ zs → Rv M H d v → RelV v u → dOf s.heap u = d := fun d v u hd r1 r2 => by
      obtain ⟨as, q⟩ := rd d v u hd r1 r2
      exact dOf_eq q (eqOk_dec (c1 d hd).2).1
    have it : ∀ u ∈ its, dOf s.heap u ∈ zs ∧ (∃ d as, Reads s.heap u d as ∧ tupI d = true ∧ eqOk d = true) ∧ Rv M H (dOf s.heap u) (backV u) ∧ ∃ t, u = Value.ref t := fun u hu => by
      obtain ⟨d, hd, v, hv, r1, r2⟩ := q1.mem_v rv u hu
      have e1 := dd d v u hd r1 r2
      obtain ⟨as, q⟩ := rd d v u hd r1 r2
      obtain ⟨p1, p2⟩ := c1 d hd
      rw [e1]
      unfold tupI at p1
      split at p1
      · obtain ⟨t, vs, rfl, g1, g2, g3⟩ := r1.tupI
        cases r2
        exact ⟨hd, ⟨_, as, q, rfl, p2⟩, r1, _, rfl⟩
      · cases p1
    have em2 : its.map (dOf s.heap) = zs := Rvs.map_d (h0 := s.heap) q1 rv dd
    refine sorted_any (items := its.toArray) (ltv := fun v u => decide (rk (dOf s.heap v) < rk (dOf s.heap u))) hT (swo_rank fun v => rk (dOf s.heap v)) ho hc hd (by simpa using hz) (fun h2 h1 a k => ?_) fun h1 h2 out c k1 k2 g hs hb => ?_
    · exact sortable_d (s := { s with heap := h1 }) (h0 := s.heap) h2 (by show X.A.units + 1 + 1 + 60 < cLine; omega) (fun b o e => k b o e) (fun v hv => (it v hv).2.1) fun v hv u hu => c2 _ (it v hv).1 _ (it u hu).1
    · have pm : ∀ u ∈ out, u ∈ its := fun u hu => by simpa using hb.perm.mem_iff.mp hu
      have eo : out.map (dOf s.heap) = sortD zs := by
        refine sortD_of c2 c3 ?_ ?_
        · rw [← em2]
          exact (by simpa using hb.perm : out.Perm its).map _
        · rw [List.pairwise_map]
          exact hs.imp fun q => by simpa using q
      have I1 : L2.Inv X pins σ H { s with heap := h1 } := I.kept (t' := s.toks) k1
      have hn : H h1.objs.size = none := I1.hok.fresh (Nat.le_refl _)
      have rr : Rvs M H (sortD zs) (out.map backV) := by
        rw [← eo]
        exact Rvs.of_map fun u hu => (it u (pm u hu)).2.2.1
      refine ⟨.ref h1.objs.size, upd H h1.objs.size (.lst (out.map backV)), I1.laid (t' := s.toks) k2 (Nat.le_refl _) ⟨?_, out, c, ?_, g⟩, rfl, ?_⟩
      · rw [← rr.length, ← lim_eq]
        exact hl
      · exact vals_back fun u hu => (it u (pm u hu)).2.2.2
      · exact hk M H _ _ Ext.refl em rr hn
  rcases h1 with h1 | h1
  · obtain ⟨hz, its, n, rv, hob⟩ := I.hok a _ h1
    exact key (.inl rfl) hob rfl rfl rv (by rw [← rv.length]; exact hz)
  · obtain ⟨its, rv, ⟨o, ho, hc, n, hd⟩, hz⟩ := I.tuple (h1.sq)
    exact key (.inr rfl) ho hc hd rv (by rw [← rv.length]; exact hz)
theorem b_sorted (F : Fit P Γ X) (r : Bool) : CallR X (.builtin "sorted") (rs P Z (biD (.sorted r))) := by
  intro pins s σ H xs us Q I rx ⟨M, S, ds, em, rd, h⟩
  obtain ⟨ys, ho, hk⟩ := Res.allo h
  obtain ⟨d, v, e0, rfl, r, q⟩ := rd.oneL ho
  obtain ⟨hl, hk⟩ := Res.alloc hk
  unfold sortedD at q
  cases e : seqD S d with
  | none => rw [e] at q; cases q
  | some zs =>
    cases e2 : intsOf zs with
    | none =>
      simp only [e, e2, Option.bind_some] at q
      exact b_sortedT (by have := F.units; omega) I rx em e r q hl hk
    | some ns =>
      simp only [e, e2, Option.bind_some, Option.some.injEq] at q
      subst q
      exact b_sortedI I rx em e e2 r hl hk
end
end PL
end

section
set_option Elab.async false
set_option linter.all false
set_option maxRecDepth 100000
set_option maxHeartbeats 1000000
/-! PLF3: sum of tuples. -/
namespace PL
open PySem PySem.Spec PyProof.Rows L2
/-- the items of the first i -/
def preT (tv : Nat → List Value) (i : Nat) : List Value := ((List.range i).map tv).flatten
theorem preT_succ (tv : Nat → List Value) (i : Nat) : preT tv (i + 1) = preT tv i ++ tv i := by
  unfold preT
  rw [List.range_succ, List.map_append, List.flatten_append]
  simp
theorem preT_le {tv : Nat → List Value} : ∀ {i n : Nat}, i ≤ n → (preT tv i).length ≤ (preT tv n).length
  | i, 0, h => by
    have : i = 0 := by omega
    subst this
    exact Nat.le_refl _
  | i, n + 1, h => by
    rcases Nat.lt_or_ge i (n + 1) with q | q
    · have := preT_le (tv := tv) (i := i) (n := n) (by omega)
      rw [preT_succ, List.length_append]
      omega
    · have : i = n + 1 := by omega
      subst this
      exact Nat.le_refl _
/-- where the total stands: the start, one of the items, or a new tuple -/
def TotAt (h : Heap) (n0 : Nat) (start : Addr) (It : Addr → Prop) (ta : Addr) (its : List Value) : Prop :=
  ((ta = start ∨ It ta) ∧ PyProof.Rows.IsTup h ta its.toArray) ∨ (n0 ≤ ta ∧ h.get? ta = some { cls := .type "tuple", data := .seq its.toArray })
theorem TotAt.tup {h : Heap} {n0 : Nat} {start ta : Addr} {It : Addr → Prop} {its : List Value} (t : TotAt h n0 start It ta its) : PyProof.Rows.IsTup h ta its.toArray := by
  rcases t with ⟨_, t⟩ | ⟨_, e⟩
  · exact t
  · exact ⟨_, e, rfl, _, rfl⟩
theorem tup_keep {h h' : Heap} {a : Addr} {its : Array Value} (t : PyProof.Rows.IsTup h a its) (k : ∀ o, h.get? a = some o → h'.get? a = some o) : PyProof.Rows.IsTup h' a its := by
  obtain ⟨o, e, c⟩ := t
  exact ⟨o, k _ e, c⟩
section
variable {prog : Program} {w : World} {A : Around} {R : Result → Shared → Prop} {I : Addr} {fp wr : List Addr} {n : Nat} {P : Nat → Value → Prop} {St : Nat → Heap → Prop}
theorem TotAt.keep {h h' : Heap} {n0 : Nat} {start ta : Addr} {It : Addr → Prop} {its : List Value} (t : TotAt h n0 start It ta its) (k : ∀ o, h.get? ta = some o → h'.get? ta = some o) : TotAt h' n0 start It ta its := by
  rcases t with ⟨q, t⟩ | ⟨q, t⟩
  · exact .inl ⟨q, tup_keep t k⟩
  · exact .inr ⟨q, k _ t⟩
theorem sum_loopT (W : Walks prog w A.in1 I fp wr n P St) (S : Addr) {h0 : Heap} {start : Addr} {tv : Nat → List Value} (hS0 : h0.objs.size ≤ S) (hfp : ∀ b ∈ fp, b < S) (hI0 : ∀ b ∈ wr, h0.objs.size ≤ b) (hlen : (preT tv n).length ≤ sizeLine)
    (hP : ∀ i v, P i v → ∃ a, v = .ref a ∧ PyProof.Rows.IsTup h0 a (tv i).toArray) :
    ∀ (k i : Nat) (s : Shared) (ta : Addr) (c : Nat), n - i = k → i ≤ n → St i s.heap → (∀ b o, h0.get? b = some o → s.heap.get? b = some o) →
    s.heap.get? S = some { cls := .type "list", dict := none, data := .seq #[.ref ta] c, slots := #[] } → (ta ≠ S ∧ ta ∉ wr) → TotAt s.heap h0.objs.size start (fun a => ∃ i v, P i v ∧ v = .ref a) ta (preT tv i) →
    (∀ s' ta', (∀ b o, h0.get? b = some o → s'.heap.get? b = some o) → s'.gens = s.gens → s'.drawn = s.drawn → s'.os = s.os → TotAt s'.heap h0.objs.size start (fun a => ∃ i v, P i v ∧ v = .ref a) ta' (preT tv n) → R (.ok (.ret (.ref ta'))) s') →
    codeAny (model prog w) A (.builtin "sum.loop" ⟨[.ref I, .ref S, rawInt 2, rawInt 0], []⟩) R s := by
  have hSf : S ∉ fp := fun h => Nat.lt_irrefl _ (hfp _ h)
  have hSw : S ∉ wr := fun h => hSf (W.sub _ h)
  have old : ∀ {b : Addr} {o : Obj}, h0.get? b = some o → b ≠ S ∧ b ∉ wr := fun e =>
    ⟨fun z => Nat.lt_irrefl _ (Nat.lt_of_lt_of_le (Heap.lt_size e) (z ▸ hS0)), fun z => Nat.lt_irrefl _ (Nat.lt_of_lt_of_le (Heap.lt_size e) (hI0 _ z))⟩
  intro k
  induction k with
  | zero =>
    intro i s ta c hk hi hst h0k hS hne hT hR
    have hin : i = n := by omega
    subst hin
    refine codeAny_builtin F.entry_sum_loop ?_
    rw [Around.under_plainId F.plain_sum_loop _]
    show wpAny _ A.in1 (seqItems? (.ref S) >>= _) _ _ s
    refine wpAny_bind (wpAny_seqItems hS rfl ?_)
    show wpAny _ A.in1 (tryCatch (pyNext (.ref I)) _ >>= _) _ _ s
    refine wpAny_bind (wpAny_tryCatch (W.done s _ _ hst fun h' tk hm => ?_))
    exact wpAny_pure (hR { s with heap := h', toks := tk } ta (fun b o e => hm b o (old e).2 (h0k b o e)) rfl rfl rfl (hT.keep fun o e => hm _ o hne.2 e))
  | succ k ih =>
    intro i s ta c hk hi hst h0k hS hne hT hR
    have hlt : i < n := by omega
    refine codeAny_builtin F.entry_sum_loop ?_
    rw [Around.under_plainId F.plain_sum_loop _]
    show wpAny _ A.in1 (seqItems? (.ref S) >>= _) _ _ s
    refine wpAny_bind (wpAny_seqItems hS rfl ?_)
    show wpAny _ A.in1 (tryCatch (pyNext (.ref I)) _ >>= _) _ _ s
    refine wpAny_bind (wpAny_tryCatch (W.item i s _ _ hlt hst fun v h1 tk hPv hst1 hm => ?_))
    obtain ⟨a, rfl, ht⟩ := hP i v hPv
    have S1 := hm S _ hSw hS
    have hT1 := hT.keep fun o e => hm _ o hne.2 e
    have h0k1 : ∀ b o, h0.get? b = some o → h1.get? b = some o := fun b o e => hm b o (old e).2 (h0k b o e)
    have ta1 : PyProof.Rows.IsTup h1 a (tv i).toArray := tup_keep ht fun o e => h0k1 a o e
    have tt1 := hT1.tup
    obtain ⟨oa, ea, _⟩ := id ht
    have hSz : S < h1.objs.size := Heap.lt_size S1
    have hln := preT_le (tv := tv) (i := i + 1) (n := n) (by omega)
    have hps := preT_succ tv i
    rw [hps, List.length_append] at hln
    show wpAny _ A.in1 ((holding [Value.ref a] (binaryOp .Add (.ref ta) (.ref a))).attempt >>= _) _ _ _
    refine wpAny_bind (wpAny_attempt (wpAny_holding (wpAny_mono (Q := fun r s' => ∃ tb h2, r = .ref tb ∧ s' = { s with heap := h2, toks := tk } ∧ (∀ b o, h1.get? b = some o → h2.get? b = some o) ∧ (tb ≠ S ∧ tb ∉ wr) ∧ TotAt h2 h0.objs.size start (fun a => ∃ i v, P i v ∧ v = .ref a) tb (preT tv (i + 1))) ?_ (fun r s' hr => ?_) fun _ _ e => e)))
    · by_cases hz : preT tv i = []
      · rw [hz] at tt1
        refine cat_tup0 tt1 ta1 ⟨a, h1, rfl, rfl, fun b o e => e, old ea, .inl ⟨.inr ⟨i, _, hPv, rfl⟩, ?_⟩⟩
        rw [hps, hz, List.nil_append]
        exact ta1
      · refine HT.cat_tup tt1 ta1 hz (fun z => ⟨ta, h1, rfl, rfl, fun b o e => e, hne, ?_⟩) (fun z => ⟨h1.objs.size, _, rfl, rfl, fun b o e => Heap.get?_push_of_some _ e, ⟨fun q => ?_, fun q => ?_⟩, .inr ⟨Nat.le_of_lt (Nat.lt_of_le_of_lt hS0 hSz), ?_⟩⟩) (by omega)
        · rw [hps, z, List.append_nil]
          exact hT1
        · exact Nat.lt_irrefl _ (q ▸ hSz)
        · exact Nat.lt_irrefl _ (Nat.lt_trans (hfp _ (W.sub _ q)) hSz)
        · rw [hps]
          exact Heap.get?_push_size _ rfl
    · obtain ⟨tb, h2, rfl, rfl, k2, nb, t2⟩ := hr
      have S2 := k2 _ _ S1
      show wpAny _ A.in1 (updateSeq S (fun _ => #[.ref tb]) >>= _) _ _ _
      refine wpAny_bind (wpAny_updateSeq S2 rfl ?_)
      have S3 := Heap.get?_update_self (Obj.mapSeq fun _ => #[Value.ref tb]) S2 rfl
      refine wpAny_bind (wpAny_letGo ?_)
      have oth : ∀ b, b ≠ S → ∀ o, h2.get? b = some o → ((h2.update S (Obj.mapSeq fun _ => #[Value.ref tb])).update S (Obj.mapSeq fun _ => #[Value.ref tb])).get? b = some o := fun b hb o e =>
        (Heap.get?_update_other _ _ (Ne.symm hb)).trans ((Heap.get?_update_other _ _ (Ne.symm hb)).trans e)
      refine wpAny_bind (wpAny_updateSeq S3 rfl (wpAny_pure ⟨plainId_quiet F.plain_sum_loop _, ih (i + 1) _ tb _ (by omega) hlt (W.frame _ _ _ hst1 fun b hb o e => oth b (fun z => hSf (z ▸ hb)) o (k2 b o e)) (fun b o e => oth b (old e).1 o (k2 b o (h0k1 b o e))) (Heap.get?_update_self _ S3 rfl) nb (t2.keep fun o e => oth tb nb.1 o e) fun s' ta' g1 g2 g3 g4 g5 => hR s' ta' g1 g2 g3 g4 g5⟩))
end
end PL
end

section
set_option Elab.async false
set_option linter.all false
set_option maxRecDepth 100000
set_option maxHeartbeats 1000000
/-! PLF4: sum of tuples, the call. -/
namespace PL
open PySem PySem.Spec PyProof.Rows L2
theorem args_sum2 (a b : Value) : argsOk "sum" ⟨[a, b], []⟩ := by unfold argsOk; kernel_rfl
theorem sub_tup_str : isSubtype (.type "tuple") (.type "str") = pure false := by rw [isSubtype_type]; kernel_rfl
theorem sub_tup_bytes : isSubtype (.type "tuple") (.type "bytes") = pure false := by rw [isSubtype_type]; kernel_rfl
theorem sub_tup_bytearray : isSubtype (.type "tuple") (.type "bytearray") = pure false := by rw [isSubtype_type]; kernel_rfl
section
variable {prog : Program} {w : World} {A : Around} {E : Value → Shared → Prop} {s : Shared}
theorem call_sumT {l : Addr} {items : Array Value} {tv : Nat → List Value} {start : Addr} {Q : Value → Shared → Prop} (hh : A.handled = none) (hl : s.heap.IsList l items) (hst : PyProof.Rows.IsTup s.heap start ([] : List Value).toArray)
    (ht : ∀ (i : Nat) (v : Value), items[i]? = some v → ∃ a, v = Value.ref a ∧ PyProof.Rows.IsTup s.heap a (tv i).toArray) (hlen : (preT tv items.size).length ≤ sizeLine)
    (h : ∀ s' ta, (∀ b o, s.heap.get? b = some o → s'.heap.get? b = some o) → s'.gens = s.gens → s'.drawn = s.drawn → s'.os = s.os → TotAt s'.heap s.heap.objs.size start (fun a => ∃ (i : Nat) (v : Value), items[i]? = some v ∧ v = Value.ref a) ta (preT tv items.size) → Q (.ref ta) s') :
    wpAny (model prog w) A (call (.builtin "sum") [.ref l, .ref start]) Q E s := by
  refine call_function_tree F.kind_sum F.plain_sum F.entry_sum (args_sum2 _ _) ?_
  unfold Builtin.«sum»
  simp only [List.length_cons, List.length_nil]
  rw [if_neg (by decide)]
  refine wpAny_bind (wpAny_of_eq (show Builtin.Builtins.bindParams "sum" ["start"] 0 ⟨[.ref start], []⟩ = pure [some (.ref start)] from rfl) ?_)
  refine wpAny_bind (wpAny_pyIter_list hl ?_)
  refine wpAny_bind (wpAny_pure ?_)
  simp only [List.forIn_cons, List.forIn_nil]
  have hT : Shared.TypeIs { s with heap := s.heap.push { cls := .type "list_iterator", data := .fields #[.ref l, .int 0 0] } } (.ref start) "tuple" := (hst.push _).typeIs
  refine wpAny_bind (wpAny_bind (wpAny_bind (wpAny_isInstance (T := "tuple") (b := false) hT sub_tup_str ?_)))
  simp only [Bool.false_eq_true, if_false]
  refine wpAny_pure (wpAny_bind (wpAny_bind (wpAny_isInstance (T := "tuple") (b := false) hT sub_tup_bytes ?_)))
  simp only [Bool.false_eq_true, if_false]
  refine wpAny_pure (wpAny_bind (wpAny_bind (wpAny_isInstance (T := "tuple") (b := false) hT sub_tup_bytearray ?_)))
  simp only [Bool.false_eq_true, if_false]
  refine wpAny_pure (wpAny_pure ?_)
  refine wpAny_bind (wpAny_newObj_type ?_)
  have hlS : l < s.heap.objs.size := by
    obtain ⟨o, e, _⟩ := hl
    exact Heap.lt_size e
  have hsS : start < s.heap.objs.size := by
    obtain ⟨o, e, _⟩ := hst
    exact Heap.lt_size e
  have hz1 : (s.heap.push { cls := .type "list_iterator", data := .fields #[.ref l, .int 0 0] }).objs.size = s.heap.objs.size + 1 := Heap.size_push ..
  have hne : l ≠ s.heap.objs.size := Nat.ne_of_lt hlS
  refine wpAny_pure ⟨plainId_quiet F.plain_sum_loop _, sum_loopT (Walks.list (A := A.in1) (by simp [hh]) s.heap.objs.size l hne items) _ (h0 := s.heap) (start := start) (tv := tv) ?_ ?_ ?_ hlen ht items.size 0 _ start 0 rfl (Nat.zero_le _) ⟨⟨_, Heap.get?_push_of_some _ (Heap.get?_push_size _ rfl), rfl, rfl⟩, (hl.push _).push _⟩ (fun b o e => Heap.get?_push_of_some _ (Heap.get?_push_of_some _ e)) (Heap.get?_push_size _ rfl) ⟨?_, ?_⟩ (.inl ⟨.inl rfl, (hst.push _).push _⟩) fun s' ta g1 g2 g3 g4 g5 => ?_⟩
  · rw [hz1]
    exact Nat.le_succ _
  · intro b hb
    rw [hz1]
    simp only [List.mem_cons, List.not_mem_nil, or_false] at hb
    rcases hb with z | z
    · rw [z]
      exact Nat.lt_succ_self _
    · rw [z]
      exact Nat.lt_succ_of_lt hlS
  · intro b hb
    rw [List.mem_singleton.mp hb]
    exact Nat.le_refl _
  · rw [hz1]
    exact Nat.ne_of_lt (Nat.lt_succ_of_lt hsS)
  · intro q
    exact Nat.lt_irrefl _ (List.mem_singleton.mp q ▸ hsS)
  · exact h s' ta g1 g2 g3 g4 g5
theorem call_sumTT {l : Addr} {items : Array Value} {tv : Nat → List Value} {start : Addr} {Q : Value → Shared → Prop} (hh : A.handled = none) (hl : s.heap.IsTuple l items) (hst : PyProof.Rows.IsTup s.heap start ([] : List Value).toArray)
    (ht : ∀ (i : Nat) (v : Value), items[i]? = some v → ∃ a, v = Value.ref a ∧ PyProof.Rows.IsTup s.heap a (tv i).toArray) (hlen : (preT tv items.size).length ≤ sizeLine)
    (h : ∀ s' ta, (∀ b o, s.heap.get? b = some o → s'.heap.get? b = some o) → s'.gens = s.gens → s'.drawn = s.drawn → s'.os = s.os → TotAt s'.heap s.heap.objs.size start (fun a => ∃ (i : Nat) (v : Value), items[i]? = some v ∧ v = Value.ref a) ta (preT tv items.size) → Q (.ref ta) s') :
    wpAny (model prog w) A (call (.builtin "sum") [.ref l, .ref start]) Q E s := by
  refine call_function_tree F.kind_sum F.plain_sum F.entry_sum (args_sum2 _ _) ?_
  unfold Builtin.«sum»
  simp only [List.length_cons, List.length_nil]
  rw [if_neg (by decide)]
  refine wpAny_bind (wpAny_of_eq (show Builtin.Builtins.bindParams "sum" ["start"] 0 ⟨[.ref start], []⟩ = pure [some (.ref start)] from rfl) ?_)
  refine wpAny_bind (wpAny_pyIter_tuple hl ?_)
  refine wpAny_bind (wpAny_pure ?_)
  simp only [List.forIn_cons, List.forIn_nil]
  have hT : Shared.TypeIs { s with heap := s.heap.push { cls := .type "tuple_iterator", data := .fields #[.ref l, .int 0 0] } } (.ref start) "tuple" := (hst.push _).typeIs
  refine wpAny_bind (wpAny_bind (wpAny_bind (wpAny_isInstance (T := "tuple") (b := false) hT sub_tup_str ?_)))
  simp only [Bool.false_eq_true, if_false]
  refine wpAny_pure (wpAny_bind (wpAny_bind (wpAny_isInstance (T := "tuple") (b := false) hT sub_tup_bytes ?_)))
  simp only [Bool.false_eq_true, if_false]
  refine wpAny_pure (wpAny_bind (wpAny_bind (wpAny_isInstance (T := "tuple") (b := false) hT sub_tup_bytearray ?_)))
  simp only [Bool.false_eq_true, if_false]
  refine wpAny_pure (wpAny_pure ?_)
  refine wpAny_bind (wpAny_newObj_type ?_)
  have hlS : l < s.heap.objs.size := by
    obtain ⟨o, e, _⟩ := hl
    exact Heap.lt_size e
  have hsS : start < s.heap.objs.size := by
    obtain ⟨o, e, _⟩ := hst
    exact Heap.lt_size e
  have hz1 : (s.heap.push { cls := .type "tuple_iterator", data := .fields #[.ref l, .int 0 0] }).objs.size = s.heap.objs.size + 1 := Heap.size_push ..
  have hne : l ≠ s.heap.objs.size := Nat.ne_of_lt hlS
  refine wpAny_pure ⟨plainId_quiet F.plain_sum_loop _, sum_loopT (Walks.tuple (A := A.in1) (by simp [hh]) s.heap.objs.size l hne items) _ (h0 := s.heap) (start := start) (tv := tv) ?_ ?_ ?_ hlen ht items.size 0 _ start 0 rfl (Nat.zero_le _) ⟨⟨_, Heap.get?_push_of_some _ (Heap.get?_push_size _ rfl), rfl, rfl⟩, (hl.push _).push _⟩ (fun b o e => Heap.get?_push_of_some _ (Heap.get?_push_of_some _ e)) (Heap.get?_push_size _ rfl) ⟨?_, ?_⟩ (.inl ⟨.inl rfl, (hst.push _).push _⟩) fun s' ta g1 g2 g3 g4 g5 => ?_⟩
  · rw [hz1]
    exact Nat.le_succ _
  · intro b hb
    rw [hz1]
    simp only [List.mem_cons, List.not_mem_nil, or_false] at hb
    rcases hb with z | z
    · rw [z]
      exact Nat.lt_succ_self _
    · rw [z]
      exact Nat.lt_succ_of_lt hlS
  · intro b hb
    rw [List.mem_singleton.mp hb]
    exact Nat.le_refl _
  · rw [hz1]
    exact Nat.ne_of_lt (Nat.lt_succ_of_lt hsS)
  · intro q
    exact Nat.lt_irrefl _ (List.mem_singleton.mp q ▸ hsS)
  · exact h s' ta g1 g2 g3 g4 g5
end
end PL
end

section
set_option Elab.async false
set_option linter.all false
set_option maxRecDepth 100000
set_option maxHeartbeats 1000000
/-! PLF5: sum of tuples, by values. -/
namespace PL
open PySem PySem.Spec PyProof.Rows L2
theorem preT_all (tl : List (List Value)) : preT (fun i => tl.getD i []) tl.length = tl.flatten := by
  unfold preT
  congr 1
  refine List.ext_getElem (by simp) fun i h1 h2 => ?_
  simp [List.getD_eq_getElem?_getD, List.getElem?_eq_getElem h2]
theorem tup_items {h : Heap} {a : Addr} {xs ys : Array Value} (p : PyProof.Rows.IsTup h a xs) (q : PyProof.Rows.IsTup h a ys) : xs = ys := by
  obtain ⟨o, e, _, n, d⟩ := p
  obtain ⟨o', e', _, n', d'⟩ := q
  rw [e] at e'
  cases e'
  rw [d] at d'
  cases d'
  rfl
section
variable {P : Pg} {X : Cx} {Γ : Ga} {Z : ZX} {M : Ma} {H : Hp}
theorem tups_vals {pins : List (Addr × Obj)} {s : Shared} {σ : L2.St} (I : L2.Inv X pins σ H s) : ∀ {ys : List D} {vs : List V} {its : List Value} {ts : List (List D)}, Rvs M H ys vs → tupsOf ys = some ts → Vals vs its →
    ∃ (tl : List (List Value)) (ul : List (List V)), tl.length = its.length ∧ Rvs M H ts.flatten ul.flatten ∧ Vals ul.flatten tl.flatten ∧ ∀ (i : Nat) (v : Value), its[i]? = some v → ∃ a us, v = Value.ref a ∧ TupF H a us ∧ a ∉ M ∧ PyProof.Rows.IsTup s.heap a (tl.getD i []).toArray ∧ Vals us (tl.getD i [])
  | [], _, _, ts, .nil, h, .nil => by
    cases h
    exact ⟨[], [], rfl, .nil, .nil, fun i v e => by simp at e⟩
  | y :: ys, v :: vs, _, ts, .cons r t, h, .cons rv tv => by
    unfold tupsOf at h
    split at h
    · rename_i ez
      cases ez
    · rename_i ds r0 ez
      cases ez
      cases e2 : tupsOf ys with
      | none => rw [e2] at h; cases h
      | some ts0 =>
        rw [e2] at h
        cases h
        obtain ⟨tl, ul, h1, h2, h3, h4⟩ := tups_vals I t e2 tv
        obtain ⟨a, us, rfl, g1, n1, q1⟩ := r.tupI
        cases rv
        obtain ⟨it, rt, pt, _⟩ := I.tuple g1.sq
        refine ⟨it :: tl, us :: ul, by simp [h1], ?_, ?_, fun i v e => ?_⟩
        · rw [List.flatten_cons, List.flatten_cons]
          exact q1.append h2
        · rw [List.flatten_cons, List.flatten_cons]
          exact rt.append h3
        · cases i with
          | zero =>
            simp only [List.getElem?_cons_zero, Option.some.injEq] at e
            subst e
            exact ⟨a, us, rfl, g1, n1, pt, rt⟩
          | succ i =>
            rw [List.getElem?_cons_succ] at e
            obtain ⟨b, ws, k1, k2, k3, k4, k5⟩ := h4 i v e
            exact ⟨b, ws, k1, k2, k3, by simpa using k4, by simpa using k5⟩
    · cases h
theorem b_sumT (hc : X.calm = true) : CallR X (.builtin "sum") (rs P Z (biD .sumT)) := by
  intro pins s σ H xs us Q I rx ⟨M, S, ds, em, rd, h⟩
  obtain ⟨w, ho, hk⟩ := Res.oret h
  obtain ⟨d, e, v, u, rfl, rfl, r, r2, q⟩ := rd.two ho
  unfold sumTD at q
  split at q
  case h_2 => cases q
  cases e1 : seqD S d with
  | none => rw [e1] at q; cases q
  | some ys =>
    cases e2 : tupsOf ys with
    | none => simp [e1, e2] at q
    | some ts =>
      simp only [e1, e2, Option.bind_some] at q
      obtain ⟨c, q⟩ := ifn q
      cases q
      obtain ⟨a, vs, rfl, h1, q1⟩ := em.seq e1 r
      obtain ⟨b, vs2, rfl, g1, n1, qq⟩ := r2.tupI
      cases qq
      obtain ⟨its0, rv0, p0, _⟩ := I.tuple g1.sq
      cases rv0
      obtain ⟨ua, ub, rfl, ra, rb⟩ := vals2 rx
      cases ra
      cases rb
      have main : ∀ its : List Value, Vals vs its → ∃ (tl : List (List Value)) (ul : List (List V)), tl.length = its.length ∧ Rvs M H ts.flatten ul.flatten ∧ Vals ul.flatten tl.flatten ∧ preT (fun i => tl.getD i []) its.toArray.size = tl.flatten ∧ ul.flatten.length ≤ sizeLine ∧ ∀ (i : Nat) (v : Value), its.toArray[i]? = some v → ∃ a us, v = Value.ref a ∧ TupF H a us ∧ a ∉ M ∧ PyProof.Rows.IsTup s.heap a (tl.getD i []).toArray ∧ Vals us (tl.getD i []) := fun its rv => by
        obtain ⟨tl, ul, l1, l2, l3, l4⟩ := tups_vals I q1 e2 rv
        have hsz : its.toArray.size = tl.length := by rw [List.size_toArray, l1]
        have hpre : preT (fun i => tl.getD i []) its.toArray.size = tl.flatten := by rw [hsz, preT_all]
        have hlen : ul.flatten.length ≤ sizeLine := by rw [← l2.length, ← lim_eq]; exact c
        exact ⟨tl, ul, l1, l2, l3, hpre, hlen, fun i v e => l4 i v (by simpa using e)⟩
      have rest : ∀ (its : List Value) (tl : List (List Value)) (ul : List (List V)), Rvs M H ts.flatten ul.flatten → Vals ul.flatten tl.flatten → preT (fun i => tl.getD i []) its.toArray.size = tl.flatten → ul.flatten.length ≤ sizeLine → (∀ (i : Nat) (v : Value), its.toArray[i]? = some v → ∃ a us, v = Value.ref a ∧ TupF H a us ∧ a ∉ M ∧ PyProof.Rows.IsTup s.heap a (tl.getD i []).toArray ∧ Vals us (tl.getD i [])) →
          ∀ s' ta, (∀ b o, s.heap.get? b = some o → s'.heap.get? b = some o) → s'.gens = s.gens → s'.drawn = s.drawn → s'.os = s.os → TotAt s'.heap s.heap.objs.size b (fun a => ∃ (i : Nat) (v : Value), its.toArray[i]? = some v ∧ v = Value.ref a) ta (preT (fun i => tl.getD i []) its.toArray.size) → EP X pins σ Q (.ref ta) s' := fun its tl ul l2 l3 hpre hlen l4 s' ta k1 k2 k3 k4 k5 => by
        rw [hpre] at k5
        have es : s' = { s with heap := s'.heap, toks := s'.toks } := by
          cases s'
          cases s
          simp_all
        rw [es]
        rcases k5 with ⟨t, p⟩ | ⟨t, e⟩
        · have I1 : L2.Inv X pins σ H { s with heap := s'.heap, toks := s'.toks } := I.kept k1
          have fin : ∀ us, TupF H ta us → ta ∉ M → Vals us tl.flatten → EP X pins σ Q (.ref ta) { s with heap := s'.heap, toks := s'.toks } := fun us f1 f2 f3 => by
            have eu : us = ul.flatten := Vals.inj f3 l3
            subst eu
            exact ⟨.ref ta, H, I1, rfl, hk.ok em (.tup f1 f2 l2)⟩
          rcases t with rfl | ⟨i, v, g, rfl⟩
          · have q := tup_items (tup_keep p0 fun o e => k1 _ o e) p
            have q2 : tl.flatten = [] := by simpa using q.symm
            refine fin [] g1 n1 ?_
            rw [q2]
            exact .nil
          · obtain ⟨b', ws, f1, f2, f3, f4, f5⟩ := l4 i _ (by simpa using g)
            cases f1
            have q := tup_items (tup_keep f4 fun o e => k1 _ o e) p
            have q2 : tl.getD i [] = tl.flatten := by simpa using q
            refine fin ws f2 f3 ?_
            rw [← q2]
            exact f5
        · have hn : H ta = none := I.hok.fresh t
          refine ⟨.ref ta, upd H ta (.frz (tupO tl.flatten) (.tup ul.flatten)), I.laid (t' := s'.toks) k1 t ⟨e, hlen, tl.flatten, l3, ⟨_, e, rfl, _, rfl⟩⟩, rfl, ?_⟩
          exact hk.tuple Ext.refl em l2 hn rfl
      rcases h1 with h1 | h1
      · obtain ⟨hz, its, n, rv, hob⟩ := I.hok a _ h1
        obtain ⟨tl, ul, l1, l2, l3, hpre, hlen, l4⟩ := main its rv
        exact call_sumT (tv := fun i => tl.getD i []) (I.ok.hd hc) (PySem.IsL.isList hob) p0 (fun i v e => let ⟨b, ws, g1, g2, g3, g4, g5⟩ := l4 i v e; ⟨b, g1, g4⟩) (by rw [hpre, ← l3.length]; exact hlen) (rest its tl ul l2 l3 hpre hlen l4)
      · obtain ⟨its, rv, pt, _⟩ := I.tuple h1.sq
        obtain ⟨tl, ul, l1, l2, l3, hpre, hlen, l4⟩ := main its rv
        exact call_sumTT (tv := fun i => tl.getD i []) (I.ok.hd hc) pt p0 (fun i v e => let ⟨b, ws, g1, g2, g3, g4, g5⟩ := l4 i v e; ⟨b, g1, g4⟩) (by rw [hpre, ← l3.length]; exact hlen) (rest its tl ul l2 l3 hpre hlen l4)
end
end PL
end

section
set_option Elab.async false
set_option linter.all false
set_option maxRecDepth 100000
set_option maxHeartbeats 1000000
/-! PLG: methods of built-in types, isinstance, repr by values. -/
namespace PL
open PySem PySem.Spec PyProof.Rows L2
theorem list_extendT (l : Addr) (items : Array Value) (n : Nat) (b : Addr) (items2 : Array Value) (n2 : Nat) (dd : Option Addr) (sl : Array (Option Value)) (hs0 : ¬(!items.isEmpty && Builtin.List.listTooLong (items.size + items2.size)) = true) (hs1 : items.size ≤ sizeLine) (hs2 : items.size + items2.size ≤ sizeLine + 1) :
    Meets (Builtin.«list.extend» ⟨[.ref l, .ref b], []⟩) (fun _ R s => s.heap.get? l = some { cls := .type "list", dict := none, data := .seq items n, slots := #[] } ∧ s.heap.get? b = some { cls := .type "tuple", dict := dd, data := .seq items2 n2, slots := sl } ∧ R (.ok (.ret Value.none)) { s with heap := s.heap.update l (Obj.mapSeq fun x => x ++ items2), toks := s.toks }) :=
  .of_wp fun prog w A R s h => by
    obtain ⟨hp, g, d, tk, os⟩ := s
    obtain ⟨hl, hb, h⟩ := h
    have f1 := AutoSeq1.idx_int
    have f2 := AutoSeq1.sub_tuple_tuple
    have f3 := AutoSeq1.sub_list_list
    have f4 := AutoSeq1.sub_tuple_list
    have f5 := AutoSeq1.sub_list_tuple
    have hz' : (items ++ items2).size ≤ sizeLine + 1 := by rw [Array.size_append]; exact hs2
    wp_walk using (wpAny_updateSeq hl rfl (hz := hs1) (_hz' := hz')), wpAny_loadPart' hl, wpAny_loadPart' hb
    exact ⟨_, rfl, h⟩
theorem mt_extendT {X : Cx} : MtM X "list.extend" (fun x vs H Q => ∃ l b xs zs, x = .ref l ∧ vs = [.ref b] ∧ H l = some (.lst xs) ∧ TupF H b zs ∧ xs.length + zs.length ≤ sizeLine ∧ Q .non (upd H l (.lst (xs ++ zs)))) := by
  intro pins s σ H x vs v us Q I rx rv h
  obtain ⟨l, b, xs, zs, rfl, rfl, hH, hB, hz, q⟩ := h
  cases rx
  obtain ⟨u, rfl, ru⟩ := rv.one
  cases ru
  obtain ⟨z, its, n, r, hl, e⟩ := I.lstM hH
  obtain ⟨its2, r2, ⟨⟨cls, dd, data, sl⟩, ho, hc, n2, hd⟩, hs⟩ := I.tuple hB.sq
  simp only at hc hd
  subst hc hd
  have hl2 := r2.length
  have hsz : its.toArray.size + its2.toArray.size ≤ sizeLine := by rw [List.size_toArray, List.size_toArray]; omega
  have hlong : ¬ (!its.toArray.isEmpty && Builtin.List.listTooLong (its.toArray.size + its2.toArray.size)) = true := by
    rw [notLongL hsz, Bool.and_false]
    exact Bool.false_ne_true
  refine call_meets F.slot_list_extend ⟨_, e, rfl⟩ F.entry_list_extend (F.args_list_extend_2 _ _)
    (list_extendT l its.toArray n b its2.toArray n2 dd sl hlong (by rw [List.size_toArray]; omega) (by omega)) ⟨e, ho, ?_⟩
  refine ⟨.non, _, I.lset (its' := its ++ its2) hH e (by simp) (r.append r2) ?_, rfl, q⟩
  rw [List.length_append]
  omega
section
variable {P : Pg} {Γ : Ga} {X : Cx} {Z : ZX}
/-- a method's call by values -/
def rm (P : Pg) (Z : ZX) (k : Kd) (m : Bm) : V → List V → Hp → VK → Prop := fun x xs H Q => ∃ M S d ds, kdX d = k ∧ P.Emb M H S ∧ Rv M H d x ∧ Rvs M H ds xs ∧ Res P Rv M H (bmD m d ds S) Q Z
theorem Rvs.o1 {M : Ma} {H : Hp} {d : D} {xs : List V} (h : Rvs M H [d] xs) : ∃ v, xs = [v] ∧ Rv M H d v := by
  cases h with
  | cons r t => cases t; exact ⟨_, rfl, r⟩
theorem Rvs.o0 {M : Ma} {H : Hp} {xs : List V} (h : Rvs M H [] xs) : xs = [] := by
  cases h; rfl
theorem Res.updL {M : Ma} {H : Hp} {S : Sto} {x : D} {v : V} {f : List D → Option (D × List D)} {Q : VK} (h : Res P Rv M H (PL.updL S x f) Q Z) (em : P.Emb M H S) (rd : Rv M H x v) :
    ∃ a xs vs d ys, v = .ref a ∧ H a = some (.lst vs) ∧ Rvs M H xs vs ∧ f xs = some (d, ys) ∧ ∀ ws w, Rvs M H ys ws → Rv M H d w → Q w (upd H a (.lst ws)) := by
  unfold PL.updL at h
  split at h
  · rename_i i hi
    have hx := asRef_some hi
    subst hx
    cases q : objL S i with
    | none => rw [q] at h; exact h.elim
    | some xs =>
      rw [q] at h
      cases q2 : f xs with
      | none => simp [q2] at h; exact h.elim
      | some p =>
        obtain ⟨d, ys⟩ := p
        simp [q2] at h
        obtain ⟨a, rfl, hm⟩ := rd.refI
        have hs := objL_some q
        obtain ⟨vs, h1, h2⟩ := em.ob i a _ hm hs
        refine ⟨a, xs, vs, d, ys, rfl, h1, h2, q2, fun ws w r1 r2 => ?_⟩
        have hmem : a ∈ M := .inl (List.mem_of_getElem? hm)
        have e : Ext M H M (upd H a (.lst ws)) := Ext.mut hmem fun z => (em.df a z).2 (List.mem_of_getElem? hm)
        exact h M _ w e (Emb.mut em hm (List.getElem?_eq_some_iff.mp hs).1 ⟨ws, upd_same, r1.mono e⟩ fun ps z => by rw [h1] at z; cases z) (r2.mono e)
  · exact h.elim
theorem m_append : MtR X "list.append" (rm P Z .list .append) := by
  intro pins s σ H x xs v us Q I rx rs ⟨M, S, d, ds, hk, em, rd, rds, h⟩
  simp only [bmD] at h
  split at h
  · obtain ⟨y, rfl, ry⟩ := rds.o1
    obtain ⟨a, zs, vs, e, ys, rfl, h1, q1, hf, hq⟩ := Res.updL h em rd
    obtain ⟨c, hf⟩ := ifn hf
    cases hf
    exact mt_append pins s σ H _ _ v us Q I rx rs ⟨a, vs, y, rfl, rfl, h1, by rw [← q1.length, ← lim_eq]; exact c, hq _ _ (q1.append (.cons ry .nil)) .non⟩
  · exact h.elim
theorem m_extend : MtR X "list.extend" (rm P Z .list .extend) := by
  intro pins s σ H x xs v us Q I rx rs ⟨M, S, d, ds, hk, em, rd, rds, h⟩
  simp only [bmD] at h
  split at h
  · obtain ⟨y, rfl, ry⟩ := rds.o1
    split at h
    · rename_i ys hy
      obtain ⟨a, zs, vs, e, us', rfl, h1, q1, hf, hq⟩ := Res.updL h em rd
      obtain ⟨c, hf⟩ := ifn hf
      cases hf
      obtain ⟨b, ws, rfl, h2, q2⟩ := em.seq hy ry
      rcases h2 with h2 | h2
      · exact mt_extend pins s σ H _ _ v us Q I rx rs ⟨a, b, vs, ws, rfl, rfl, h1, h2, by rw [← q1.length, ← q2.length, ← lim_eq]; exact c, hq _ _ (q1.append q2) .non⟩
      · exact mt_extendT pins s σ H _ _ v us Q I rx rs ⟨a, b, vs, ws, rfl, rfl, h1, h2, by rw [← q1.length, ← q2.length, ← lim_eq]; exact c, hq _ _ (q1.append q2) .non⟩
    · exact h.elim
  · exact h.elim
theorem m_pop : MtR X "list.pop" (rm P Z .list .pop) := by
  intro pins s σ H x xs v us Q I rx rs ⟨M, S, d, ds, hk, em, rd, rds, h⟩
  simp only [bmD] at h
  split at h
  · have := rds.o0
    subst this
    obtain ⟨a, zs, vs, e, ys, rfl, h1, q1, hf, hq⟩ := Res.updL h em rd
    cases g : zs.getLast? with
    | none => rw [g] at hf; cases hf
    | some y =>
      rw [g] at hf
      cases hf
      rw [List.getLast?_eq_getElem?] at g
      obtain ⟨w, g2, r2⟩ := q1.get' g
      refine mt_pop pins s σ H _ _ v us Q I rx rs ⟨a, vs, w, rfl, rfl, h1, by rw [← q1.length]; exact g2, hq _ _ ?_ r2⟩
      rw [List.dropLast_eq_take, List.dropLast_eq_take, ← q1.length]
      exact q1.take _
  · exact h.elim
theorem Rvs.eraseIdx {M : Ma} {H : Hp} : ∀ {ds : List D} {vs : List V} (i : Nat), Rvs M H ds vs → Rvs M H (ds.eraseIdx i) (vs.eraseIdx i)
  | _, _, _, .nil => .nil
  | _, _, 0, .cons _ t => t
  | _, _, i + 1, .cons r t => .cons r (Rvs.eraseIdx i t)
theorem m_popAt : MtR X "list.pop" (rm P Z .list .popAt) := by
  intro pins s σ H x xs v us Q I rx rs ⟨M, S, d, ds, hk, em, rd, rds, h⟩
  simp only [bmD] at h
  split at h
  · rename_i k
    obtain ⟨y, rfl, ry⟩ := rds.o1
    cases ry
    obtain ⟨a, zs, vs, e, ys, rfl, h1, q1, hf, hq⟩ := Res.updL h em rd
    obtain ⟨c, hf⟩ := ifn hf
    cases g : zs[k.toNat]? with
    | none => rw [g] at hf; cases hf
    | some y =>
      rw [g] at hf
      cases hf
      obtain ⟨w, g2, r2⟩ := q1.get' g
      have hl := (List.getElem?_eq_some_iff.mp g2).1
      exact mt_popAt pins s σ H _ _ v us Q I rx rs ⟨a, vs, k, k.toNat, w, rfl, rfl, h1, by omega, by omega, PySem.seqIndex_of c.1 (by omega), g2, hq _ _ (q1.eraseIdx _) r2⟩
  · exact h.elim
/-- what a search asks -/
theorem find_reads {pins : List (Addr × Obj)} {s : Shared} {σ : L2.St} {H : Hp} {M : Ma} {S : Sto} {d w : D} {x y : V} {v u : Value} {xs : List D} (em : P.Emb M H S) (I : L2.Inv X pins σ H s) (rd : Rv M H d x) (rx : RelV x v) (rw' : Rv M H w y) (ry : RelV y u) (h : seqD S d = some xs) (p : findOk w xs = true) :
    PyData.plainAll xs = true ∧ w.plain = true ∧ w.depth ≤ depthMax ∧ (∃ bs, Reads s.heap u w bs) ∧ ∃ a vs its as, x = .ref a ∧ Rvs M H xs vs ∧ Vals vs its ∧ ReadsAll s.heap its.toArray.toList xs as ∧
      ((H a = some (.lst vs) ∧ s.heap.IsList a its.toArray ∧ vs.length ≤ sizeLine ∧ ∃ n, s.heap.get? a = some { cls := .type "list", data := .seq its.toArray n }) ∨ (TupF H a vs ∧ IsTup s.heap a its.toArray)) := by
  unfold findOk at p
  rw [Bool.and_eq_true] at p
  obtain ⟨p1, p2⟩ := eqOk_dec p.1
  obtain ⟨p3, p4⟩ := all_ok p.2
  refine ⟨p3, p1, p2, Dp.reads I w y u (rw'.dp p1) ry, ?_⟩
  obtain ⟨a, vs, rfl, h1, q⟩ := em.seq h rd
  have dp : DpAll X.K H vs xs := q.dp p3
  rcases h1 with h1 | h1
  · obtain ⟨hz, its, n, rv, hob⟩ := I.hok a _ h1
    obtain ⟨as, r⟩ := Dp.readsAll I xs vs its dp rv
    exact ⟨a, vs, its, as, rfl, q, rv, by simpa using r, .inl ⟨h1, ⟨_, hob, rfl, n, rfl⟩, hz, n, hob⟩⟩
  · obtain ⟨its, rv, pl, hz⟩ := I.tuple (xs := vs) h1.sq
    obtain ⟨as, r⟩ := Dp.readsAll I xs vs its dp rv
    exact ⟨a, vs, its, as, rfl, q, rv, by simpa using r, .inr ⟨h1, pl⟩⟩
theorem tup_list_form {S : Sto} {d : D} {xs : List D} (h : seqD S d = some xs) : (kdX d = .tuple ∧ d = .tuple xs) ∨ (kdX d = .list ∧ lstD S d = some xs) := by
  rcases seqD_some h with rfl | h1
  · exact .inl ⟨rfl, rfl⟩
  · rcases h1 with rfl | ⟨i, rfl, hs⟩
    · exact .inr ⟨rfl, rfl⟩
    · exact .inr ⟨rfl, by rw [lstD_rf]; exact objL_of hs⟩
/-- a tuple's object, or a list's -/
theorem tupNotLst {H : Hp} {a : Addr} {vs ws : List V} (h1 : H a = some (.lst vs)) (h2 : TupF H a ws) : False := by
  obtain ⟨o, h2, _⟩ := h2
  rw [h1] at h2
  cases h2
theorem m_count (F : Fit P Γ X) {k : Kd} (id : String) (hid : (k = .list ∧ id = "list.count") ∨ (k = .tuple ∧ id = "tuple.count")) : MtR X id (rm P Z k .count) := by
  intro pins s σ H x xs v us Q I rx rs ⟨M, S, d, ds, hk, em, rd, rds, h⟩
  simp only [bmD] at h
  obtain ⟨w, ho, hq⟩ := Res.oret h
  obtain ⟨c, y, rfl, rfl, ry, q⟩ := rds.one ho
  cases e : seqD S d with
  | none => rw [e] at q; cases q
  | some zs =>
    rw [e] at q
    obtain ⟨c1, q⟩ := ifn q
    cases q
    obtain ⟨u, rfl, ru⟩ := vals1 rs
    obtain ⟨p1, p2, p3, ⟨bs, rb⟩, a, vs, its, as, rfl, q1, rv, ra, hh⟩ := find_reads em I rd rx ry ru e c1
    cases rx
    have hu := F.units
    have hu2 : X.A.units + 1 + min (PyData.depthAll zs) c.depth < cLine := by unfold depthMax at p3; omega
    have fin : EP X pins σ Q (.int ((zs.countP fun y => PyData.eqv y c : Nat) : Int) s.toks) { s with toks := s.toks + 1 } := ⟨.int _, H, I.tok _, ⟨_, rfl⟩, hq.ok em (.int _)⟩
    rcases tup_list_form e with ⟨f1, f2⟩ | ⟨f1, f2⟩
    · subst f2
      obtain ⟨a', vs', e1, h1, _, _⟩ := rd.tupI
      cases e1
      rcases hh with ⟨h2, _⟩ | ⟨_, hT⟩
      · exact (tupNotLst h2 h1).elim
      · rcases hid with ⟨z, _⟩ | ⟨_, rfl⟩
        · rw [f1] at hk; rw [← hk] at z; cases z
        · exact SeqAt.count_tuple_data hT ra rb p1 p2 hu2 fin
    · obtain ⟨a', vs', e1, h1, _⟩ := em.lst f2 rd
      cases e1
      rcases hh with ⟨h2, hL, _⟩ | ⟨h2, _⟩
      · rcases hid with ⟨_, rfl⟩ | ⟨z, _⟩
        · exact SeqAt.count_list_data hL ra rb p1 p2 hu2 fin
        · rw [f1] at hk; rw [← hk] at z; cases z
      · exact (tupNotLst h1 h2).elim
theorem place_of {zs : List D} {c : D} (h : zs.any (eqvR c) = true) : SeqAt.dataPlace zs c = some (zs.findIdx (eqvR c)) ∧ zs.findIdx (eqvR c) < zs.length := by
  have hl : zs.findIdx (eqvR c) < zs.length := by
    rw [List.any_eq_true] at h
    exact List.findIdx_lt_length.mpr h
  refine ⟨?_, hl⟩
  show zs.findIdx? (eqvR c) = _
  rw [List.findIdx?_eq_some_iff_findIdx_eq]
  exact ⟨hl, rfl⟩
theorem m_index (F : Fit P Γ X) {k : Kd} (id : String) (hid : (k = .list ∧ id = "list.index") ∨ (k = .tuple ∧ id = "tuple.index")) : MtR X id (rm P Z k .index) := by
  intro pins s σ H x xs v us Q I rx rs ⟨M, S, d, ds, hk, em, rd, rds, h⟩
  simp only [bmD] at h
  obtain ⟨w, ho, hq⟩ := Res.oret h
  obtain ⟨c, y, rfl, rfl, ry, q⟩ := rds.one ho
  cases e : seqD S d with
  | none => rw [e] at q; cases q
  | some zs =>
    rw [e] at q
    obtain ⟨c1, q⟩ := ifn q
    cases q
    rw [Bool.and_eq_true] at c1
    obtain ⟨u, rfl, ru⟩ := vals1 rs
    obtain ⟨p1, p2, p3, ⟨bs, rb⟩, a, vs, its, as, rfl, q1, rv, ra, hh⟩ := find_reads em I rd rx ry ru e c1.1
    cases rx
    have hu := F.units
    have hu2 : X.A.units + 1 + min (PyData.depthAll zs) c.depth < cLine := by unfold depthMax at p3; omega
    obtain ⟨hp, hl⟩ := place_of c1.2
    obtain ⟨hj, hit, hno⟩ := SeqAt.hit_at ra p1 hp
    have fin : EP X pins σ Q (.int ((zs.findIdx (eqvR c) : Nat) : Int) s.toks) { s with toks := s.toks + 1 } := ⟨.int _, H, I.tok _, ⟨_, rfl⟩, hq.ok em (.int _)⟩
    rcases tup_list_form e with ⟨f1, f2⟩ | ⟨f1, f2⟩
    · subst f2
      obtain ⟨a', vs', e1, h1, _, _⟩ := rd.tupI
      cases e1
      rcases hh with ⟨h2, _⟩ | ⟨_, hT⟩
      · exact (tupNotLst h2 h1).elim
      · rcases hid with ⟨z, _⟩ | ⟨_, rfl⟩
        · rw [f1] at hk; rw [← hk] at z; cases z
        · obtain ⟨⟨cls, dd, data, sl⟩, ho, hc, n, hd'⟩ := id hT
          simp only at hc hd'
          subst hc hd'
          exact PySem.call_meets PySem.F.slot_tuple_index ⟨_, ho, rfl⟩ PySem.F.entry_tuple_index (PySem.F.args_tuple_index_2 _ _) (TI.tuple_indexAt a its.toArray n dd sl u _ _ hj hit hno) ⟨ho, SeqAt.items_plain ra rb p1 p2 hu2, fin⟩
    · obtain ⟨a', vs', e1, h1, _⟩ := em.lst f2 rd
      cases e1
      rcases hh with ⟨h2, hL, hz, n, hob⟩ | ⟨h2, _⟩
      · rcases hid with ⟨_, rfl⟩ | ⟨z, _⟩
        · refine PySem.call_meets PySem.F.slot_list_index ⟨_, hob, rfl⟩ PySem.F.entry_list_index (PySem.F.args_list_index_2 _ _) (SeqAt.list_indexAt a its.toArray n none #[] u _ _ hj ?_ hit hno) ⟨hob, SeqAt.items_plain ra rb p1 p2 hu2, fin⟩
          have hn := L2.line63
          have := q1.length
          omega
        · rw [f1] at hk; rw [← hk] at z; cases z
      · exact (tupNotLst h1 h2).elim
theorem eraseP_idx {zs : List D} {c : D} (h : zs.any (eqvR c) = true) : zs.eraseP (eqvR c) = zs.eraseIdx (zs.findIdx (eqvR c)) := by
  rw [List.eraseP_eq_eraseIdx]
  have e := (place_of h).1
  change zs.findIdx? (eqvR c) = _ at e
  rw [e]
theorem m_remove (F : Fit P Γ X) : MtR X "list.remove" (rm P Z .list .remove) := by
  intro pins s σ H x xs v us Q I rx rs ⟨M, S, d, ds, hk, em, rd, rds, h⟩
  simp only [bmD] at h
  split at h
  · rename_i c
    obtain ⟨y, rfl, ry⟩ := rds.o1
    obtain ⟨a, zs, vs, e, ys, rfl, h1, q1, hf, hq⟩ := Res.updL h em rd
    obtain ⟨c1, hf⟩ := ifn hf
    cases hf
    rw [Bool.and_eq_true] at c1
    obtain ⟨u, rfl, ru⟩ := vals1 rs
    obtain ⟨hz, its, n, rv, hob⟩ := I.hok a _ h1
    have c2 := c1.1
    unfold findOk at c2
    rw [Bool.and_eq_true] at c2
    obtain ⟨p1, p2⟩ := eqOk_dec c2.1
    obtain ⟨p3, p4⟩ := all_ok c2.2
    obtain ⟨bs, rb⟩ := Dp.reads I _ _ _ (ry.dp p1) ru
    obtain ⟨as, ra⟩ := Dp.readsAll I _ _ _ (q1.dp p3) rv
    cases rx
    have hu := F.units
    have hu2 : X.A.units + 1 + min (PyData.depthAll zs) c.depth < cLine := by unfold depthMax at p2; omega
    obtain ⟨hp, hl⟩ := place_of c1.2
    refine SeqAt.remove_list_data (vs := its.toArray) ⟨_, hob, rfl, n, rfl⟩ (by simpa using ra) rb p3 p1 hu2 hp (by rw [List.size_toArray, ← rv.length]; exact hz) ?_
    rw [eraseP_idx c1.2] at hq
    refine ⟨.non, upd H a (.lst (vs.eraseIdx (zs.findIdx (eqvR c)))), I.lset (t' := s.toks) (its' := its.eraseIdx (zs.findIdx (eqvR c))) h1 hob ?_ (rv.eraseIdx _) ?_, rfl, hq _ _ (q1.eraseIdx _) .non⟩
    · rw [List.eraseIdxIfInBounds_toArray]
    · have := len_erase vs (zs.findIdx (eqvR c))
      omega
  · exact h.elim
theorem m_join : MtR X "str.join" (rm P Z .str .join) := by
  intro pins s σ H x xs v us Q I rx rs ⟨M, S, d, ds, hk, em, rd, rds, h⟩
  simp only [bmD] at h
  split at h
  · rename_i z
    obtain ⟨w, ho, hq⟩ := Res.oret h
    obtain ⟨c, y, rfl, rfl, ry, q⟩ := rds.one ho
    cases e : seqD S c with
    | none => rw [e] at q; cases q
    | some zs =>
      cases e2 : strsOf zs with
      | none => simp [e, e2] at q
      | some ys =>
        rw [e] at q
        simp only [Option.bind_some, e2] at q
        obtain ⟨c1, q⟩ := ifn q
        cases q
        cases rd
        obtain ⟨a, vs, rfl, h1, q1⟩ := em.seq e ry
        have := q1.strs e2
        subst this
        exact mt_join pins s σ H _ _ v us Q I rx rs ⟨z, a, ys, rfl, rfl, h1.imp SqL.of TupF.sq, c1, hq.ok em (.str _)⟩
  · exact h.elim
theorem Rvs.ofStrs {M : Ma} {H : Hp} : ∀ ns : List Str, Rvs M H (ns.map PyData.str) (ns.map V.str)
  | [] => .nil
  | n :: ns => .cons (.str n) (Rvs.ofStrs ns)
theorem m_split : MtR X "str.split" (rm P Z .str .split) := by
  intro pins s σ H x xs v us Q I rx rs ⟨M, S, d, ds, hk, em, rd, rds, h⟩
  simp only [bmD] at h
  split at h
  · rename_i z b
    obtain ⟨y, rfl, ry⟩ := rds.o1
    cases ry
    cases rd
    split at h
    · rename_i c
      refine mt_split pins s σ H _ _ v us Q I rx rs ⟨z, b, rfl, rfl, by simpa using c.1, by rw [← lim_eq]; exact c.2, fun p hp => ?_⟩
      have e : Ext M H M (upd H p (.lst ((Txt.split z b).map V.str))) := Ext.alloc hp
      exact h M _ _ e (em.alloc hp) (.lst upd_same (em.no hp) (Rvs.ofStrs _))
    · exact h.elim
  · exact h.elim
/-! ### a method's call -/
def bmName : Bm → Str
  | .append => "append"
  | .extend => "extend"
  | .remove => "remove"
  | .pop => "pop"
  | .popAt => "pop"
  | .count => "count"
  | .index => "index"
  | .join => "join"
  | .split => "split"
def kdName : Kd → String
  | .list => "list"
  | .tuple => "tuple"
  | .str => "str"
/-- the receiver's type, its method's rule -/
theorem m_all (F : Fit P Γ X) (k : Kd) (m : Bm) (hk : match k with | .tuple => m = .count ∨ m = .index | .str => m = .join ∨ m = .split | .list => m ≠ .join ∧ m ≠ .split) :
    ∃ id, PlainAttrs (kdName k) ∧ Slot (kdName k) (bmName m) id ∧ typeOf (.builtin id) = pure (.type "method_descriptor") ∧ MtR X id (rm P Z k m) := by
  cases k with
  | tuple =>
    rcases hk with rfl | rfl
    · exact ⟨_, PySem.F.plainAttrs_tuple, PySem.F.slot_tuple_count, PySem.F.type_tuple_count, m_count F _ (.inr ⟨rfl, rfl⟩)⟩
    · exact ⟨_, PySem.F.plainAttrs_tuple, PySem.F.slot_tuple_index, PySem.F.type_tuple_index, m_index F _ (.inr ⟨rfl, rfl⟩)⟩
  | str =>
    rcases hk with rfl | rfl
    · exact ⟨_, PySem.F.plainAttrs_str, PySem.F.slot_str_join, PySem.F.type_str_join, m_join⟩
    · exact ⟨_, PySem.F.plainAttrs_str, PySem.F.slot_str_split, PySem.F.type_str_split, m_split⟩
  | list =>
    cases m with
    | append => exact ⟨_, PySem.F.plainAttrs_list, PySem.F.slot_list_append, PySem.F.type_list_append, m_append⟩
    | extend => exact ⟨_, PySem.F.plainAttrs_list, PySem.F.slot_list_extend, PySem.F.type_list_extend, m_extend⟩
    | remove => exact ⟨_, PySem.F.plainAttrs_list, PySem.F.slot_list_remove, PySem.F.type_list_remove, m_remove F⟩
    | pop => exact ⟨_, PySem.F.plainAttrs_list, PySem.F.slot_list_pop, PySem.F.type_list_pop, m_pop⟩
    | popAt => exact ⟨_, PySem.F.plainAttrs_list, PySem.F.slot_list_pop, PySem.F.type_list_pop, m_popAt⟩
    | count => exact ⟨_, PySem.F.plainAttrs_list, PySem.F.slot_list_count, PySem.F.type_list_count, m_count F _ (.inl ⟨rfl, rfl⟩)⟩
    | index => exact ⟨_, PySem.F.plainAttrs_list, PySem.F.slot_list_index, PySem.F.type_list_index, m_index F _ (.inl ⟨rfl, rfl⟩)⟩
    | join => exact absurd rfl hk.1
    | split => exact absurd rfl hk.2
theorem kd_on {pins : List (Addr × Obj)} {s : Shared} {σ : L2.St} {H : Hp} {M : Ma} {S : Sto} {d : D} {x : V} {v : Value} {m : Bm} (em : P.Emb M H S) (I : L2.Inv X pins σ H s) (rd : Rv M H d x) (rx : RelV x v) (h : kdD S m d = true) :
    (match kdX d with | .tuple => m = .count ∨ m = .index | .str => m = .join ∨ m = .split | .list => m ≠ .join ∧ m ≠ .split) ∧ s.TypeIs v (kdName (kdX d)) ∧ ∀ a, v = .ref a → ∃ ob, s.heap.get? a = some ob ∧ ob.dict = none := by
  unfold kdD at h
  cases e : kdX d with
  | tuple =>
    rw [e] at h
    cases d with
    | tuple xs =>
      obtain ⟨a, vs, rfl, ⟨o, h1, h2⟩, _⟩ := rd.tupI
      cases rx
      obtain ⟨h3, hz, its, rv, o', h4, h5, h6⟩ := I.hok a _ h1
      rw [h3] at h4
      cases h4
      exact ⟨by simpa using h, ⟨o, h3, h5⟩, fun b z => by cases z; exact ⟨o, h3, h2⟩⟩
    | _ => cases e
  | str =>
    rw [e] at h
    cases d with
    | str z =>
      cases rd
      obtain ⟨t, rfl⟩ := rx
      exact ⟨by simpa using h, typeIs_str s z t, fun _ z => nomatch z⟩
    | _ => cases e
  | list =>
    rw [e] at h
    simp only [Bool.and_eq_true, decide_eq_true_eq, Option.isSome_iff_exists] at h
    obtain ⟨h1, xs, h2⟩ := h
    obtain ⟨a, vs, rfl, h3, _⟩ := em.lst h2 rd
    cases rx
    obtain ⟨hz, its, n, rv, hob⟩ := I.hok a _ h3
    exact ⟨h1, ⟨_, hob, rfl⟩, fun b z => by cases z; exact ⟨_, hob, rfl⟩⟩
end
end PL
end

section
set_option Elab.async false
set_option linter.all false
set_option maxRecDepth 100000
set_option maxHeartbeats 1000000
/-! PLH: what is walked. -/
namespace PL
open PySem PySem.Spec PyProof.Rows L2 RZ
/-! ### enumerate of a tuple -/
set_option maxHeartbeats 2000000 in
theorem meets_enum1 {v : Value} {o : Obj} {W : Heap → Prop} (B : Begins v o W) :
    Meets (Builtin.«enumerate.__new__» ⟨[.type "enumerate", v], []⟩) (fun _ R s => W s.heap ∧
      R (.ok (.ret (.ref (s.heap.push o).objs.size))) { s with heap := (s.heap.push o).push { cls := .type "enumerate", data := .fields #[.none, .bool false, .ref s.heap.objs.size, rawInt 0, .none, .none] } }) :=
  .of_wp fun prog w A R s h => by
    obtain ⟨hp, g, d, tk, os⟩ := s
    obtain ⟨h1, h⟩ := h
    have hsub := sub_enumerate
    have q1 : ∀ {A' : Around} {E : Value → Shared → Prop} {Q : Value → Shared → Prop}, Q (.ref hp.objs.size) ⟨hp.push o, g, d, tk, os⟩ → wpAny (model prog w) A' (pyIter v) Q E ⟨hp, g, d, tk, os⟩ :=
      fun q => B.iter prog w _ _ ⟨hp, g, d, tk, os⟩ _ h1 q
    wp_walk using q1
    refine wpAny_stack_any fun st => wpAny_pure ?_
    split
    · rename_i c _ _ _ _ _
      cases (c == Value.type "enumerate") <;> (wp_walk using q1; exact ⟨_, rfl, h⟩)
    · wp_walk using q1
      exact ⟨_, rfl, h⟩
section
variable {prog : Program} {w : World} {A : Around} {E : Value → Shared → Prop} {s : Shared}
theorem call_enum1 {v : Value} {o : Obj} {W : Heap → Prop} {Q : Value → Shared → Prop} (B : Begins v o W) (h1 : W s.heap)
    (h : ∀ h', IsEnum h' (s.heap.objs.size + 1) s.heap.objs.size 0 .none → h'.get? s.heap.objs.size = some o → (∀ b o, s.heap.get? b = some o → h'.get? b = some o) → Q (.ref (s.heap.objs.size + 1)) { s with heap := h' }) :
    wpAny (model prog w) A (call (.type "enumerate") [v]) Q E s := by
  refine callType_new F.called_enumerate (by decide) (F.typeCall_enumerate_1 _) (F.newCall_enumerate_1 _) (fun obj => F.args_object_init_2 obj _) F.entry_enumerate_new (meets_enum1 B) ⟨h1, ?_⟩
  have hz : (s.heap.push o).objs.size = s.heap.objs.size + 1 := Heap.size_push ..
  show _ ∧ _
  rw [hz]
  have he : IsEnum ((s.heap.push o).push { cls := .type "enumerate", data := .fields #[.none, .bool false, .ref s.heap.objs.size, rawInt 0, .none, .none] }) (s.heap.objs.size + 1) s.heap.objs.size 0 .none := by
    have q := Heap.get?_push_size (s.heap.push o) (o := { cls := .type "enumerate", data := .fields #[.none, .bool false, .ref s.heap.objs.size, rawInt 0, .none, .none] }) rfl
    rw [hz] at q
    exact q
  exact ⟨⟨_, he, rfl⟩, h _ he (Heap.get?_push_of_some _ (Heap.get?_push_size _ B.free)) fun b o x => Heap.get?_push_of_some _ (Heap.get?_push_of_some _ x)⟩
end
/-- the tuple at a, each item in a new pair -/
def IteT (K : PySem.W.Frag) (a : Addr) : It :=
  ⟨fun i H => ∃ (xs : List V) (x : V), SqT K H a xs ∧ xs[i]? = some x, fun i H v H' => ∃ T x, v = .ref T ∧ H T = none ∧ H' = upd H T (.tup [.int (i : Nat), x]) ∧ ∀ xs, SqT K H a xs → xs[i]? = some x, fun i H => ∃ xs : List V, SqT K H a xs ∧ xs.length ≤ i⟩
theorem turn_enumT {P : Program} {w : World} {K : PySem.W.Frag} {elts : List Expr} {kk : Nat} {tpos : Pos} (a e it : Addr) (hai : a ≠ it) :
    Turn P w K (.Tuple elts kk tpos) (IteT K a) [e, it] e (fun i h => (∃ old, IsEnum h e it ((i : Nat) : Int) old) ∧ h.IsTupleIter it a i ∧ e ≠ it ∧ e ≠ a) where
  mem := by simp
  obj := fun i h st b hb => by
    obtain ⟨⟨old, he⟩, ⟨o, ho, hc, hd⟩, _⟩ := st
    have e' : b = e ∨ b = it := by simpa using hb
    rcases e' with z | z
    · rw [z]; exact ⟨_, he, fun v q => nomatch q⟩
    · rw [z]; exact ⟨o, ho, fun v q => by rw [hd] at q; cases q⟩
  keep := fun i h h' st k => let ⟨⟨old, he⟩, hi, hne⟩ := st; ⟨⟨old, k e (by simp) _ he⟩, hi.at fun o q => k it (by simp) o q, hne⟩
  item := by
    intro X hP hw hK hc i pins s σ H E I hf st hg
    subst hP hw hK
    obtain ⟨⟨old, he⟩, hit, hne, hea⟩ := st
    obtain ⟨xs, x, hq, hx⟩ := hg
    obtain ⟨its, rv, p, hz⟩ := I.tuple hq
    obtain ⟨u, hu, ru⟩ := rv.get hx
    have hel : e < s.heap.objs.size := Heap.lt_size he
    have hil : it < s.heap.objs.size := by obtain ⟨_, q, _⟩ := hit; exact Heap.lt_size q
    have hli : i < its.toArray.size := by rw [List.size_toArray]; exact (List.getElem?_eq_some_iff.mp hu).1
    have hef : e ∉ [it, a] := by simp [hne, hea]
    refine wpAny_pyNext_enum_itemD (Draws.tuple (A := X.A.in1) (prog := X.prog) (w := X.w) (I.ok.hd hc) it a hai its.toArray) he ⟨hit, p⟩ hli hne hef fun v h' tk hv ho hit' hT hsz hk => ?_
    have ev : v = u := by
      rw [← Array.getElem?_toList] at hv
      have hv : its[i]? = some v := hv
      rw [hu] at hv
      cases hv
      rfl
    subst ev
    refine ⟨_, rfl, wpAny_letOwnedTupleGo_enum (s := { s with heap := h', toks := tk + 1 }) ho fun h'' he' sb => ?_⟩
    have hT2 : h''.get? s.heap.objs.size = some { cls := .type "tuple", data := .seq #[.int i tk, v] } := (sb.2 _ (Nat.ne_of_gt hel)).trans hT
    have new : ObjOk X.prog X.w (upd H s.heap.objs.size (.tup [.int (i : Nat), x])) h'' s.heap.objs.size (.tup [.int (i : Nat), x]) :=
      ⟨by show 2 ≤ sizeLine; decide, [.int i tk, v], .cons ⟨_, rfl⟩ (.cons ru .nil), ⟨_, hT2, rfl, _, rfl⟩⟩
    have I1 : L2.Inv X pins σ (upd H s.heap.objs.size (.tup [.int (i : Nat), x])) { s with heap := h'', toks := tk + 1 } :=
      I.turnedNew (ch := [e, it]) (fun b ob hb q => (sb.2 b (fun z => hb (by simp [z]))).trans (hk b ob (fun z => hb (by simp [z])) (fun z => hb (by simp [z])) q)) hf (Nat.le_refl _) new
    refine ⟨.ref s.heap.objs.size, _, I1, rfl, ⟨_, x, rfl, I.hok.fresh (Nat.le_refl _), rfl, fun ys hy => by rw [I.tuple_inj hy hq]; exact hx⟩, ⟨⟨v, ?_⟩, hit'.1.at fun o q => (sb.2 it (Ne.symm hne)).trans q, hne, hea⟩, fun b hb => ?_⟩
    · have e1 : ((i + 1 : Nat) : Int) = (i : Int) + 1 := by omega
      rw [e1]; exact he'
    · have hb' : b < s.heap.objs.size := by
        have e' : b = e ∨ b = it := by simpa using hb
        rcases e' with z | z
        · rw [z]; exact hel
        · rw [z]; exact hil
      rw [upd_ne (Nat.ne_of_lt hb')]
      exact (hf b hb).1
  done := by
    intro X hP hw hK hc i pins s σ H E I hf st hg
    subst hP hw hK
    obtain ⟨⟨old, he⟩, hit, hne, hea⟩ := st
    obtain ⟨xs, hq, hx⟩ := hg
    obtain ⟨its, rv, p, hz⟩ := I.tuple hq
    obtain ⟨f0, f1, f2, f3, f4, f5⟩ := hf it (by simp)
    have hl := rv.length
    have hx' : its.toArray[i]? = none := by simp; omega
    have hT : s.TypeIs (.ref e) "enumerate" := ⟨_, he, rfl⟩
    unfold pyNext
    refine wpAny_bind (wpAny_attempt (wpAny_callSpecial?_slot (name := Str.ofString "__next__") hT F.slot_enumerate_next
      (wpAny_call_entry F.slot_enumerate_next hT F.entry_enumerate_next ?_ (F.args_enumerate_next_1 _))))
    show wpAny _ _ (field (.ref e) 2 >>= _) _ _ _
    refine wpAny_bind (wpAny_field he rfl (x := .ref it) rfl ?_)
    refine wpAny_bind (wpAny_nextOf_tuple_end (A := X.A.in1) (I.ok.hd hc) hit p hx' fun h' x he' hx'' => ?_)
    obtain ⟨o, ho, hc'⟩ := hx''
    refine wpAny_bind (wpAny_isInstance (T := "StopIteration") (b := true) ⟨o, ho, hc'⟩ isSubtype_stop ?_)
    exact wpAny_pure ⟨rfl, I.turned (t' := s.toks) (fun b o hb q => he' b o hb q) f0 f1 f3 f4 f5⟩
  self := fun A i s Q E st h => let ⟨⟨_, he⟩, _⟩ := st; wpAny_pyIter_enum he h
end PL
end

section
set_option Elab.async false
set_option linter.all false
set_option maxRecDepth 100000
set_option maxHeartbeats 1000000
/-! PLI0: zip of a tuple and a list, after the library's road for two tuples. -/
namespace PL
open PySem PySem.Spec PyProof.Rows L2 RZ
open PySem.Sem (wp)
section
variable {prog : Program} {w : World} {A : Around} {E : Value → Shared → Prop} {s : Shared}
theorem zipM_next_item {z TI TO i1 i2 l1 l2 : Addr} {k1 k2 : Nat} {xs ys : Array Value} {x y a b : Value} {Q : Value → Shared → Prop} (D : ZipApart z TI TO i1 i2 l1 l2)
    (hz : IsZip s.heap z TI TO .none) (hTI : IsPair s.heap TI (.ref i1) (.ref i2)) (hTO : IsPair s.heap TO a b)
    (h1 : s.heap.IsTupleIter i1 l1 k1) (h2 : s.heap.IsListIter i2 l2 k2) (hl1 : s.heap.IsTuple l1 xs) (hl2 : s.heap.IsList l2 ys) (hx : xs[k1]? = some x) (hy : ys[k2]? = some y)
    (hQ : ∀ h', IsZip h' z TI TO (rawInt s.heap.objs.size) → IsPair h' TO x y → h'.IsTupleIter i1 l1 (k1 + 1) → h'.IsListIter i2 l2 (k2 + 1) → IsPair h' s.heap.objs.size x y → h'.objs.size = s.heap.objs.size + 1 →
      (∀ c o, c ≠ z → c ≠ TO → c ≠ i1 → c ≠ i2 → s.heap.get? c = some o → h'.get? c = some o) → Q (.ref s.heap.objs.size) { s with heap := h' }) :
    wpAny (model prog w) A (Builtin.«zip.__next__» ⟨[.ref z], []⟩) (fun fin s' => ∃ v, fin = .done (.ret v) ∧ Q v s') E s := by
  show wpAny _ _ (field (.ref z) 2 >>= _) _ _ _
  refine wpAny_bind (wpAny_field hz rfl (x := .bool false) rfl ?_)
  show wpAny _ _ (field (.ref z) 3 >>= _) _ _ _
  refine wpAny_bind (wpAny_field hz rfl (x := .ref TI) rfl ?_)
  refine wpAny_bind (wpAny_seqItems hTI rfl ?_)
  show wpAny _ _ (Builtin.SmallTypes.ownedTupleIsFree (.ref z) >>= _) _ _ _
  refine wpAny_bind ?_
  unfold Builtin.SmallTypes.ownedTupleIsFree
  refine wpAny_bind (wpAny_field hz rfl (x := .none) rfl (wpAny_pure ?_))
  simp only [if_true]
  refine wpAny_bind (wpAny_rule ?_)
  refine wpAny_bind (wpAny_field hz rfl (x := .ref TO) rfl ?_)
  refine wpAny_bind (wpAny_setField_rec hz (by simp) fun h₁ hz₁ hs₁ => ?_)
  replace hz₁ : IsZip h₁ z TI TO .ellipsis := hz₁
  refine wpAny_bind ?_
  simp only [List.zipIdx_cons, List.zipIdx_nil, List.forIn_cons, List.forIn_nil]

  refine wpAny_bind (wpAny_bind (wpAny_onRaise ?_))
  show wpAny _ _ (Builtin.SmallTypes.nextOf (.ref i1) >>= _) _ _ _
  refine wpAny_bind (nextOf_tuple_item (h1.extBut hs₁.extBut D.i1z) (hl1.extBut hs₁.extBut D.l1z) hx fun h₂ h1₂ hs₂ => wpAny_pure ?_)
  have hTO₂ : IsPair h₂ TO a b := hs₂.extBut _ _ D.TOi1 (hs₁.extBut _ _ D.TOz hTO)
  refine wpAny_bind (wpAny_seqItems hTO₂ rfl ?_)
  refine wpAny_bind (wpAny_updateSeq_pair hTO₂ fun h₃ hTO₃ hs₃ => ?_)
  replace hTO₃ : IsPair h₃ TO x b := hTO₃
  refine wpAny_bind (wpAny_letGo (wpAny_pure ?_))

  refine wpAny_bind (wpAny_bind (wpAny_onRaise ?_))
  show wpAny _ _ (Builtin.SmallTypes.nextOf (.ref i2) >>= _) _ _ _
  refine wpAny_bind (wpAny_nextOf_list_item (((h2.extBut hs₁.extBut D.i2z).extBut hs₂.extBut D.i12.symm).extBut hs₃.extBut D.TOi2.symm)
    (((hl2.extBut hs₁.extBut D.l2z).extBut hs₂.extBut D.l2i1).extBut hs₃.extBut D.l2TO) hy fun h₄ h2₄ hs₄ => wpAny_pure ?_)
  have hTO₄ : IsPair h₄ TO x b := hs₄.extBut _ _ D.TOi2 hTO₃
  refine wpAny_bind (wpAny_seqItems hTO₄ rfl ?_)
  refine wpAny_bind (wpAny_updateSeq_pair hTO₄ fun h₅ hTO₅ hs₅ => ?_)
  replace hTO₅ : IsPair h₅ TO x y := hTO₅
  refine wpAny_bind (wpAny_letGo (wpAny_pure (wpAny_pure ?_)))

  refine wpAny_bind (wpAny_seqItems hTO₅ rfl ?_)
  refine wpAny_bind (wpAny_newTuple ?_)
  have hsz : h₅.objs.size = s.heap.objs.size := by rw [hs₅.1, hs₄.1, hs₃.1, hs₂.1, hs₁.1]
  have hz₅ : IsZip h₅ z TI TO .ellipsis := hs₅.extBut _ _ D.TOz.symm (hs₄.extBut _ _ D.i2z.symm (hs₃.extBut _ _ D.TOz.symm (hs₂.extBut _ _ D.i1z.symm hz₁)))
  have hk₅ : ∀ c o, c ≠ z → c ≠ TO → c ≠ i1 → c ≠ i2 → s.heap.get? c = some o → h₅.get? c = some o := fun c o c1 c2 c3 c4 e =>
    hs₅.extBut _ _ c2 (hs₄.extBut _ _ c4 (hs₃.extBut _ _ c2 (hs₂.extBut _ _ c3 (hs₁.extBut _ _ c1 e))))
  have h1₅ : h₅.IsTupleIter i1 l1 (k1 + 1) := ((h1₂.extBut hs₃.extBut D.TOi1.symm).extBut hs₄.extBut D.i12).extBut hs₅.extBut D.TOi1.symm
  have h2₅ : h₅.IsListIter i2 l2 (k2 + 1) := h2₄.extBut hs₅.extBut D.TOi2.symm
  have hzlt : z < h₅.objs.size := Heap.lt_size hz₅
  have hTOlt : TO < h₅.objs.size := Heap.lt_size hTO₅
  have hi1lt : i1 < h₅.objs.size := by obtain ⟨_, e, _⟩ := h1₅; exact Heap.lt_size e
  have hi2lt : i2 < h₅.objs.size := by obtain ⟨_, e, _⟩ := h2₅; exact Heap.lt_size e
  show wpAny _ _ (Builtin.SmallTypes.ownedTupleHandOut (.ref z) (.ref h₅.objs.size) >>= _) _ _ _
  refine wpAny_bind ?_
  unfold Builtin.SmallTypes.ownedTupleHandOut
  have hz₆ : IsZip (h₅.push { cls := .type "tuple", data := .seq #[x, y] }) z TI TO .ellipsis := Heap.get?_push_of_some _ hz₅
  refine wpAny_bind (wpAny_setField_rec hz₆ (by simp) fun h₇ hz₇ hs₇ => ?_)
  replace hz₇ : IsZip h₇ z TI TO (rawInt h₅.objs.size) := hz₇
  refine wpAny_setField_rec hz₇ (by simp) fun h₈ hz₈ hs₈ => ?_
  replace hz₈ : IsZip h₈ z TI TO (rawInt h₅.objs.size) := hz₈
  have up : ∀ c o, c ≠ z → h₅.get? c = some o → h₈.get? c = some o := fun c o c1 e => hs₈.extBut _ _ c1 (hs₇.extBut _ _ c1 (Heap.get?_push_of_some _ e))
  have hT₈ : IsPair h₈ h₅.objs.size x y := hs₈.extBut _ _ (Nat.ne_of_gt hzlt) (hs₇.extBut _ _ (Nat.ne_of_gt hzlt) (Heap.get?_push_size _ rfl))
  have hz8 : h₈.objs.size = h₅.objs.size + 1 := by rw [hs₈.1, hs₇.1, Heap.size_push]
  rw [hsz] at hz₈ hT₈ hz8
  refine wpAny_pure ⟨_, rfl, ?_⟩
  show Q (.ref h₅.objs.size) _
  rw [hsz]
  exact hQ h₈ hz₈ (up _ _ D.TOz hTO₅) (h1₅.at fun o e => up _ o D.i1z e) (h2₅.at fun o e => up _ o D.i2z e) hT₈ hz8 fun c o c1 c2 c3 c4 e => up c o c1 (hk₅ c o c1 c2 c3 c4 e)

theorem zipM_next_end {z TI TO i1 i2 l1 l2 : Addr} {k1 k2 : Nat} {xs ys : Array Value} {a b : Value} {Q : Fin → Shared → Prop} (hh : A.handled = none) (D : ZipApart z TI TO i1 i2 l1 l2)
    (hz : IsZip s.heap z TI TO .none) (hTI : IsPair s.heap TI (.ref i1) (.ref i2)) (hTO : IsPair s.heap TO a b)
    (h1 : s.heap.IsTupleIter i1 l1 k1) (h2 : s.heap.IsListIter i2 l2 k2) (hl1 : s.heap.IsTuple l1 xs) (hl2 : s.heap.IsList l2 ys) (hend : xs[k1]? = none ∨ ys[k2]? = none)
    (hE : ∀ h' e, (∀ c o, c ≠ z → c ≠ TO → c ≠ i1 → c ≠ i2 → s.heap.get? c = some o → h'.get? c = some o) → (∃ o, h'.get? e = some o ∧ o.cls = .type "StopIteration") → E (.ref e) { s with heap := h' }) :
    wpAny (model prog w) A (Builtin.«zip.__next__» ⟨[.ref z], []⟩) Q E s := by
  show wpAny _ _ (field (.ref z) 2 >>= _) _ _ _
  refine wpAny_bind (wpAny_field hz rfl (x := .bool false) rfl ?_)
  show wpAny _ _ (field (.ref z) 3 >>= _) _ _ _
  refine wpAny_bind (wpAny_field hz rfl (x := .ref TI) rfl ?_)
  refine wpAny_bind (wpAny_seqItems hTI rfl ?_)
  show wpAny _ _ (Builtin.SmallTypes.ownedTupleIsFree (.ref z) >>= _) _ _ _
  refine wpAny_bind ?_
  unfold Builtin.SmallTypes.ownedTupleIsFree
  refine wpAny_bind (wpAny_field hz rfl (x := .none) rfl (wpAny_pure ?_))
  simp only [if_true]
  refine wpAny_bind (wpAny_rule ?_)
  refine wpAny_bind (wpAny_field hz rfl (x := .ref TO) rfl ?_)
  refine wpAny_bind (wpAny_setField_rec hz (by simp) fun h₁ hz₁ hs₁ => ?_)
  replace hz₁ : IsZip h₁ z TI TO .ellipsis := hz₁
  refine wpAny_bind ?_
  simp only [List.zipIdx_cons, List.zipIdx_nil, List.forIn_cons, List.forIn_nil]
  refine wpAny_bind (wpAny_bind (wpAny_onRaise ?_))
  show wpAny _ _ (Builtin.SmallTypes.nextOf (.ref i1) >>= _) _ _ _
  cases hx : xs[k1]? with
  | none =>
    refine wpAny_bind (nextOf_tuple_end hh (h1.extBut hs₁.extBut D.i1z) (hl1.extBut hs₁.extBut D.l1z) hx fun h₂ e hs₂ he => ?_)
    obtain ⟨oe, hoe, hce⟩ := he
    have hz₂ : IsZip h₂ z TI TO .ellipsis := hs₂ _ _ D.i1z.symm hz₁
    have hez : e ≠ z := fun x => by subst x; rw [hz₂] at hoe; cases hoe; simp at hce
    refine wpAny_setField_rec hz₂ (by simp) fun h₃ _ hs₃ => hE h₃ e (fun c o c1 _ c3 _ x => hs₃.extBut _ _ c1 (hs₂ _ _ c3 (hs₁.extBut _ _ c1 x))) ⟨oe, hs₃.extBut _ _ hez hoe, hce⟩
  | some x =>
    have hy : ys[k2]? = none := by rcases hend with h | h; rw [hx] at h; cases h; exact h
    refine wpAny_bind (nextOf_tuple_item (h1.extBut hs₁.extBut D.i1z) (hl1.extBut hs₁.extBut D.l1z) hx fun h₂ h1₂ hs₂ => wpAny_pure ?_)
    have hTO₂ : IsPair h₂ TO a b := hs₂.extBut _ _ D.TOi1 (hs₁.extBut _ _ D.TOz hTO)
    refine wpAny_bind (wpAny_seqItems hTO₂ rfl ?_)
    refine wpAny_bind (wpAny_updateSeq_pair hTO₂ fun h₃ hTO₃ hs₃ => ?_)
    refine wpAny_bind (wpAny_letGo (wpAny_pure ?_))
    refine wpAny_bind (wpAny_bind (wpAny_onRaise ?_))
    show wpAny _ _ (Builtin.SmallTypes.nextOf (.ref i2) >>= _) _ _ _
    refine wpAny_bind (wpAny_nextOf_list_end hh (((h2.extBut hs₁.extBut D.i2z).extBut hs₂.extBut D.i12.symm).extBut hs₃.extBut D.TOi2.symm)
      (((hl2.extBut hs₁.extBut D.l2z).extBut hs₂.extBut D.l2i1).extBut hs₃.extBut D.l2TO) hy fun h₄ e hs₄ he => ?_)
    obtain ⟨oe, hoe, hce⟩ := he
    have hz₄ : IsZip h₄ z TI TO .ellipsis := hs₄ _ _ D.i2z.symm (hs₃.extBut _ _ D.TOz.symm (hs₂.extBut _ _ D.i1z.symm hz₁))
    have hez : e ≠ z := fun x => by subst x; rw [hz₄] at hoe; cases hoe; simp at hce
    refine wpAny_setField_rec hz₄ (by simp) fun h₅ _ hs₅ => hE h₅ e (fun c o c1 c2 c3 c4 x => hs₅.extBut _ _ c1 (hs₄ _ _ c4 (hs₃.extBut _ _ c2 (hs₂.extBut _ _ c3 (hs₁.extBut _ _ c1 x))))) ⟨oe, hs₅.extBut _ _ hez hoe, hce⟩

theorem pyNext_zipM_item {z TI TO i1 i2 l1 l2 : Addr} {k1 k2 : Nat} {xs ys : Array Value} {x y a b : Value} {Q : Option Value → Shared → Prop} (D : ZipApart z TI TO i1 i2 l1 l2)
    (hz : IsZip s.heap z TI TO .none) (hTI : IsPair s.heap TI (.ref i1) (.ref i2)) (hTO : IsPair s.heap TO a b)
    (h1 : s.heap.IsTupleIter i1 l1 k1) (h2 : s.heap.IsListIter i2 l2 k2) (hl1 : s.heap.IsTuple l1 xs) (hl2 : s.heap.IsList l2 ys) (hx : xs[k1]? = some x) (hy : ys[k2]? = some y)
    (hQ : ∀ h', IsZip h' z TI TO (rawInt s.heap.objs.size) → IsPair h' TO x y → h'.IsTupleIter i1 l1 (k1 + 1) → h'.IsListIter i2 l2 (k2 + 1) → IsPair h' s.heap.objs.size x y → h'.objs.size = s.heap.objs.size + 1 →
      (∀ c o, c ≠ z → c ≠ TO → c ≠ i1 → c ≠ i2 → s.heap.get? c = some o → h'.get? c = some o) → Q (some (.ref s.heap.objs.size)) { s with heap := h' }) :
    wpAny (model prog w) A (pyNext (.ref z)) Q E s := by
  have hT : s.TypeIs (.ref z) "zip" := ⟨_, hz, rfl⟩
  unfold pyNext
  exact wpAny_bind (wpAny_attempt (wpAny_callSpecial?_slot (name := Str.ofString "__next__") hT F.slot_zip_next
    (wpAny_call_entry F.slot_zip_next hT F.entry_zip_next
      (zipM_next_item D hz hTI hTO h1 h2 hl1 hl2 hx hy fun h' a1 a2 a3 a4 a5 a6 a7 => wpAny_pure (hQ h' a1 a2 a3 a4 a5 a6 a7)) (F.args_zip_next_1 _))))

theorem pyNext_zipM_end {z TI TO i1 i2 l1 l2 : Addr} {k1 k2 : Nat} {xs ys : Array Value} {a b : Value} {Q : Option Value → Shared → Prop} (hh : A.handled = none) (D : ZipApart z TI TO i1 i2 l1 l2)
    (hz : IsZip s.heap z TI TO .none) (hTI : IsPair s.heap TI (.ref i1) (.ref i2)) (hTO : IsPair s.heap TO a b)
    (h1 : s.heap.IsTupleIter i1 l1 k1) (h2 : s.heap.IsListIter i2 l2 k2) (hl1 : s.heap.IsTuple l1 xs) (hl2 : s.heap.IsList l2 ys) (hend : xs[k1]? = none ∨ ys[k2]? = none)
    (hQ : ∀ h', (∀ c o, c ≠ z → c ≠ TO → c ≠ i1 → c ≠ i2 → s.heap.get? c = some o → h'.get? c = some o) → Q none { s with heap := h' }) : wpAny (model prog w) A (pyNext (.ref z)) Q E s := by
  have hT : s.TypeIs (.ref z) "zip" := ⟨_, hz, rfl⟩
  unfold pyNext
  refine wpAny_bind (wpAny_attempt (wpAny_callSpecial?_slot (name := Str.ofString "__next__") hT F.slot_zip_next
    (wpAny_call_entry F.slot_zip_next hT F.entry_zip_next (zipM_next_end hh D hz hTI hTO h1 h2 hl1 hl2 hend fun h' e hk he => ?_) (F.args_zip_next_1 _))))
  obtain ⟨o, ho, hc⟩ := he
  refine wpAny_bind (wpAny_isInstance (T := "StopIteration") (b := true) ⟨o, ho, hc⟩ isSubtype_stop ?_)
  exact wpAny_pure (hQ _ hk)
end

abbrev zipMH1 (h : Heap) (l1 : Addr) : Heap := h.push { cls := .type "tuple_iterator", data := .fields #[.ref l1, .int 0 0] }
abbrev zipMH2 (h : Heap) (l1 l2 : Addr) : Heap := (zipMH1 h l1).push { cls := .type "list_iterator", data := .fields #[.ref l2, .int 0 0] }
abbrev zipMH3 (h : Heap) (l1 l2 : Addr) : Heap := (zipMH2 h l1 l2).push { cls := .type "tuple", data := .seq #[.ref h.objs.size, .ref (zipMH1 h l1).objs.size] }
abbrev zipMH4 (h : Heap) (l1 l2 : Addr) : Heap := (zipMH3 h l1 l2).push { cls := .type "tuple", data := .seq #[.none, .none] }
abbrev zipMH5 (h : Heap) (l1 l2 : Addr) : Heap := (zipMH4 h l1 l2).push { cls := .type "zip", data := .fields #[.none, .bool false, .bool false, .ref (zipMH2 h l1 l2).objs.size, .ref (zipMH3 h l1 l2).objs.size] }

theorem meets_zipM_new (l1 l2 : Addr) (xs ys : Array Value) :
    Meets (Builtin.«zip.__new__» ⟨[.type "zip", .ref l1, .ref l2], []⟩) (fun _ R s => s.heap.IsTuple l1 xs ∧ s.heap.IsList l2 ys ∧
      R (.ok (.ret (.ref (zipMH4 s.heap l1 l2).objs.size))) { s with heap := zipMH5 s.heap l1 l2 }) :=
  .of_wp fun prog w A R s h => by
    obtain ⟨hp, g, d, tk, os⟩ := s; obtain ⟨hl1, hl2, h⟩ := h
    have hsub := sub_zip
    have hL1 : Heap.IsTuple (Shared.heap ⟨hp, g, d, tk, os⟩) l1 xs := hl1
    have hL2 : Heap.IsList (Shared.heap ⟨hp.push { cls := .type "tuple_iterator", data := .fields #[.ref l1, .int 0 0] }, g, d, tk, os⟩) l2 ys := Heap.IsList.push hl2 _
    wp_walk using wpAny_pyIter_tuple hL1, wpAny_pyIter_list hL2
    exact ⟨_, rfl, h⟩

section
variable {prog : Program} {w : World} {A : Around} {E : Value → Shared → Prop} {s : Shared}

theorem call_zipM {l1 l2 : Addr} {xs ys : Array Value} {Q : Value → Shared → Prop} (hl1 : s.heap.IsTuple l1 xs) (hl2 : s.heap.IsList l2 ys)
    (h : ∀ h', IsZip h' (s.heap.objs.size + 4) (s.heap.objs.size + 2) (s.heap.objs.size + 3) .none → IsPair h' (s.heap.objs.size + 2) (.ref s.heap.objs.size) (.ref (s.heap.objs.size + 1)) →
      IsPair h' (s.heap.objs.size + 3) .none .none → h'.IsTupleIter s.heap.objs.size l1 0 → h'.IsListIter (s.heap.objs.size + 1) l2 0 → h'.objs.size = s.heap.objs.size + 5 →
      (∀ c o, s.heap.get? c = some o → h'.get? c = some o) → Q (.ref (s.heap.objs.size + 4)) { s with heap := h' }) :
    wpAny (model prog w) A (call (.type "zip") [.ref l1, .ref l2]) Q E s := by
  refine callType_new F.called_zip (by decide) (F.typeCall_zip_2 _ _) (F.newCall_zip_2 _ _) (fun obj => F.args_object_init_3 obj _ _) F.entry_zip_new
    (meets_zipM_new l1 l2 xs ys) ⟨hl1, hl2, ?_⟩
  have z1 : (zipMH1 s.heap l1).objs.size = s.heap.objs.size + 1 := Heap.size_push ..
  have z2 : (zipMH2 s.heap l1 l2).objs.size = s.heap.objs.size + 2 := by rw [Heap.size_push, z1]
  have z3 : (zipMH3 s.heap l1 l2).objs.size = s.heap.objs.size + 3 := by rw [Heap.size_push, z2]
  have z4 : (zipMH4 s.heap l1 l2).objs.size = s.heap.objs.size + 4 := by rw [Heap.size_push, z3]
  have z5 : (zipMH5 s.heap l1 l2).objs.size = s.heap.objs.size + 5 := by rw [Heap.size_push, z4]
  have g5 : (zipMH5 s.heap l1 l2).get? (zipMH4 s.heap l1 l2).objs.size = some _ := Heap.get?_push_size _ rfl
  have g4 : (zipMH5 s.heap l1 l2).get? (zipMH3 s.heap l1 l2).objs.size = some _ := Heap.get?_push_of_some _ (Heap.get?_push_size _ rfl)
  have g3 : (zipMH5 s.heap l1 l2).get? (zipMH2 s.heap l1 l2).objs.size = some _ := Heap.get?_push_of_some _ (Heap.get?_push_of_some _ (Heap.get?_push_size _ rfl))
  have g2 : (zipMH5 s.heap l1 l2).get? (zipMH1 s.heap l1).objs.size = some _ := Heap.get?_push_of_some _ (Heap.get?_push_of_some _ (Heap.get?_push_of_some _ (Heap.get?_push_size _ rfl)))
  have g1 : (zipMH5 s.heap l1 l2).get? s.heap.objs.size = some _ := Heap.get?_push_of_some _ (Heap.get?_push_of_some _ (Heap.get?_push_of_some _ (Heap.get?_push_of_some _ (Heap.get?_push_size _ rfl))))
  show _ ∧ _
  rw [z2, z3, z4] at g5
  rw [z1, z2] at g3
  rw [z3] at g4
  rw [z1] at g2
  rw [z4]
  exact ⟨⟨_, g5, rfl⟩, h _ g5 g3 g4 ⟨_, g1, rfl, rfl⟩ ⟨_, g2, rfl, rfl⟩ z5 fun c o x =>
    Heap.get?_push_of_some _ (Heap.get?_push_of_some _ (Heap.get?_push_of_some _ (Heap.get?_push_of_some _ (Heap.get?_push_of_some _ x))))⟩
end
/-- the tuple at a and the list at b as they stand at each turn, the items in new pairs -/
def ItzM (K : PySem.W.Frag) (a b : Addr) : It :=
  ⟨fun i H => ∃ (xs ys : List V) (x y : V), SqT K H a xs ∧ SqL K H b ys ∧ xs[i]? = some x ∧ ys[i]? = some y,
    fun i H v H' => ∃ T x y, v = .ref T ∧ H T = none ∧ H' = upd H T (.tup [x, y]) ∧ (∀ xs, SqT K H a xs → xs[i]? = some x) ∧ ∀ ys, SqL K H b ys → ys[i]? = some y,
    fun i H => ∃ xs ys : List V, SqT K H a xs ∧ SqL K H b ys ∧ (xs.length ≤ i ∨ ys.length ≤ i)⟩
theorem turn_zipM {P : Program} {w : World} {K : PySem.W.Frag} {elts : List Expr} {kk : Nat} {tpos : Pos} {a b z TI TO i1 i2 : Addr} (D : ZipApart z TI TO i1 i2 a b) :
    Turn P w K (.Tuple elts kk tpos) (ItzM K a b) [z, TI, TO, i1, i2] z (fun i h => IsZip h z TI TO .none ∧ IsPair h TI (.ref i1) (.ref i2) ∧ (∃ x y, IsPair h TO x y) ∧ h.IsTupleIter i1 a i ∧ h.IsListIter i2 b i) where
  mem := by simp
  obj := fun i h st c hc => by
    obtain ⟨hz, hTI, ⟨x, y, hTO⟩, ⟨o1, e1, _, d1⟩, ⟨o2, e2, _, d2⟩⟩ := st
    have e' : c = z ∨ c = TI ∨ c = TO ∨ c = i1 ∨ c = i2 := by simpa using hc
    rcases e' with q | q | q | q | q
    · rw [q]; exact ⟨_, hz, fun v q => nomatch q⟩
    · rw [q]; exact ⟨_, hTI, fun v q => nomatch q⟩
    · rw [q]; exact ⟨_, hTO, fun v q => nomatch q⟩
    · rw [q]; exact ⟨o1, e1, fun v q => by rw [d1] at q; cases q⟩
    · rw [q]; exact ⟨o2, e2, fun v q => by rw [d2] at q; cases q⟩
  keep := fun i h h' st k => by
    obtain ⟨hz, hTI, ⟨x, y, hTO⟩, h1, h2⟩ := st
    exact ⟨k z (by simp) _ hz, k TI (by simp) _ hTI, ⟨x, y, k TO (by simp) _ hTO⟩, h1.at fun o q => k i1 (by simp) o q, h2.at fun o q => k i2 (by simp) o q⟩
  item := by
    intro X hP hw hK hc i pins s σ H E I hf st hg
    subst hP hw hK
    obtain ⟨hz, hTI, ⟨x0, y0, hTO⟩, h1, h2⟩ := st
    obtain ⟨xs, ys, x, y, hqx, hqy, hx, hy⟩ := hg
    obtain ⟨its, rv, p, _⟩ := I.tuple hqx
    obtain ⟨its2, rv2, p2, _⟩ := I.list hqy
    obtain ⟨u, hu, ru⟩ := rv.get hx
    obtain ⟨u2, hu2, ru2⟩ := rv2.get hy
    have hzl : z < s.heap.objs.size := Heap.lt_size hz
    refine pyNext_zipM_item D hz hTI hTO h1 h2 p p2.isList (x := u) (y := u2) (by simpa using hu) (by simpa using hu2) fun h' z' TO' h1' h2' hT hsz hk => ?_
    refine ⟨_, rfl, wpAny_letOwnedTupleGo_zip (s := { s with heap := h' }) z' fun h'' z'' sb => ?_⟩
    have hT2 : h''.get? s.heap.objs.size = some { cls := .type "tuple", data := .seq #[u, u2] } := (sb.2 _ (Nat.ne_of_gt hzl)).trans hT
    have new : ObjOk X.prog X.w (upd H s.heap.objs.size (.tup [x, y])) h'' s.heap.objs.size (.tup [x, y]) :=
      ⟨by show 2 ≤ sizeLine; decide, [u, u2], .cons ru (.cons ru2 .nil), ⟨_, hT2, rfl, _, rfl⟩⟩
    have I1 : Inv X pins σ (upd H s.heap.objs.size (.tup [x, y])) { s with heap := h'' } :=
      I.turnedNew (t' := s.toks) (ch := [z, TI, TO, i1, i2]) (fun c o hb q => (sb.2 c (fun q' => hb (by simp [q']))).trans (hk c o (fun q' => hb (by simp [q'])) (fun q' => hb (by simp [q'])) (fun q' => hb (by simp [q'])) (fun q' => hb (by simp [q'])) q)) hf (Nat.le_refl _) new
    refine ⟨.ref s.heap.objs.size, _, I1, rfl, ⟨_, x, y, rfl, I.hok.fresh (Nat.le_refl _), rfl, fun l hl => by rw [I.tuple_inj hl hqx]; exact hx, fun l hl => by rw [I.list_inj hl hqy]; exact hy⟩, ⟨z'', ?_, ⟨u, u2, ?_⟩, ?_, ?_⟩, fun c hcm => ?_⟩
    · exact (sb.2 _ D.TIz).trans (hk _ _ D.TIz D.TITO D.TIi1 D.TIi2 hTI)
    · exact (sb.2 _ D.TOz).trans TO'
    · exact h1'.at fun o q => (sb.2 _ D.i1z).trans q
    · exact h2'.at fun o q => (sb.2 _ D.i2z).trans q
    · have hlt : c < s.heap.objs.size := by
        have e' : c = z ∨ c = TI ∨ c = TO ∨ c = i1 ∨ c = i2 := by simpa using hcm
        rcases e' with q | q | q | q | q
        · rw [q]; exact hzl
        · rw [q]; exact Heap.lt_size hTI
        · rw [q]; exact Heap.lt_size hTO
        · rw [q]; obtain ⟨_, e1, _⟩ := h1; exact Heap.lt_size e1
        · rw [q]; obtain ⟨_, e2, _⟩ := h2; exact Heap.lt_size e2
      rw [upd_ne (Nat.ne_of_lt hlt)]
      exact (hf c hcm).1
  done := by
    intro X hP hw hK hc i pins s σ H E I hf st hg
    subst hP hw hK
    obtain ⟨hz, hTI, ⟨x0, y0, hTO⟩, h1, h2⟩ := st
    obtain ⟨xs, ys, hqx, hqy, hend⟩ := hg
    obtain ⟨its, rv, p, _⟩ := I.tuple hqx
    obtain ⟨its2, rv2, p2, _⟩ := I.list hqy
    have l1 := rv.length
    have l2 := rv2.length
    have he : its.toArray[i]? = none ∨ its2.toArray[i]? = none := by
      rcases hend with q | q
      · exact .inl (by simp; omega)
      · exact .inr (by simp; omega)
    exact pyNext_zipM_end (I.ok.hd hc) D hz hTI hTO h1 h2 p p2.isList he fun h' hk => ⟨rfl, I.turnedL (t' := s.toks) (ch := [z, TI, TO, i1, i2]) (fun c o hb q =>
      hk c o (fun q' => hb (by simp [q'])) (fun q' => hb (by simp [q'])) (fun q' => hb (by simp [q'])) (fun q' => hb (by simp [q'])) q) hf⟩
  self := fun A i s Q E st h => wpAny_pyIter_zip st.1 h


def iZipB (K : PySem.W.Frag) (ta : TA) : TI := fun σ H R => ta σ H fun vs H1 => ∃ a b xs ys, vs = [.ref a, .ref b] ∧ ((SqL K H1 a xs ∧ SqL K H1 b ys ∧ R (Itz K a b) H1) ∨ (SqT K H1 a xs ∧ SqT K H1 b ys ∧ R (ItzT K a b) H1) ∨ (SqT K H1 a xs ∧ SqL K H1 b ys ∧ R (ItzM K a b) H1))
theorem pi_zipB {X : Cx} {e e2 : Expr} {ta : TA} {p pos tpos : Pos} {elts : List Expr} {kk : Nat} (hg : Gl X "zip") (hm : X.mg "zip" = none) (ha : PA X [e, e2] ta)
    (hs : starEach [e, e2] X.env = (false, eval e X.env) :: starEach [e2] X.env := by rfl) (hpl : (backTo pos (starEach [e2] X.env)).any (·.1) = false := by rfl) :
    PI X (.Tuple elts kk tpos) (.Call (.Name "zip" p) [e, e2] [] pos) (iZipB X.K ta) := by
  refine ⟨fun pins s σ H R I h => ?_⟩
  refine Call_ (ld_blt I hg hm PyProof.Rows.boot_zip (PyProof.Rows.callWith_type1 (thn (ha.run pos pins s σ H _ I h) fun us s1 ⟨vs, H1, I1, r1, q1⟩ => ?_) hs hpl))
  obtain ⟨a, b, xs, ys, ex, q1⟩ := q1
  subst ex
  cases r1 with
  | cons r rr =>
    cases rr with
    | cons r' rr =>
      cases rr
      cases r
      cases r'
      have fresh5 : ∀ c, c ∈ [s1.heap.objs.size + 4, s1.heap.objs.size + 2, s1.heap.objs.size + 3, s1.heap.objs.size, s1.heap.objs.size + 1] → FpOk X pins H1 c := fun c hcm => by
        have e' : c = s1.heap.objs.size + 4 ∨ c = s1.heap.objs.size + 2 ∨ c = s1.heap.objs.size + 3 ∨ c = s1.heap.objs.size ∨ c = s1.heap.objs.size + 1 := by simpa using hcm
        have hle : s1.heap.objs.size ≤ c := by
          rcases e' with z | z | z | z | z
          · rw [z]; exact Nat.le_add_right _ _
          · rw [z]; exact Nat.le_add_right _ _
          · rw [z]; exact Nat.le_add_right _ _
          · rw [z]; exact Nat.le_refl _
          · rw [z]; exact Nat.le_add_right _ _
        exact I1.fpOk hle (I1.hok.fresh hle)
      rcases q1 with ⟨hqx, hqy, q⟩ | ⟨hqx, hqy, q⟩ | ⟨hqx, hqy, q⟩
      · obtain ⟨its, rv, p1, _⟩ := I1.list hqx
        obtain ⟨its2, rv2, p2, _⟩ := I1.list hqy
        refine call_zip_2 p1.isList p2.isList fun h' hz hTI hTO h1 h2 hsz hk => wpAny_pyIter_zip hz ?_
        have I2 : L2.Inv X pins σ H1 { s1 with heap := h' } := I1.kept (t' := s1.toks) hk
        exact ⟨s1.heap.objs.size + 4, [s1.heap.objs.size + 4, s1.heap.objs.size + 2, s1.heap.objs.size + 3, s1.heap.objs.size, s1.heap.objs.size + 1], _, _, H1, rfl, I2, turn_zip (PySem.W.ktu_apart s1.heap.objs.size a b p1.lt p2.lt), ⟨hz, hTI, ⟨_, _, hTO⟩, h1, h2⟩, fresh5, q⟩
      · obtain ⟨its, rv, p1, _⟩ := I1.tuple hqx
        obtain ⟨its2, rv2, p2, _⟩ := I1.tuple hqy
        obtain ⟨o1, ho1, _⟩ := id p1
        obtain ⟨o2, ho2, _⟩ := id p2
        refine call_zipT (show s1.heap.IsTuple a its.toArray from p1) (show s1.heap.IsTuple b its2.toArray from p2) fun h' hz hTI hTO h1 h2 hsz hk => wpAny_pyIter_zip hz ?_
        have I2 : L2.Inv X pins σ H1 { s1 with heap := h' } := I1.kept (t' := s1.toks) hk
        exact ⟨s1.heap.objs.size + 4, [s1.heap.objs.size + 4, s1.heap.objs.size + 2, s1.heap.objs.size + 3, s1.heap.objs.size, s1.heap.objs.size + 1], _, _, H1, rfl, I2, turn_zipT (PySem.W.ktu_apart s1.heap.objs.size a b (Heap.lt_size ho1) (Heap.lt_size ho2)), ⟨hz, hTI, ⟨_, _, hTO⟩, h1, h2⟩, fresh5, q⟩
      · obtain ⟨its, rv, p1, _⟩ := I1.tuple hqx
        obtain ⟨its2, rv2, p2, _⟩ := I1.list hqy
        obtain ⟨o1, ho1, _⟩ := id p1
        refine call_zipM (show s1.heap.IsTuple a its.toArray from p1) p2.isList fun h' hz hTI hTO h1 h2 hsz hk => wpAny_pyIter_zip hz ?_
        have I2 : L2.Inv X pins σ H1 { s1 with heap := h' } := I1.kept (t' := s1.toks) hk
        exact ⟨s1.heap.objs.size + 4, [s1.heap.objs.size + 4, s1.heap.objs.size + 2, s1.heap.objs.size + 3, s1.heap.objs.size, s1.heap.objs.size + 1], _, _, H1, rfl, I2, turn_zipM (PySem.W.ktu_apart s1.heap.objs.size a b (Heap.lt_size ho1) p2.lt), ⟨hz, hTI, ⟨_, _, hTO⟩, h1, h2⟩, fresh5, q⟩
end PL
end

section
set_option Elab.async false
set_option linter.all false
set_option maxRecDepth 100000
set_option maxHeartbeats 1000000
/-! PLI: sources of loops and comprehensions, by the evaluator. -/
namespace PL
open PySem PySem.Spec PyProof.Rows L2 RZ
/-- a value, or a pair just made that is taken apart at once -/
def Rw (M : Ma) (H : Hp) (d : D) (x : V) : Prop := Rv M H d x ∨ ∃ T ds vs, d = .tuple ds ∧ x = .ref T ∧ H T = some (.tup vs) ∧ Rvs M H ds vs
/-- the iterator J goes over the items of w while what is held stands -/
def WOk (P : Pg) (M : Ma) (H : Hp) (w : Wk) (J : It) : Prop := ∃ W Y, Walk J w.items.length W Y ∧ (∀ M' H' S', Ext M H M' H' → P.Emb M' H' S' → w.ok S' → W H') ∧
  ∀ i M' H' S' x H'', Ext M H M' H' → P.Emb M' H' S' → w.ok S' → Y i H' x H'' → ∃ d, w.items[i]? = some d ∧ P.Emb M' H'' S' ∧ Ext M' H' M' H'' ∧ Rw M' H'' d x ∧ (w.pr = false → Rv M' H'' d x)
section
variable {K : PySem.W.Frag} {a b : Addr} {n m : Nat}
theorem walk_listG : Walk (Itl K a) n (fun H => ∃ vs, SqL K H a vs ∧ vs.length = n) (fun i H x H' => H' = H ∧ ∀ vs, SqL K H a vs → vs[i]? = some x) :=
  ⟨fun i _ hi ⟨vs, q, e⟩ => ⟨vs, vs[i], q, by simp [e, hi]⟩, fun _ ⟨vs, q, e⟩ => ⟨vs, q, Nat.le_of_eq e⟩, fun _ _ _ _ _ _ y => y⟩
theorem walk_tupG : Walk (Itt K a) n (fun H => ∃ vs, SqT K H a vs ∧ vs.length = n) (fun i H x H' => H' = H ∧ ∀ vs, SqT K H a vs → vs[i]? = some x) :=
  ⟨fun i _ hi ⟨vs, q, e⟩ => ⟨vs, vs[i], q, by simp [e, hi]⟩, fun _ ⟨vs, q, e⟩ => ⟨vs, q, Nat.le_of_eq e⟩, fun _ _ _ _ _ _ y => y⟩
theorem walk_enumG : Walk (Ite K a) n (fun H => ∃ vs, SqL K H a vs ∧ vs.length = n) (fun i H v H' => ∃ T x, v = .ref T ∧ H T = none ∧ H' = upd H T (.tup [.int (i : Nat), x]) ∧ ∀ xs, SqL K H a xs → xs[i]? = some x) :=
  ⟨fun i _ hi ⟨vs, q, e⟩ => ⟨vs, vs[i], q, by simp [e, hi]⟩, fun _ ⟨vs, q, e⟩ => ⟨vs, q, Nat.le_of_eq e⟩, fun _ _ _ _ _ _ y => y⟩
theorem walk_enumT : Walk (IteT K a) n (fun H => ∃ vs, SqT K H a vs ∧ vs.length = n) (fun i H v H' => ∃ T x, v = .ref T ∧ H T = none ∧ H' = upd H T (.tup [.int (i : Nat), x]) ∧ ∀ xs, SqT K H a xs → xs[i]? = some x) :=
  ⟨fun i _ hi ⟨vs, q, e⟩ => ⟨vs, vs[i], q, by simp [e, hi]⟩, fun _ ⟨vs, q, e⟩ => ⟨vs, q, Nat.le_of_eq e⟩, fun _ _ _ _ _ _ y => y⟩
theorem walk_zipG : Walk (Itz K a b) (min n m) (fun H => (∃ vs, SqL K H a vs ∧ vs.length = n) ∧ ∃ vs, SqL K H b vs ∧ vs.length = m)
    (fun i H v H' => ∃ T x y, v = .ref T ∧ H T = none ∧ H' = upd H T (.tup [x, y]) ∧ (∀ xs, SqL K H a xs → xs[i]? = some x) ∧ ∀ ys, SqL K H b ys → ys[i]? = some y) := by
  refine ⟨fun i _ hi ⟨⟨vs, q, e⟩, ⟨us, q2, e2⟩⟩ => ?_, fun _ ⟨⟨vs, q, e⟩, ⟨us, q2, e2⟩⟩ => ⟨vs, us, q, q2, by omega⟩, fun _ _ _ _ _ _ y => y⟩
  have h1 : i < vs.length := by omega
  have h2 : i < us.length := by omega
  exact ⟨vs, us, vs[i], us[i], q, q2, by simp [h1], by simp [h2]⟩
theorem walk_zipT : Walk (ItzT K a b) (min n m) (fun H => (∃ vs, SqT K H a vs ∧ vs.length = n) ∧ ∃ vs, SqT K H b vs ∧ vs.length = m)
    (fun i H v H' => ∃ T x y, v = .ref T ∧ H T = none ∧ H' = upd H T (.tup [x, y]) ∧ (∀ xs, SqT K H a xs → xs[i]? = some x) ∧ ∀ ys, SqT K H b ys → ys[i]? = some y) := by
  refine ⟨fun i _ hi ⟨⟨vs, q, e⟩, ⟨us, q2, e2⟩⟩ => ?_, fun _ ⟨⟨vs, q, e⟩, ⟨us, q2, e2⟩⟩ => ⟨vs, us, q, q2, by omega⟩, fun _ _ _ _ _ _ y => y⟩
  have h1 : i < vs.length := by omega
  have h2 : i < us.length := by omega
  exact ⟨vs, us, vs[i], us[i], q, q2, by simp [h1], by simp [h2]⟩
end
section
variable {K : PySem.W.Frag} {a b : Addr} {n m : Nat}
theorem walk_zipM : Walk (ItzM K a b) (min n m) (fun H => (∃ vs, SqT K H a vs ∧ vs.length = n) ∧ ∃ vs, SqL K H b vs ∧ vs.length = m)
    (fun i H v H' => ∃ T x y, v = .ref T ∧ H T = none ∧ H' = upd H T (.tup [x, y]) ∧ (∀ xs, SqT K H a xs → xs[i]? = some x) ∧ ∀ ys, SqL K H b ys → ys[i]? = some y) := by
  refine ⟨fun i _ hi ⟨⟨vs, q, e⟩, ⟨us, q2, e2⟩⟩ => ?_, fun _ ⟨⟨vs, q, e⟩, ⟨us, q2, e2⟩⟩ => ⟨vs, us, q, q2, by omega⟩, fun _ _ _ _ _ _ y => y⟩
  have h1 : i < vs.length := by omega
  have h2 : i < us.length := by omega
  exact ⟨vs, us, vs[i], us[i], q, q2, by simp [h1], by simp [h2]⟩
end
section
variable {P : Pg} {M : Ma} {H : Hp} {S : Sto} {d : D} {v : V} {ds : List D}
/-- what stands of a sequence while it is held: a list -/
theorem held_list (h : lstD S d = some ds) (em : P.Emb M H S) (r : Rv M H d v) : ∃ a, v = .ref a ∧ ∀ M' H' S', Ext M H M' H' → P.Emb M' H' S' → (∀ p ∈ heldD d ds, objL S' p.1 = some p.2) → ∃ vs, H' a = some (.lst vs) ∧ Rvs M' H' ds vs := by
  rcases lstD_some h with rfl | ⟨i, rfl, hs⟩
  · cases r with
    | lst h1 n q => exact ⟨_, rfl, fun M' H' S' e em' _ => ⟨_, e.keep _ _ h1 n (fun _ z => nomatch z), q.mono e⟩⟩
  · obtain ⟨a, rfl, hm⟩ := r.refI
    refine ⟨a, rfl, fun M' H' S' e em' hh => ?_⟩
    have h1 := hh (i, ds) (by simp [heldD])
    exact em'.ob i a _ (e.at hm) (objL_some h1)
theorem held_tup (r : Rv M H (.tuple ds) v) : ∃ a, v = .ref a ∧ ∀ M' H', Ext M H M' H' → ∃ vs, TupF H' a vs ∧ Rvs M' H' ds vs := by
  obtain ⟨a, vs, rfl, h1, n, q⟩ := r.tupI
  exact ⟨a, rfl, fun M' H' e => ⟨vs, h1.mono e.toExtW n, q.mono e⟩⟩
end
theorem enumL_len : ∀ (ds : List D) (k : Nat), (enumL k ds).length = ds.length
  | [], _ => rfl
  | _ :: ds, k => by simp [enumL, enumL_len ds]
theorem enumL_get : ∀ (ds : List D) (k i : Nat), (enumL k ds)[i]? = ds[i]?.map fun d => .tuple [.int ((k + i : Nat) : Int), d]
  | [], _, _ => by simp [enumL]
  | d :: ds, k, 0 => by simp [enumL]
  | d :: ds, k, i + 1 => by
    simp only [enumL, List.getElem?_cons_succ]
    rw [enumL_get ds (k + 1) i]
    have e : k + 1 + i = k + (i + 1) := by omega
    rw [e]
theorem zipL_len : ∀ (xs ys : List D), (zipL xs ys).length = min xs.length ys.length
  | [], _ => by simp [zipL]
  | _ :: _, [] => by simp [zipL]
  | _ :: xs, _ :: ys => by simp only [zipL, List.length_cons, zipL_len xs ys]; omega
theorem zipL_get : ∀ (xs ys : List D) (i : Nat) (x y : D), xs[i]? = some x → ys[i]? = some y → (zipL xs ys)[i]? = some (.tuple [x, y])
  | [], _, _, _, _, h, _ => by simp at h
  | _ :: _, [], _, _, _, _, h => by simp at h
  | _ :: _, _ :: _, 0, _, _, h1, h2 => by simp at h1 h2; subst h1 h2; rfl
  | _ :: xs, _ :: ys, i + 1, x, y, h1, h2 => by
    simp only [zipL, List.getElem?_cons_succ]
    exact zipL_get xs ys i x y (by simpa using h1) (by simpa using h2)
section
variable {P : Pg} {M : Ma} {H : Hp} {S : Sto} {d e : D} {v u : V} {ds es : List D}
/-- a pair just made -/
theorem pair_new {M : Ma} {H : Hp} {S : Sto} {T : Addr} {d e : D} {x y : V} (em : P.Emb M H S) (hT : H T = none) (r1 : Rv M H d x) (r2 : Rv M H e y) :
    P.Emb M (upd H T (.tup [x, y])) S ∧ Ext M H M (upd H T (.tup [x, y])) ∧ Rw M (upd H T (.tup [x, y])) (.tuple [d, e]) (.ref T) := by
  have q : Ext M H M (upd H T (.tup [x, y])) := Ext.alloc hT
  exact ⟨em.alloc hT, q, .inr ⟨T, [d, e], [x, y], rfl, rfl, upd_same, .cons (r1.mono q) (.cons (r2.mono q) .nil)⟩⟩
theorem wok_list (h : lstD S d = some ds) (em : P.Emb M H S) (r : Rv M H d v) : ∃ a, v = .ref a ∧ (∃ vs, H a = some (.lst vs)) ∧ WOk P M H ⟨ds, heldD d ds, false⟩ (Itl P.K a) := by
  obtain ⟨a, vs0, rfl, h0, q0⟩ := em.lst h r
  obtain ⟨a', e', hh⟩ := held_list h em r
  cases e'
  refine ⟨a, rfl, ⟨vs0, h0⟩, _, _, walk_listG, fun M' H' S' e em' ok => ?_, fun i M' H' S' x H'' e em' ok y => ?_⟩
  · obtain ⟨vs, h1, h2⟩ := hh M' H' S' e em' ok
    exact ⟨vs, SqL.of h1, h2.length.symm⟩
  · obtain ⟨vs, h1, h2⟩ := hh M' H' S' e em' ok
    obtain ⟨rfl, y⟩ := y
    obtain ⟨d', h3, h4⟩ := h2.get (y vs (SqL.of h1))
    exact ⟨d', h3, em', Ext.refl, .inl h4, fun _ => h4⟩
theorem wok_tup (r : Rv M H (.tuple ds) v) : ∃ a, v = .ref a ∧ (∃ vs, TupF H a vs) ∧ WOk P M H ⟨ds, heldD (.tuple ds) ds, false⟩ (Itt P.K a) := by
  obtain ⟨a, vs0, rfl, h0, n0, q0⟩ := r.tupI
  obtain ⟨a', e', hh⟩ := held_tup r
  cases e'
  refine ⟨a, rfl, ⟨vs0, h0⟩, _, _, walk_tupG, fun M' H' S' e em' ok => ?_, fun i M' H' S' x H'' e em' ok y => ?_⟩
  · obtain ⟨vs, h1, h2⟩ := hh M' H' e
    exact ⟨vs, h1.sq, h2.length.symm⟩
  · obtain ⟨vs, h1, h2⟩ := hh M' H' e
    obtain ⟨rfl, y⟩ := y
    obtain ⟨d', h3, h4⟩ := h2.get (y vs h1.sq)
    exact ⟨d', h3, em', Ext.refl, .inl h4, fun _ => h4⟩
theorem wok_str {z : Str} : WOk P M H ⟨chrs z, [], false⟩ (Its z) := by
  refine ⟨_, _, by
    have e : (chrs z).length = z.cps.size := by simp [chrs]
    show Walk (Its z) (chrs z).length _ _
    rw [e]
    exact walk_str, fun _ _ _ _ _ _ => trivial, fun i M' H' S' x H'' e em' ok y => ?_⟩
  obtain ⟨rfl, c, hc, rfl⟩ := y
  refine ⟨.str ⟨#[c]⟩, ?_, em', Ext.refl, .inl (.str _), fun _ => .str _⟩
  show (chrs z)[i]? = _
  unfold chrs
  rw [List.getElem?_map, Array.getElem?_toList, hc]
  rfl
theorem rangeL_get {i : Int} {j : Nat} (h : j < i.toNat) : (rangeL i)[j]? = some (.int (j : Nat)) := by
  unfold rangeL
  rw [List.getElem?_map, List.getElem?_range h]
  rfl
theorem wok_range {i : Int} : WOk P M H ⟨rangeL i, [], false⟩ (Itr 0 i.toNat) := by
  refine ⟨fun _ => True, fun j H x H' => H' = H ∧ x = .int (0 + j) ∧ j < i.toNat, ?_, fun _ _ _ _ _ _ => trivial, fun j M' H' S' x H'' e em' ok y => ?_⟩
  · have e : (rangeL i).length = i.toNat := by simp [rangeL]
    show Walk (Itr 0 i.toNat) (rangeL i).length _ _
    rw [e]
    exact ⟨fun _ _ hi _ => hi, fun _ _ => Nat.le_refl _, fun j _ _ _ hj _ y => ⟨y.1, y.2, hj⟩⟩
  · obtain ⟨rfl, rfl, hj⟩ := y
    have r : Rv M' H'' (.int ((j : Nat) : Int)) (.int (0 + (j : Nat))) := by rw [Int.zero_add]; exact .int _
    exact ⟨.int (j : Nat), rangeL_get hj, em', Ext.refl, .inl r, fun _ => r⟩
theorem wok_range3 {i j c : Int} : WOk P M H ⟨range3L i j c, [], false⟩ (Itc i c (Builtin.Range.rangeSize i j c).toNat) := by
  refine ⟨fun _ => True, fun k H x H' => H' = H ∧ x = .int (i + (k : Nat) * c) ∧ k < (Builtin.Range.rangeSize i j c).toNat, ?_, fun _ _ _ _ _ _ => trivial, fun k M' H' S' x H'' e em' ok y => ?_⟩
  · have e : (range3L i j c).length = (Builtin.Range.rangeSize i j c).toNat := by simp [range3L]
    show Walk (Itc i c (Builtin.Range.rangeSize i j c).toNat) (range3L i j c).length _ _
    rw [e]
    exact ⟨fun _ _ hi _ => hi, fun _ _ => Nat.le_refl _, fun j _ _ _ hj _ y => ⟨y.1, y.2, hj⟩⟩
  · obtain ⟨rfl, rfl, hj⟩ := y
    refine ⟨.int (i + (k : Nat) * c), ?_, em', Ext.refl, .inl (.int _), fun _ => .int _⟩
    unfold range3L
    rw [List.getElem?_map, List.getElem?_range hj]
    rfl
theorem wok_enumL (h : lstD S d = some ds) (em : P.Emb M H S) (r : Rv M H d v) : ∃ a, v = .ref a ∧ (∃ vs, H a = some (.lst vs)) ∧ WOk P M H ⟨enumL 0 ds, heldD d ds, true⟩ (Ite P.K a) := by
  obtain ⟨a, vs0, rfl, h0, q0⟩ := em.lst h r
  obtain ⟨a', e', hh⟩ := held_list h em r
  cases e'
  refine ⟨a, rfl, ⟨vs0, h0⟩, _, _, walk_enumG, fun M' H' S' e em' ok => ?_, fun i M' H' S' x H'' e em' ok y => ?_⟩
  · obtain ⟨vs, h1, h2⟩ := hh M' H' S' e em' ok
    exact ⟨vs, SqL.of h1, by rw [← h2.length]; exact (enumL_len ds 0).symm⟩
  · obtain ⟨vs, h1, h2⟩ := hh M' H' S' e em' ok
    obtain ⟨T, w, rfl, hT, rfl, y⟩ := y
    obtain ⟨d', h3, h4⟩ := h2.get (y vs (SqL.of h1))
    obtain ⟨p1, p2, p3⟩ := pair_new em' hT (.int (i : Nat)) h4
    refine ⟨_, ?_, p1, p2, p3, fun z => nomatch z⟩
    show (enumL 0 ds)[i]? = _
    rw [enumL_get, h3]
    simp
theorem wok_enumT (r : Rv M H (.tuple ds) v) : ∃ a, v = .ref a ∧ (∃ vs, TupF H a vs) ∧ WOk P M H ⟨enumL 0 ds, heldD (.tuple ds) ds, true⟩ (IteT P.K a) := by
  obtain ⟨a, vs0, rfl, h0, n0, q0⟩ := r.tupI
  obtain ⟨a', e', hh⟩ := held_tup r
  cases e'
  refine ⟨a, rfl, ⟨vs0, h0⟩, _, _, walk_enumT, fun M' H' S' e em' ok => ?_, fun i M' H' S' x H'' e em' ok y => ?_⟩
  · obtain ⟨vs, h1, h2⟩ := hh M' H' e
    exact ⟨vs, h1.sq, by rw [← h2.length]; exact (enumL_len ds 0).symm⟩
  · obtain ⟨vs, h1, h2⟩ := hh M' H' e
    obtain ⟨T, w, rfl, hT, rfl, y⟩ := y
    obtain ⟨d', h3, h4⟩ := h2.get (y vs h1.sq)
    obtain ⟨p1, p2, p3⟩ := pair_new em' hT (.int (i : Nat)) h4
    refine ⟨_, ?_, p1, p2, p3, fun z => nomatch z⟩
    show (enumL 0 ds)[i]? = _
    rw [enumL_get, h3]
    simp
theorem heldL {w : List (Nat × List D)} {S : Sto} (ok : ∀ p ∈ w, objL S p.1 = some p.2) : ∀ p ∈ w, objL S p.1 = some p.2 := ok
theorem wok_zipL (h1 : lstD S d = some ds) (h2 : lstD S e = some es) (em : P.Emb M H S) (r1 : Rv M H d v) (r2 : Rv M H e u) :
    ∃ a b, v = .ref a ∧ u = .ref b ∧ (∃ vs, H a = some (.lst vs)) ∧ (∃ vs, H b = some (.lst vs)) ∧ WOk P M H ⟨zipL ds es, heldD d ds ++ heldD e es, true⟩ (Itz P.K a b) := by
  obtain ⟨a, vs1, rfl, g1, _⟩ := em.lst h1 r1
  obtain ⟨b, vs2, rfl, g2, _⟩ := em.lst h2 r2
  obtain ⟨a', e1, hh1⟩ := held_list h1 em r1
  obtain ⟨b', e2, hh2⟩ := held_list h2 em r2
  cases e1
  cases e2
  have split : ∀ {S' : Sto}, (∀ p ∈ heldD d ds ++ heldD e es, objL S' p.1 = some p.2) → (∀ p ∈ heldD d ds, objL S' p.1 = some p.2) ∧ ∀ p ∈ heldD e es, objL S' p.1 = some p.2 :=
    fun ok => ⟨fun p hp => ok p (List.mem_append_left _ hp), fun p hp => ok p (List.mem_append_right _ hp)⟩
  refine ⟨a, b, rfl, rfl, ⟨_, g1⟩, ⟨_, g2⟩, _, _, by
    show Walk (Itz P.K a b) (zipL ds es).length _ _
    rw [zipL_len]
    exact walk_zipG, fun M' H' S' e em' ok => ?_, fun i M' H' S' x H'' e em' ok y => ?_⟩
  · obtain ⟨o1, o2⟩ := split ok
    obtain ⟨us, q1, q2⟩ := hh1 M' H' S' e em' o1
    obtain ⟨ws, q3, q4⟩ := hh2 M' H' S' e em' o2
    exact ⟨⟨us, SqL.of q1, q2.length.symm⟩, ⟨ws, SqL.of q3, q4.length.symm⟩⟩
  · obtain ⟨o1, o2⟩ := split ok
    obtain ⟨us, q1, q2⟩ := hh1 M' H' S' e em' o1
    obtain ⟨ws, q3, q4⟩ := hh2 M' H' S' e em' o2
    obtain ⟨T, x, y, rfl, hT, rfl, y1, y2⟩ := y
    obtain ⟨d1, p1, p2⟩ := q2.get (y1 us (SqL.of q1))
    obtain ⟨d2, p3, p4⟩ := q4.get (y2 ws (SqL.of q3))
    obtain ⟨n1, n2, n3⟩ := pair_new em' hT p2 p4
    exact ⟨_, zipL_get _ _ _ _ _ p1 p3, n1, n2, n3, fun z => nomatch z⟩
theorem wok_zipT (em : P.Emb M H S) (r1 : Rv M H (.tuple ds) v) (r2 : Rv M H (.tuple es) u) :
    ∃ a b, v = .ref a ∧ u = .ref b ∧ (∃ vs, TupF H a vs) ∧ (∃ vs, TupF H b vs) ∧ WOk P M H ⟨zipL ds es, heldD (.tuple ds) ds ++ heldD (.tuple es) es, true⟩ (ItzT P.K a b) := by
  obtain ⟨a, vs1, rfl, g1, _⟩ := r1.tupI
  obtain ⟨b, vs2, rfl, g2, _⟩ := r2.tupI
  obtain ⟨a', e1, hh1⟩ := held_tup r1
  obtain ⟨b', e2, hh2⟩ := held_tup r2
  cases e1
  cases e2
  refine ⟨a, b, rfl, rfl, ⟨_, g1⟩, ⟨_, g2⟩, _, _, by
    show Walk (ItzT P.K a b) (zipL ds es).length _ _
    rw [zipL_len]
    exact walk_zipT, fun M' H' S' e em' ok => ?_, fun i M' H' S' x H'' e em' ok y => ?_⟩
  · obtain ⟨us, q1, q2⟩ := hh1 M' H' e
    obtain ⟨ws, q3, q4⟩ := hh2 M' H' e
    exact ⟨⟨us, q1.sq, q2.length.symm⟩, ⟨ws, q3.sq, q4.length.symm⟩⟩
  · obtain ⟨us, q1, q2⟩ := hh1 M' H' e
    obtain ⟨ws, q3, q4⟩ := hh2 M' H' e
    obtain ⟨T, x, y, rfl, hT, rfl, y1, y2⟩ := y
    obtain ⟨d1, p1, p2⟩ := q2.get (y1 us q1.sq)
    obtain ⟨d2, p3, p4⟩ := q4.get (y2 ws q3.sq)
    obtain ⟨n1, n2, n3⟩ := pair_new em' hT p2 p4
    exact ⟨_, zipL_get _ _ _ _ _ p1 p3, n1, n2, n3, fun z => nomatch z⟩
end
section
variable {P : Pg} {M : Ma} {H : Hp} {S : Sto} {e : D} {v u : V} {ds es : List D}
theorem wok_zipM (h2 : lstD S e = some es) (em : P.Emb M H S) (r1 : Rv M H (.tuple ds) v) (r2 : Rv M H e u) :
    ∃ a b, v = .ref a ∧ u = .ref b ∧ (∃ vs, TupF H a vs) ∧ (∃ vs, H b = some (.lst vs)) ∧ WOk P M H ⟨zipL ds es, heldD (.tuple ds) ds ++ heldD e es, true⟩ (ItzM P.K a b) := by
  obtain ⟨a, vs1, rfl, g1, _⟩ := r1.tupI
  obtain ⟨b, vs2, rfl, g2, _⟩ := em.lst h2 r2
  obtain ⟨a', e1, hh1⟩ := held_tup r1
  obtain ⟨b', e2, hh2⟩ := held_list h2 em r2
  cases e1
  cases e2
  have split : ∀ {S' : Sto}, (∀ p ∈ heldD (.tuple ds) ds ++ heldD e es, objL S' p.1 = some p.2) → ∀ p ∈ heldD e es, objL S' p.1 = some p.2 :=
    fun ok => fun p hp => ok p (List.mem_append_right _ hp)
  refine ⟨a, b, rfl, rfl, ⟨_, g1⟩, ⟨_, g2⟩, _, _, by
    show Walk (ItzM P.K a b) (zipL ds es).length _ _
    rw [zipL_len]
    exact walk_zipM, fun M' H' S' e em' ok => ?_, fun i M' H' S' x H'' e em' ok y => ?_⟩
  · obtain ⟨us, q1, q2⟩ := hh1 M' H' e
    obtain ⟨ws, q3, q4⟩ := hh2 M' H' S' e em' (split ok)
    exact ⟨⟨us, q1.sq, q2.length.symm⟩, ⟨ws, SqL.of q3, q4.length.symm⟩⟩
  · obtain ⟨us, q1, q2⟩ := hh1 M' H' e
    obtain ⟨ws, q3, q4⟩ := hh2 M' H' S' e em' (split ok)
    obtain ⟨T, x, y, rfl, hT, rfl, y1, y2⟩ := y
    obtain ⟨d1, p1, p2⟩ := q2.get (y1 us q1.sq)
    obtain ⟨d2, p3, p4⟩ := q4.get (y2 ws (SqL.of q3))
    obtain ⟨n1, n2, n3⟩ := pair_new em' hT p2 p4
    exact ⟨_, zipL_get _ _ _ _ _ p1 p3, n1, n2, n3, fun z => nomatch z⟩
end
/-! ### the sources' rules -/
def tI (P : Pg) (G : Calls) (Z : ZX) (m : I) : TI := fun σ H R => ∃ M S ρ, P.Emb M H S ∧ Renv M H ρ σ ∧ Res P (WOk P) M H (evi G P.gi m ρ S) R Z
section
variable {P : Pg} {Γ : Ga} {X : Cx} {G : Calls} {Z : ZX} {tg : Expr}
/-- iter(x) by values -/
theorem it_seq (hK : X.K = P.K) {pins : List (Addr × Obj)} {s : Shared} {σ : L2.St} {H : Hp} {M : Ma} {S : Sto} {d : D} {x : V} {v : Value} {w : Wk} {R : It → Hp → Prop} (I : L2.Inv X pins σ H s) (em : P.Emb M H S) (rd : Rv M H d x) (rx : RelV x v)
    (h : itemsD S d = some w) (q : ∀ J, WOk P M H w J → R J H) : wpAny (model X.prog X.w) X.A (pyIter v) (PIE X pins σ tg R) X.xe s := by
  have lst : ∀ ds, lstD S d = some ds → w = ⟨ds, heldD d ds, false⟩ → wpAny (model X.prog X.w) X.A (pyIter v) (PIE X pins σ tg R) X.xe s := fun ds h1 h2 => by
    subst h2
    obtain ⟨a, rfl, ⟨vs, h3⟩, ok⟩ := wok_list h1 em rd
    cases rx
    obtain ⟨its, rv, p, hz⟩ := I.list (SqL.of h3)
    have okX : WOk P M H ⟨ds, heldD d ds, false⟩ (Itl X.K a) := by rw [hK]; exact ok
    exact wpAny_pyIter_list p.isList (pi_one (tk := s.toks) I _ (turn_list a _) ⟨_, Heap.get?_push_size _ rfl, rfl, rfl⟩ (q _ okX))
  unfold itemsD at h
  split at h
  · cases h
    cases rd
    rename_i z
    obtain ⟨t, rfl⟩ := rx
    cases ha : z.cps.all (· < 128)
    · exact wpAny_pyIter_wide ha (pi_one (tk := s.toks) I _ (turn_str _ z t "str_iterator" (.inr rfl)) ⟨_, Heap.get?_push_size _ rfl, rfl, rfl⟩ (q _ wok_str))
    · exact wpAny_pyIter_ascii ha (pi_one (tk := s.toks) I _ (turn_str _ z t "str_ascii_iterator" (.inl rfl)) ⟨_, Heap.get?_push_size _ rfl, rfl, rfl⟩ (q _ wok_str))
  · cases e : seqD S d with
    | none => rw [e] at h; cases h
    | some ds =>
      rw [e] at h
      cases h
      rcases tup_list_form e with ⟨_, rfl⟩ | ⟨_, f⟩
      · obtain ⟨a, rfl, ⟨vs, h3⟩, ok⟩ := wok_tup (P := P) rd
        cases rx
        obtain ⟨its, rv, p, hz⟩ := I.tuple (xs := vs) h3.sq
        have okX : WOk P M H ⟨ds, heldD (.tuple ds) ds, false⟩ (Itt X.K a) := by rw [hK]; exact ok
        exact wpAny_pyIter_tuple (show s.heap.IsTuple a its.toArray from p) (pi_one (tk := s.toks) I _ (turn_tuple a _) ⟨_, Heap.get?_push_size _ rfl, rfl, rfl⟩ (q _ okX))
      · exact lst ds f rfl
theorem pi_seqM (F : Fit P Γ X) {e : Expr} {m : E} (he : PE X e (tE P G Z m)) : PI X tg e (tI P G Z (.seq m)) := by
  refine ⟨fun pins s σ H R I h => ?_⟩
  obtain ⟨M, S, ρ, em, rn, h⟩ := h
  simp only [evi] at h
  refine thn (he.run pins s σ H _ I ⟨M, S, ρ, em, rn, Res.bind h⟩) fun v s1 ⟨x, H1, I1, r1, M1, S1, d, e1, em1, rd, hk⟩ => ?_
  split at hk
  · rename_i w hw
    exact it_seq F.K I1 em1 rd r1 hw fun J ok => hk M1 H1 J Ext.refl em1 ok
  · exact hk.elim
theorem PI.imp {e : Expr} {t t' : TI} (h : PI X tg e t) (i : ∀ σ H R, t' σ H R → t σ H R) : PI X tg e t' := ⟨fun pins s σ H R I q => h.run pins s σ H R I (i σ H R q)⟩
theorem pi_rangeM (F : Fit P Γ X) {e : Expr} {m : E} {p pos : Pos} (hg : Gl X "range") (hm : X.mg "range" = none) (he : PA X [e] (tEs P G Z [m])) (hs : starEach [e] X.env = [(false, eval e X.env)]) : PI X tg (.Call (.Name "range" p) [e] [] pos) (tI P G Z (.range m)) := by
  refine PI.imp (pi_range1 hg hm he hs) fun σ H R ⟨M, S, ρ, em, rn, h⟩ => ?_
  simp only [evi] at h
  refine ⟨M, S, ρ, em, rn, ?_⟩
  simp only [evs]
  generalize ev G P.gi m ρ S = o at h
  cases o with
  | bad => exact h.elim
  | exc x S1 => exact h
  | ok d S1 =>
    intro M1 H1 vs e1 em1 rv
    simp only [Out.bind_ok] at h
    obtain ⟨v, rfl, r⟩ := rv.o1
    split at h
    · rename_i i
      split at h
      · rename_i c
        cases r
        have e4 : bigD / 4 = 2 ^ 62 := by decide
        have e5 : -bigD / 4 = -2 ^ 62 := by decide
        rw [e4, e5] at c
        exact ⟨i, rfl, c.1, c.2, h M1 H1 _ e1 em1 wok_range⟩
      · exact h.elim
    · exact h.elim
theorem pi_range3M (F : Fit P Γ X) {a b c : Expr} {ma mb mc : E} {p pos : Pos} (hg : Gl X "range") (hm : X.mg "range" = none) (he : PA X [a, b, c] (tEs P G Z [ma, mb, mc]))
    (hs : starEach [a, b, c] X.env = (false, eval a X.env) :: starEach [b, c] X.env) (hpl : (backTo pos (starEach [b, c] X.env)).any (·.1) = false) :
    PI X tg (.Call (.Name "range" p) [a, b, c] [] pos) (tI P G Z (.range3 ma mb mc)) := by
  refine PI.imp (pi_range3 hg hm he hs hpl) fun σ H R ⟨M, S, ρ, em, rn, h⟩ => ?_
  simp only [evi] at h
  refine ⟨M, S, ρ, em, rn, ?_⟩
  simp only [evs]
  generalize ev G P.gi ma ρ S = o at h
  cases o with
  | bad => exact h.elim
  | exc x S1 => exact h
  | ok d S1 =>
    simp only [Out.bind_ok] at h ⊢
    generalize ev G P.gi mb ρ S1 = o2 at h
    cases o2 with
    | bad => exact h.elim
    | exc x S1 => exact h
    | ok d2 S2 =>
      simp only [Out.bind_ok] at h ⊢
      generalize ev G P.gi mc ρ S2 = o3 at h
      cases o3 with
      | bad => exact h.elim
      | exc x S1 => exact h
      | ok d3 S3 =>
        intro M1 H1 vs e1 em1 rv
        simp only [Out.bind_ok] at h
        obtain ⟨v, u, t, rfl, r1, r2, r3⟩ : ∃ v u t, vs = [v, u, t] ∧ Rv M1 H1 d v ∧ Rv M1 H1 d2 u ∧ Rv M1 H1 d3 t := by
          cases rv with
          | cons r t => cases t with
            | cons r2 t => cases t with
              | cons r3 t => cases t; exact ⟨_, _, _, rfl, r, r2, r3⟩
        split at h
        · rename_i i j k
          split at h
          · rename_i c
            cases r1
            cases r2
            cases r3
            exact ⟨i, j, k, (Builtin.Range.rangeSize i j k).toNat, rfl, ⟨c.1, c.2.1, c.2.2.1, (Int.toNat_of_nonneg c.2.2.2).symm⟩, h M1 H1 _ e1 em1 wok_range3⟩
          · exact h.elim
        · exact h.elim
theorem pi_enumM (F : Fit P Γ X) {e : Expr} {m : E} {p pos tpos : Pos} {elts : List Expr} {kk : Nat} (hg : Gl X "enumerate") (hm : X.mg "enumerate" = none) (he : PA X [e] (tEs P G Z [m])) (hs : starEach [e] X.env = [(false, eval e X.env)]) :
    PI X (.Tuple elts kk tpos) (.Call (.Name "enumerate" p) [e] [] pos) (tI P G Z (.enum m)) := by
  refine ⟨fun pins s σ H R I ⟨M, S, ρ, em, rn, h⟩ => ?_⟩
  have hq : tEs P G Z [m] σ H fun vs H1 => ∃ M1 S1 d v, P.Emb M1 H1 S1 ∧ vs = [v] ∧ Rv M1 H1 d v ∧ ∃ ds, seqD S1 d = some ds ∧ ∀ J, WOk P M1 H1 ⟨enumL 0 ds, heldD d ds, true⟩ J → R J H1 := by
    refine ⟨M, S, ρ, em, rn, ?_⟩
    simp only [evi] at h
    simp only [evs]
    generalize ev G P.gi m ρ S = o at h
    cases o with
    | bad => exact h.elim
    | exc x S1 => exact h
    | ok d S1 =>
      intro M1 H1 vs e1 em1 rv
      simp only [Out.bind_ok] at h
      obtain ⟨v, rfl, r⟩ := rv.o1
      split at h
      · rename_i ds hd
        exact ⟨M1, S1, d, v, em1, rfl, r, ds, hd, fun J ok => h M1 H1 J e1 em1 ok⟩
      · exact h.elim
  refine Call_ (ld_blt I hg hm boot_enumerate (PyProof.Rows.callWith_type1 (thn (he.run pos pins s σ H _ I hq) fun us s1 ⟨vs, H1, I1, r1, M1, S1, d, v, em1, hv, rd, ds, hd, q⟩ => ?_) hs rfl))
  subst hv
  obtain ⟨u, rfl, ru⟩ := vals1 r1
  have fp : ∀ b, b ∈ [s1.heap.objs.size + 1, s1.heap.objs.size] → FpOk X pins H1 b := fun b hb => by
    have e' : b = s1.heap.objs.size + 1 ∨ b = s1.heap.objs.size := by simpa using hb
    have hle : s1.heap.objs.size ≤ b := by
      rcases e' with z | z
      · rw [z]; exact Nat.le_add_right _ _
      · rw [z]; exact Nat.le_refl _
    exact I1.fpOk hle (I1.hok.fresh hle)
  rcases tup_list_form hd with ⟨_, rfl⟩ | ⟨_, f⟩
  · obtain ⟨a, rfl, ⟨ws, h3⟩, ok⟩ := wok_enumT (P := P) rd
    cases ru
    obtain ⟨its, rv, p', hz⟩ := I1.tuple (xs := ws) h3.sq
    have okX : WOk P M1 H1 ⟨enumL 0 ds, heldD (.tuple ds) ds, true⟩ (IteT X.K a) := by rw [F.K]; exact ok
    have hT : s1.heap.IsTuple a its.toArray := p'
    have hlt : a < s1.heap.objs.size := by obtain ⟨_, q, _⟩ := p'; exact Heap.lt_size q
    refine call_enum1 (begins_tuple a its.toArray) hT fun h' he hit hk => wpAny_pyIter_enum he ?_
    have I2 : L2.Inv X pins σ H1 { s1 with heap := h' } := I1.kept (t' := s1.toks) hk
    exact ⟨s1.heap.objs.size + 1, [s1.heap.objs.size + 1, s1.heap.objs.size], _, _, H1, rfl, I2, turn_enumT a (s1.heap.objs.size + 1) s1.heap.objs.size (Nat.ne_of_lt hlt), ⟨⟨.none, he⟩, ⟨_, hit, rfl, rfl⟩, Nat.succ_ne_self _, Nat.ne_of_gt (Nat.lt_succ_of_lt hlt)⟩, fp, q _ okX⟩
  · obtain ⟨a, rfl, ⟨ws, h3⟩, ok⟩ := wok_enumL f em1 rd
    cases ru
    obtain ⟨its, rv, p', hz⟩ := I1.list (SqL.of h3)
    have okX : WOk P M1 H1 ⟨enumL 0 ds, heldD d ds, true⟩ (Ite X.K a) := by rw [F.K]; exact ok
    refine call_enumerate_list p'.isList fun h' he hit hsz hk => wpAny_pyIter_enum he ?_
    have I2 : L2.Inv X pins σ H1 { s1 with heap := h' } := I1.kept (t' := s1.toks) hk
    exact ⟨s1.heap.objs.size + 1, [s1.heap.objs.size + 1, s1.heap.objs.size], _, _, H1, rfl, I2, turn_enum a (s1.heap.objs.size + 1) s1.heap.objs.size, ⟨⟨.none, he⟩, hit, Nat.succ_ne_self _⟩, fp, q _ okX⟩
theorem pi_zipM (F : Fit P Γ X) {a b : Expr} {ma mb : E} {p pos tpos : Pos} {elts : List Expr} {kk : Nat} (hg : Gl X "zip") (hm : X.mg "zip" = none) (he : PA X [a, b] (tEs P G Z [ma, mb]))
    (hs : starEach [a, b] X.env = (false, eval a X.env) :: starEach [b] X.env) (hpl : (backTo pos (starEach [b] X.env)).any (·.1) = false) :
    PI X (.Tuple elts kk tpos) (.Call (.Name "zip" p) [a, b] [] pos) (tI P G Z (.zip ma mb)) := by
  refine PI.imp (pi_zipB hg hm he hs hpl) fun σ H R ⟨M, S, ρ, em, rn, h⟩ => ?_
  simp only [evi] at h
  refine ⟨M, S, ρ, em, rn, ?_⟩
  simp only [evs]
  generalize ev G P.gi ma ρ S = o at h
  cases o with
  | bad => exact h.elim
  | exc x S1 => exact h
  | ok d S1 =>
    simp only [Out.bind_ok] at h ⊢
    generalize ev G P.gi mb ρ S1 = o2 at h
    cases o2 with
    | bad => exact h.elim
    | exc x S1 => exact h
    | ok d2 S2 =>
      intro M1 H1 vs e1 em1 rv
      simp only [Out.bind_ok] at h
      obtain ⟨v, u, rfl, r1, r2⟩ : ∃ v u, vs = [v, u] ∧ Rv M1 H1 d v ∧ Rv M1 H1 d2 u := by
        cases rv with
        | cons r t => cases t with
          | cons r2 t => cases t; exact ⟨_, _, rfl, r, r2⟩
      split at h
      · rename_i xs ys h1 h2
        split at h
        · rename_i hk
          rcases tup_list_form h1 with ⟨f1, rfl⟩ | ⟨f1, f2⟩
          · rcases tup_list_form h2 with ⟨g1, rfl⟩ | ⟨g1, g2⟩
            · obtain ⟨a, b, rfl, rfl, ⟨va, t1⟩, ⟨vb, t2⟩, ok⟩ := wok_zipT (P := P) em1 r1 r2
              refine ⟨a, b, va, vb, rfl, .inr (.inl ⟨t1.sq, t2.sq, h M1 H1 _ e1 em1 ?_⟩)⟩
              rw [F.K]; exact ok
            · obtain ⟨a, b, rfl, rfl, ⟨va, t1⟩, ⟨vb, t2⟩, ok⟩ := wok_zipM (P := P) g2 em1 r1 r2
              refine ⟨a, b, va, vb, rfl, .inr (.inr ⟨t1.sq, SqL.of t2, h M1 H1 _ e1 em1 ?_⟩)⟩
              rw [F.K]; exact ok
          · rcases tup_list_form h2 with ⟨g1, rfl⟩ | ⟨g1, g2⟩
            · rw [f1, g1] at hk; rcases hk with q | q <;> cases q
            · obtain ⟨a, b, rfl, rfl, ⟨va, t1⟩, ⟨vb, t2⟩, ok⟩ := wok_zipL f2 g2 em1 r1 r2
              refine ⟨a, b, va, vb, rfl, .inl ⟨SqL.of t1, SqL.of t2, h M1 H1 _ e1 em1 ?_⟩⟩
              rw [F.K]; exact ok
        · exact h.elim
      · exact h.elim
end
end PL
end

section
set_option Elab.async false
set_option linter.all false
set_option maxRecDepth 100000
set_option maxHeartbeats 1000000
/-! PLJ: isinstance; calls of defs, where no repr is under way. -/
namespace PL
open PySem PySem.Spec PyProof.Rows L2
def tyName : Ty → String
  | .int => "int"
  | .bool => "bool"
  | .str => "str"
  | .tuple => "tuple"
  | .list => "list"
  | .cls _ => ""
  | .exc _ => ""
section
variable {P : Pg} {Γ : Ga} {X : Cx} {Z : ZX}
theorem kit_all {K : PySem.W.Frag} (t : Ty) (ht : tyName t ≠ "") :
    PySem.W.kitOne K (.type "NoneType") (.type (tyName t)) = some false ∧ PySem.W.kitOne K (.type "bool") (.type (tyName t)) = some (decide (t = .bool ∨ t = .int)) ∧
    PySem.W.kitOne K (.type "int") (.type (tyName t)) = some (decide (t = .int)) ∧ PySem.W.kitOne K (.type "str") (.type (tyName t)) = some (decide (t = .str)) ∧
    PySem.W.kitOne K (.type "tuple") (.type (tyName t)) = some (decide (t = .tuple)) ∧ PySem.W.kitOne K (.type "list") (.type (tyName t)) = some (decide (t = .list)) ∧
    PySem.W.kitOne K (.type "dict") (.type (tyName t)) = some false := by
  cases t with
  | cls c => exact absurd rfl ht
  | exc c => exact absurd rfl ht
  | _ => exact ⟨kit_ty (by decide +kernel), kit_ty (by decide +kernel), kit_ty (by decide +kernel), kit_ty (by decide +kernel), kit_ty (by decide +kernel), kit_ty (by decide +kernel), kit_ty (by decide +kernel)⟩
/-- isinstance by values -/
theorem isi_val {M : Ma} {H : Hp} {S : Sto} {d : D} {v : V} {t : Ty} {b : Bool} {K : PySem.W.Frag} (em : P.Emb M H S) (r : Rv M H d v) (ht : tyName t ≠ "") (h : isiD S d t = some b) :
    ∃ T, TyX K H v T ∧ PySem.W.kitOne K T (.type (tyName t)) = some b := by
  obtain ⟨k1, k2, k3, k4, k5, k6, k7⟩ := kit_all (K := K) t ht
  have h' : isi0 S d t = some b := by
    cases t with
    | cls c => exact absurd rfl ht
    | exc c => exact absurd rfl ht
    | _ => exact h
  cases d with
  | none => cases h'; cases r; exact ⟨_, .base .non, k1⟩
  | bool x => cases h'; cases r; exact ⟨_, .base (.bl x), k2⟩
  | int x => cases h'; cases r; exact ⟨_, .base (.int x), k3⟩
  | str x => cases h'; cases r; exact ⟨_, .base (.str x), k4⟩
  | tuple xs =>
    cases h'
    obtain ⟨a, vs, rfl, ⟨o, h1, h2⟩, _⟩ := r.tupI
    exact ⟨_, .fTuple h1, k5⟩
  | list xs =>
    cases h'
    obtain ⟨a, vs, rfl, h1, _⟩ := em.lst (xs := xs) rfl r
    exact ⟨_, .base (.lst h1), k6⟩
  | dict kvs =>
    unfold isi0 at h'
    simp only at h'
    split at h'
    · cases e : lstD S (.dict kvs) with
      | none => rw [e] at h'; cases h'
      | some xs =>
        rw [e] at h'
        cases h'
        obtain ⟨a, vs, rfl, h1, _⟩ := em.lst e r
        exact ⟨_, .base (.lst h1), k6⟩
    · rename_i c
      cases h'
      cases r with
      | scr _ _ => exact absurd rfl c
      | ref _ => exact absurd rfl c
      | exn _ => exact absurd rfl c
      | exnA _ _ _ => exact absurd rfl c
      | exnH _ _ _ => exact absurd rfl c
      | exaH _ _ _ _ _ => exact absurd rfl c
      | dct q h1 _ => exact ⟨_, .base (.dK h1), k7⟩
end
/-! ### argument lists without stars -/
def isStar : Expr → Bool
  | .Starred _ _ => true
  | _ => false
theorem starEach_cons {e : Expr} {es : List Expr} {env : PySem.Env} (h : isStar e = false) : starEach (e :: es) env = (false, eval e env) :: starEach es env := by
  cases e <;> first | rfl | cases h
theorem star_none {env : PySem.Env} {pos : Pos} : ∀ {es : List Expr}, es.all (fun e => !isStar e) = true → (backTo pos (starEach es env)).any (·.1) = false
  | [], _ => rfl
  | e :: es, h => by
    rw [List.all_cons, Bool.and_eq_true] at h
    have h1 : isStar e = false := by simpa using h.1
    rw [starEach_cons h1]
    have ih := star_none (env := env) (pos := pos) h.2
    unfold backTo at ih ⊢
    rw [List.map_cons, List.any_cons, ih]
    rfl
theorem star_all {env : PySem.Env} {pos : Pos} : ∀ {es : List Expr}, es.all (fun e => !isStar e) = true → (backTo pos (starEach es env)).all (fun x => !x.1) = true
  | [], _ => rfl
  | e :: es, h => by
    rw [List.all_cons, Bool.and_eq_true] at h
    have h1 : isStar e = false := by simpa using h.1
    rw [starEach_cons h1]
    have ih := star_all (env := env) (pos := pos) h.2
    unfold backTo at ih ⊢
    rw [List.map_cons, List.all_cons, ih]
    rfl
/-! ### what a def promises, no repr under way -/
structure FnG (P : Program) (w : World) (K : PySem.W.Frag) (mg : Str → Option Value) (base : Heap) (k : Nat) (f : Addr) (fd : FuncData) (ps : List Str) (sp : Sp) : Prop where
  len : ∀ vs H Q E, sp vs H Q E → vs.length = ps.length
  run : ∀ (A : Around) (outer : List PySem.Env) (s : Shared) (H : Hp) (args : Args) (us : List Value) (vs : List V) (Q : VK) (E : XK), Room k A → A.guards = some [] → Env0 P w K mg base A outer s H → BindsTo s fd args (ps.zip us) → Vals vs us → sp vs H Q E →
    codeAny (model P w) A (.call (.ref f) args) (CR (L2N.CX P w) outer P w H s Q E) s
/-- what is wanted of an exception, told to the layer -/
def EZ (P : Pg) (Z : ZX) : XK := fun c d H => ∃ x S M, P.Emb M H S ∧ P.XA x c d M H ∧ Z x S M H
def zOf (P : Pg) (E : XK) : ZX := fun x _ M H => ∀ c d, P.XA x c d M H → E c d H
/-- a def's promise by the evaluator -/
def spG (P : Pg) (g : List D → Sto → Out D) : Sp := fun vs H Q E => ∃ M S ds, P.Emb M H S ∧ Rvs M H ds vs ∧ Res P Rv M H (g ds S) Q (zOf P E)
theorem Res.zimp {P : Pg} {α β : Type} {R : Ma → Hp → α → β → Prop} {M : Ma} {H : Hp} {r : Out α} {Q : β → Hp → Prop} {Z Z' : ZX} (h : Res P R M H r Q Z) (z : ∀ x S M' H', P.Emb M' H' S → Z x S M' H' → Z' x S M' H') : Res P R M H r Q Z' := by
  cases r with
  | ok d S' => exact h
  | exc x S' => exact fun M' H' e em => z _ _ _ _ em (h M' H' e em)
  | bad => exact h
section
variable {X : Cx} {k : Nat} {f : Addr} {fd : FuncData} {ps : List Str} {sp : Sp} {E : XK} {x : Str} {p pos : Pos} {e : Expr} {es : List Expr} {t : TA}
theorem run_fnG {pins : List (Addr × Obj)} {σ : L2.St} {H : Hp} {s : Shared} {Q : VK} {us : List Value} {vs : List V} (F : FnG X.prog X.w X.K X.mg X.base k f fd ps sp) (hr : Room k X.A) (hg : X.A.guards = some []) (hb : Binds X.K fd ps []) (hx : Passes (L2N.CX X.prog X.w) X E)
    (I : L2.Inv X pins σ H s) (r : Vals vs us) (h : sp vs H Q E) : wpAny (model X.prog X.w) X.A (call (.ref f) us) (EP X pins σ Q) X.xe s := by
  have hl : us.length = ps.length := by rw [← r.length]; exact F.len _ _ _ _ h
  have hb' := hb s us I.kIn (by rw [List.append_nil]; exact hl)
  rw [List.append_nil] at hb'
  refine wpAny_call (codeAny_mono (F.run X.A X.stack s H ⟨us, []⟩ us vs Q E hr hg I.env0 hb' r h) fun r s' hq => ?_)
  cases r with
  | error e => exact hx pins σ H s e s' I hq
  | ok fl =>
    cases fl with
    | ret u => exact I.after hq
    | next => exact False.elim hq
    | brk => exact False.elim hq
    | cont => exact False.elim hq
theorem pe_callG (F : FnG X.prog X.w X.K X.mg X.base k f fd ps sp) (hr : Room k X.A) (hgd : X.A.guards = some []) (hg : Gl X x) (hm : X.mg x = some (.ref f)) (hk : PySem.W.keepIn X.K (.ref f) = true) (hb : Binds X.K fd ps []) (hx : Passes (L2N.CX X.prog X.w) X E)
    (ha : PA X es t) (hnil : es = [] → ∀ σ H (Q : List V → Hp → Prop), t σ H Q → Q [] H) (hs : es.all (fun e => !isStar e) = true) (hdb : (x == ("__debug__" : Str)) = false) : PE X (.Call (.Name x p) es [] pos) (fun σ H Q => t σ H fun vs H1 => sp vs H1 Q E) := by
  refine ⟨fun pins s σ H Q I h => ?_⟩
  refine wpAny_Call_Name_kw (ld_glob I hg hm ?_ hdb)
  cases es with
  | nil =>
    refine PySem.W.callWith_K0 I.kIn hk ?_
    exact run_fnG F hr hgd hb hx I .nil (hnil rfl σ H _ h)
  | cons e es =>
    rw [List.all_cons, Bool.and_eq_true] at hs
    refine PySem.W.callWith_K (h₀ := X.base) I.ok.mod.kin hk (thn (ha.run pos pins s σ H _ I h) fun us s1 ⟨vs, H1, I1, r, q⟩ => ⟨I1.kIn, ?_⟩) (starEach_cons (by simpa using hs.1)) (star_none hs.2)
    exact run_fnG F hr hgd hb hx I1 r q
end
end PL
end

section
set_option Elab.async false
set_option linter.all false
set_option maxRecDepth 100000
set_option maxHeartbeats 4000000
/-! PLJ2: sorted(set(ints)), tuple(range(n)), reversed slices, `is` of truth values. -/
namespace PL
open PySem PySem.Spec PyProof.Rows L2
def setO (w : World) : Obj := { cls := .type "set", dict := none, data := .set #[] 0 (.fresh 0 0 (!w.params.followText "set-order")) }
section
variable {P : Program} {w : World} {A : Around} {E : Value → Shared → Prop} {s : Shared}
set_option maxRecDepth 100000 in
theorem set_of_ints {l : Addr} {items : Array Value} (ns : List Int) {Q : Value → Shared → Prop} (hh : A.handled = none) (hl : s.heap.IsList l items) (hit : IntsAre items.toList ns) (hb : ns.length + 1 < scanBound)
    (h : ∀ (h' : Heap) (tk c : Nat), SetR w h' s.heap.objs.size (fun j => decide (j ∈ ns)) c → c ≤ ns.length → (∀ b o, s.heap.get? b = some o → h'.get? b = some o) → Q (.ref s.heap.objs.size) { s with heap := h', toks := tk }) :
    wpAny (model P w) A (call (.type "set") [.ref l]) Q E s := by
  have hisz : items.size = ns.length := by
    have q := IntsAre.length hit
    rw [Array.length_toList] at q
    exact q
  obtain ⟨c, tl, hmro⟩ := F.called_set.mro
  have hmade := F.called_set.made
  have hsub := F.called_set.sub
  refine wpAny_call (codeAny_of_tree ?_)
  show wpAny _ _ (callAny (.type "set") _) _ _ _
  refine wpAny_pure ⟨Code.quiet_builtin _ (by decide +kernel), codeAny_builtin F.entry_type_call ?_⟩
  rw [Around.under_plain (weight_type_call_type "set" [.ref l] []) rfl]
  have h1 := F.called_set.notType
  have h2 := F.called_set.canCreate
  have hct := F.typeCall_set_1 (.ref l)
  repeat (any_goals (first | assumption | wp_step))

  refine codeAny_mono (code_set_led1 (.ref l) (E := E) (Q₁ := fun obj s₁ => obj = .ref s.heap.objs.size ∧ s₁ = { s with heap := s.heap.push (setO w) }) ⟨rfl, rfl⟩) fun r s₁ hr => ?_
  cases r with
  | error e => exact hr
  | ok fl =>
    cases fl with
    | ret obj =>
      obtain ⟨rfl, rfl⟩ := hr
      have hS : (s.heap.push (setO w)).get? s.heap.objs.size = some (setO w) := Heap.get?_push_size _ rfl
      have hT : Shared.TypeIs { s with heap := s.heap.push (setO w) } (.ref s.heap.objs.size) "set" := ⟨_, hS, rfl⟩
      have hli := F.called_set.init.lookup
      have hbi := F.called_set.init.bind (.ref s.heap.objs.size)
      repeat (any_goals (first | assumption | wp_step))

      refine codeAny_mono (codeAny_call_builtin (R := wants (fun r s₂ => r = .none ∧ ∃ h' tk c, s₂ = { s with heap := h', toks := tk } ∧ SetR w h' s.heap.objs.size (fun j => decide (j ∈ ns)) c ∧ c ≤ ns.length ∧
          (∀ b o, s.heap.get? b = some o → h'.get? b = some o)) E) F.called_set.init.plain F.entry_set_init (check_set_init_1 hT ?_)) fun r₂ s₂ hr₂ => ?_
      · obtain ⟨ol, hol, hcl, nl, hdl⟩ := hl
        obtain ⟨ocls, odict, odata, oslots⟩ := ol
        simp only at hcl hdl
        subst hcl; subst hdl
        have hol' : (s.heap.push (setO w)).get? l = some { cls := .type "list", dict := odict, data := .seq items nl, slots := oslots } := Heap.get?_push_of_some _ hol
        have hsls := F.sub_list_set
        have hslf := F.sub_list_frozenset
        have hne : (Value.type "list" == Value.type "dict") = false := by decide
        have hl1 : (s.heap.push (setO w)).IsList l items := ⟨_, hol', rfl, nl, rfl⟩
        unfold Builtin.«set.__init__» noKeywords Builtin.Frozenset.updateFrom
        generalize hPI : pyIter = PI
        wp_walk
        subst hPI

        refine wpAny_pyIter_list hl1 ?_
        refine wpAny_bind (wpAny_runValue ?_)
        have hlS : l < s.heap.objs.size := Heap.lt_size hol
        have hh3 : A.in1.in1.in1.handled = none := by simp [hh]
        have hz1 : (s.heap.push (setO w)).objs.size = s.heap.objs.size + 1 := Heap.size_push ..
        have hneI : l ≠ (s.heap.push (setO w)).objs.size := by
          rw [Heap.size_push]; exact Nat.ne_of_lt (Nat.lt_succ_of_lt hlS)
        have hSf : s.heap.objs.size ∉ [(s.heap.push (setO w)).objs.size, l] := by
          rw [Heap.size_push]; simp only [List.mem_cons, List.mem_singleton, List.not_mem_nil, or_false, not_or]
          exact ⟨Nat.ne_of_lt (Nat.lt_succ_self _), Nat.ne_of_gt hlS⟩
        have hval : ∀ (i : Nat) (v : Value), items[i]? = some v → ∃ k t, ns[i]? = some k ∧ v = .int k t := fun i v hv => by
          have hi : i < ns.length := by rw [← hisz]; exact (Array.getElem?_eq_some_iff.mp hv).1
          obtain ⟨t, e⟩ := PyProof.Rows.IntsAre.int_at hit i v (by rw [Array.getElem?_toList]; exact hv)
          refine ⟨ns[i], t, List.getElem?_eq_getElem hi, ?_⟩
          rw [e, List.getD_eq_getElem?_getD, List.getElem?_eq_getElem hi] <;> rfl
        refine set_update_ints ((Walks.list hh3 _ l hneI items).toS) s.heap.objs.size
          hSf ns hisz hb hval (items.size - 0) 0 _ (by omega) (Nat.zero_le _)
          ⟨⟨_, Heap.get?_push_size _ rfl, rfl, rfl⟩, (hl1.push _)⟩ ?hS0 ?hR
        case hS0 =>
          have hget : ((s.heap.push (setO w)).push { cls := .type "list_iterator", data := .fields #[.ref l, .int 0 0] }).get? s.heap.objs.size = some (setO w) := Heap.get?_push_of_some _ hS
          exact ⟨0, Nat.le_refl 0, setR_new_at hget⟩
        case hR =>
          intro s' c' hm hc' hS'
          obtain ⟨h', g2, d', tk', os'⟩ := s'
          have eg : g2 = s.gens := hm.gens
          have ed : d' = s.drawn := hm.drawn
          have eo : os' = s.os := hm.os
          subst eg; subst ed; subst eo
          show wpAny _ _ _ _ _ _
          refine wpAny_pure ?_
          show wpAny _ _ (ret Value.none) _ _ _
          rw [hisz] at hc'
          refine wpAny_pure ⟨rfl, h', tk', c', rfl, hS', hc', fun b o e => ?_⟩
          have hb0 : b < s.heap.objs.size := Heap.lt_size e
          have hb1 : b ≠ s.heap.objs.size := Nat.ne_of_lt hb0
          have hb2 : b ≠ (s.heap.push (setO w)).objs.size := by
            rw [Heap.size_push]; exact Nat.ne_of_lt (Nat.lt_succ_of_lt hb0)
          exact hm.heap b o (by simp only [List.mem_cons, List.mem_singleton, List.not_mem_nil, or_false, not_or]; exact ⟨hb1, hb2⟩) (Heap.get?_push_of_some _ (Heap.get?_push_of_some _ e))

      · cases r₂ with
        | error e => exact hr₂
        | ok fl₂ =>
          cases fl₂ with
          | ret r =>
            obtain ⟨rfl, h', tk, c, rfl, hS', hc', hk'⟩ := hr₂
            repeat (any_goals (first | assumption | wp_step))
            exact h _ _ _ hS' hc' hk'
          | _ => exact hr₂.elim
    | _ => exact hr.elim
set_option maxRecDepth 100000 in
theorem set_of_intsT {l : Addr} {items : Array Value} (ns : List Int) {Q : Value → Shared → Prop} (hh : A.handled = none) (hl : s.heap.IsTuple l items) (hit : IntsAre items.toList ns) (hb : ns.length + 1 < scanBound)
    (h : ∀ (h' : Heap) (tk c : Nat), SetR w h' s.heap.objs.size (fun j => decide (j ∈ ns)) c → c ≤ ns.length → (∀ b o, s.heap.get? b = some o → h'.get? b = some o) → Q (.ref s.heap.objs.size) { s with heap := h', toks := tk }) :
    wpAny (model P w) A (call (.type "set") [.ref l]) Q E s := by
  have hisz : items.size = ns.length := by
    have q := IntsAre.length hit
    rw [Array.length_toList] at q
    exact q
  obtain ⟨c, tl, hmro⟩ := F.called_set.mro
  have hmade := F.called_set.made
  have hsub := F.called_set.sub
  refine wpAny_call (codeAny_of_tree ?_)
  show wpAny _ _ (callAny (.type "set") _) _ _ _
  refine wpAny_pure ⟨Code.quiet_builtin _ (by decide +kernel), codeAny_builtin F.entry_type_call ?_⟩
  rw [Around.under_plain (weight_type_call_type "set" [.ref l] []) rfl]
  have h1 := F.called_set.notType
  have h2 := F.called_set.canCreate
  have hct := F.typeCall_set_1 (.ref l)
  repeat (any_goals (first | assumption | wp_step))

  refine codeAny_mono (code_set_led1 (.ref l) (E := E) (Q₁ := fun obj s₁ => obj = .ref s.heap.objs.size ∧ s₁ = { s with heap := s.heap.push (setO w) }) ⟨rfl, rfl⟩) fun r s₁ hr => ?_
  cases r with
  | error e => exact hr
  | ok fl =>
    cases fl with
    | ret obj =>
      obtain ⟨rfl, rfl⟩ := hr
      have hS : (s.heap.push (setO w)).get? s.heap.objs.size = some (setO w) := Heap.get?_push_size _ rfl
      have hT : Shared.TypeIs { s with heap := s.heap.push (setO w) } (.ref s.heap.objs.size) "set" := ⟨_, hS, rfl⟩
      have hli := F.called_set.init.lookup
      have hbi := F.called_set.init.bind (.ref s.heap.objs.size)
      repeat (any_goals (first | assumption | wp_step))

      refine codeAny_mono (codeAny_call_builtin (R := wants (fun r s₂ => r = .none ∧ ∃ h' tk c, s₂ = { s with heap := h', toks := tk } ∧ SetR w h' s.heap.objs.size (fun j => decide (j ∈ ns)) c ∧ c ≤ ns.length ∧
          (∀ b o, s.heap.get? b = some o → h'.get? b = some o)) E) F.called_set.init.plain F.entry_set_init (check_set_init_1 hT ?_)) fun r₂ s₂ hr₂ => ?_
      · obtain ⟨ol, hol, hcl, nl, hdl⟩ := hl
        obtain ⟨ocls, odict, odata, oslots⟩ := ol
        simp only at hcl hdl
        subst hcl; subst hdl
        have hol' : (s.heap.push (setO w)).get? l = some { cls := .type "tuple", dict := odict, data := .seq items nl, slots := oslots } := Heap.get?_push_of_some _ hol
        have hsls := F.sub_tuple_set
        have hslf := F.sub_tuple_frozenset
        have hne : (Value.type "tuple" == Value.type "dict") = false := by decide
        have hl1 : (s.heap.push (setO w)).IsTuple l items := ⟨_, hol', rfl, nl, rfl⟩
        unfold Builtin.«set.__init__» noKeywords Builtin.Frozenset.updateFrom
        generalize hPI : pyIter = PI
        wp_walk
        subst hPI

        refine wpAny_pyIter_tuple hl1 ?_
        refine wpAny_bind (wpAny_runValue ?_)
        have hlS : l < s.heap.objs.size := Heap.lt_size hol
        have hh3 : A.in1.in1.in1.handled = none := by simp [hh]
        have hz1 : (s.heap.push (setO w)).objs.size = s.heap.objs.size + 1 := Heap.size_push ..
        have hneI : l ≠ (s.heap.push (setO w)).objs.size := by
          rw [Heap.size_push]; exact Nat.ne_of_lt (Nat.lt_succ_of_lt hlS)
        have hSf : s.heap.objs.size ∉ [(s.heap.push (setO w)).objs.size, l] := by
          rw [Heap.size_push]; simp only [List.mem_cons, List.mem_singleton, List.not_mem_nil, or_false, not_or]
          exact ⟨Nat.ne_of_lt (Nat.lt_succ_self _), Nat.ne_of_gt hlS⟩
        have hval : ∀ (i : Nat) (v : Value), items[i]? = some v → ∃ k t, ns[i]? = some k ∧ v = .int k t := fun i v hv => by
          have hi : i < ns.length := by rw [← hisz]; exact (Array.getElem?_eq_some_iff.mp hv).1
          obtain ⟨t, e⟩ := PyProof.Rows.IntsAre.int_at hit i v (by rw [Array.getElem?_toList]; exact hv)
          refine ⟨ns[i], t, List.getElem?_eq_getElem hi, ?_⟩
          rw [e, List.getD_eq_getElem?_getD, List.getElem?_eq_getElem hi] <;> rfl
        refine set_update_ints ((Walks.tuple hh3 _ l hneI items).toS) s.heap.objs.size
          hSf ns hisz hb hval (items.size - 0) 0 _ (by omega) (Nat.zero_le _)
          ⟨⟨_, Heap.get?_push_size _ rfl, rfl, rfl⟩, (hl1.push _)⟩ ?hS0 ?hR
        case hS0 =>
          have hget : ((s.heap.push (setO w)).push { cls := .type "tuple_iterator", data := .fields #[.ref l, .int 0 0] }).get? s.heap.objs.size = some (setO w) := Heap.get?_push_of_some _ hS
          exact ⟨0, Nat.le_refl 0, setR_new_at hget⟩
        case hR =>
          intro s' c' hm hc' hS'
          obtain ⟨h', g2, d', tk', os'⟩ := s'
          have eg : g2 = s.gens := hm.gens
          have ed : d' = s.drawn := hm.drawn
          have eo : os' = s.os := hm.os
          subst eg; subst ed; subst eo
          show wpAny _ _ _ _ _ _
          refine wpAny_pure ?_
          show wpAny _ _ (ret Value.none) _ _ _
          rw [hisz] at hc'
          refine wpAny_pure ⟨rfl, h', tk', c', rfl, hS', hc', fun b o e => ?_⟩
          have hb0 : b < s.heap.objs.size := Heap.lt_size e
          have hb1 : b ≠ s.heap.objs.size := Nat.ne_of_lt hb0
          have hb2 : b ≠ (s.heap.push (setO w)).objs.size := by
            rw [Heap.size_push]; exact Nat.ne_of_lt (Nat.lt_succ_of_lt hb0)
          exact hm.heap b o (by simp only [List.mem_cons, List.mem_singleton, List.not_mem_nil, or_false, not_or]; exact ⟨hb1, hb2⟩) (Heap.get?_push_of_some _ (Heap.get?_push_of_some _ e))

      · cases r₂ with
        | error e => exact hr₂
        | ok fl₂ =>
          cases fl₂ with
          | ret r =>
            obtain ⟨rfl, h', tk, c, rfl, hS', hc', hk'⟩ := hr₂
            repeat (any_goals (first | assumption | wp_step))
            exact h _ _ _ hS' hc' hk'
          | _ => exact hr₂.elim
    | _ => exact hr.elim
end
theorem nodup_dd : ∀ (n : Nat) (ms : List Int), ms.length ≤ n → ms.eraseDups.Nodup
  | _, [], _ => by rw [List.eraseDups_nil]; exact List.nodup_nil
  | 0, _ :: _, h => by simp at h
  | n + 1, a :: as, h => by
    rw [List.eraseDups_cons]
    refine List.nodup_cons.mpr ⟨fun q => ?_, nodup_dd n _ ?_⟩
    · rw [List.mem_eraseDups, List.mem_filter] at q
      simp at q
    · exact Nat.le_trans (List.length_filter_le _ _) (by simpa using h)
theorem strict_of {ns ms : List Int} (p : ns.Pairwise (· < ·)) (m : ∀ k : Int, k ∈ ns ↔ k ∈ ms) : ns = isort ms.eraseDups := by
  have nd1 : ns.Nodup := p.imp fun h => by omega
  have nd2 : ms.eraseDups.Nodup := nodup_dd _ _ (Nat.le_refl _)
  refine isort_of ((List.perm_ext_iff_of_nodup nd1 nd2).mpr fun k => ?_) (p.imp fun h => Int.le_of_lt h)
  rw [m, List.mem_eraseDups]
section
variable {P : Pg} {G : Calls} {Z : ZX} {α β : Type} {R : Ma → Hp → α → β → Prop} {M : Ma} {S : Sto} {ρ : Env} {σ : L2.St} {H : Hp}
theorem tE.step' {m : E} {f : D → Sto → Out α} {Q : β → Hp → Prop} {K : VK} (em : P.Emb M H S) (rn : Renv M H ρ σ) (h : Res P R M H ((ev G P.gi m ρ S).bind f) Q Z)
    (k : ∀ v H' M' S' d, Ext M H M' H' → P.Emb M' H' S' → Renv M' H' ρ σ → Rv M' H' d v → Res P R M' H' (f d S') Q Z → K v H') : tE P G Z m σ H K :=
  ⟨M, S, ρ, em, rn, (Res.bind h).mono fun v H' ⟨M', S', d, e, em', r, q⟩ => k v H' M' S' d e em' (rn.mono e) r q⟩
end
section
variable {P : Pg} {Γ : Ga} {X : Cx} {G : Calls} {Z : ZX} {n : Nat}
theorem pe_tupRM (F : Fit P Γ X) (hh : Γ.hot = false) {m : E} {e : Expr} {p p2 pos pos2 : Pos} (hg : Gl X "tuple") (hm : X.mg "tuple" = none) (hg2 : Gl X "range") (hm2 : X.mg "range" = none) (he : PE X e (tE P G Z m)) (hs : isStar e = false) :
    PE X (.Call (.Name "tuple" p) [.Call (.Name "range" p2) [e] [] pos2] [] pos) (tE P G Z (.tupR m)) := by
  refine ⟨fun pins s σ H Q I ⟨M, S, ρ, em, rn, q⟩ => ?_⟩
  simp only [ev] at q
  refine Call_ (ld_blt I hg hm boot_tuple (PyProof.Rows.callWith_type1 (args_cons (thn (prg_1 hg2 hm2 he (starEach_cons hs) pins s σ H (fun a b H1 => ∃ M1 S1 i, P.Emb M1 H1 S1 ∧ a = 0 ∧ b = i ∧ 0 ≤ i ∧ i ≤ 16777216 ∧ Res P Rv M1 H1 (.ok (.tuple (rangeL i)) S1) Q Z) I ?_) fun x s1 ⟨r, a, b, t, u, v, H1, ex, hr, I1, M1, S1, i, em1, ea, eb, c1, c2, hk⟩ => args_nil ?_) rfl) rfl))
  · refine tE.step' em rn q fun v H' M' S' d e em' rn' rv k => ?_
    split at k
    · rename_i i
      split at k
      · rename_i c
        cases rv
        exact ⟨i, rfl, M', S', i, em', rfl, rfl, c.1, c.2, k⟩
      · exact k.elim
    · exact k.elim
  · subst ex ea eb
    refine call_tuple_range (n := (b - 0).toNat) (I1.ok.hd (F.calm hh)) hr (small_one (by omega) (by omega) (by omega) (by omega)) (rangeSize_nat 0 b) (by omega) fun h' tk acc hk2 hi => ?_
    have I2 : L2.Inv X pins σ H1 { s1 with heap := h', toks := tk } := I1.kept hk2
    have J := newTup (t' := tk) I2 (vals_rg hi) (by rw [rgV_length, sizeLine_eq]; omega)
    have eo : tupO acc.toList = { cls := .type "tuple", data := .seq acc } := by unfold tupO; rw [Array.toArray_toList]
    rw [eo] at J
    refine ⟨.ref h'.objs.size, _, J, rfl, ?_⟩
    have er : rgV 0 b = (List.range b.toNat).map fun k => V.int (k : Nat) := by
      unfold rgV
      simp
    have rr : Rvs M1 H1 (rangeL b) (rgV 0 b) := by
      rw [er]
      unfold rangeL
      generalize List.range b.toNat = l
      induction l with
      | nil => exact .nil
      | cons k l ih => exact .cons (.int _) ih
    exact hk.tuple Ext.refl em1 rr (I2.hok.fresh (Nat.le_refl _)) rfl
end
end PL
end

section
set_option Elab.async false
set_option linter.all false
set_option maxRecDepth 100000
set_option maxHeartbeats 4000000
/-! PLJ3: len(set(ints)). -/
namespace PL
open PySem PySem.Spec PyProof.Rows L2
theorem count_of {ks ms : List Int} (nd : ks.Nodup) (m : ∀ k : Int, k ∈ ks ↔ k ∈ ms) : ks.length = ms.eraseDups.length :=
  ((List.perm_ext_iff_of_nodup nd (nodup_dd _ _ (Nat.le_refl _))).mpr fun k => by rw [m, List.mem_eraseDups]).length_eq
section
variable {P : Pg} {Γ : Ga} {X : Cx} {G : Calls} {Z : ZX} {n : Nat}
theorem pe_lsetM (F : Fit P Γ X) (hh : Γ.hot = false) {m : E} {e : Expr} {p p2 pos pos2 : Pos} (hg : Gl X "len") (hm : X.mg "len" = none) (hg2 : Gl X "set") (hm2 : X.mg "set" = none) (he : PE X e (tE P G Z m)) (hs : isStar e = false) :
    PE X (.Call (.Name "len" p) [.Call (.Name "set" p2) [e] [] pos2] [] pos) (tE P G Z (.lset m)) := by
  refine ⟨fun pins s σ H Q I ⟨M, S, ρ, em, rn, q⟩ => ?_⟩
  simp only [ev] at q
  refine Call_ (ld_blt I hg hm boot_len ?_)
  refine PyProof.Rows.callWith_builtin1 (PyProof.Rows.args_cons ?_ rfl) rfl rfl
  refine Call_ (ld_blt I hg2 hm2 boot_set ?_)
  refine PyProof.Rows.callWith_type1 (PyProof.Rows.args_cons (thn (he.run pins s σ H _ I ⟨M, S, ρ, em, rn, Res.bind q⟩) fun v s1 ⟨x, H1, I1, r1, M1, S1, d, e1, em1, rd, k⟩ => PyProof.Rows.args_nil ?_) (starEach_cons hs)) (starEach_cons hs) rfl
  obtain ⟨w, ho, hk⟩ := Res.oret k
  unfold lenSetD at ho
  cases e2 : seqD S1 d with
  | none => simp [e2] at ho
  | some zs =>
    cases e3 : intsOf zs with
    | none => simp [e2, e3] at ho
    | some ns =>
      simp only [e2, e3, Option.bind_some] at ho
      obtain ⟨c, ho⟩ := ifn ho
      cases ho
      obtain ⟨a, vs, rfl, h1, q1⟩ := em1.seq e2 rd
      have hvs := q1.ints e3
      subst hvs
      cases r1
      have fin : ∀ (h' : Heap) (tk cc : Nat), SetR X.w h' s1.heap.objs.size (fun j => decide (j ∈ ns)) cc → cc ≤ ns.length → (∀ b o, s1.heap.get? b = some o → h'.get? b = some o) →
          wpAny (model X.prog X.w) X.A (call (.builtin "len") [.ref s1.heap.objs.size]) (EP X pins σ Q) X.xe { s1 with heap := h', toks := tk } := fun h' tk cc R hcc hk2 => by
        obtain ⟨o, es, ep, t, ho, hx, hd, g, nd, hmem, hb, hf, hn, _⟩ := R
        have hlen : es.size = ns.eraseDups.length := by
          have := count_of (ms := ns) nd fun k => by rw [← hmem k]; simp
          rw [← this, List.length_map, Array.length_toList]
        have I2 : L2.Inv X pins σ H1 { s1 with heap := h', toks := tk + 1 + 1 } := I1.kept hk2
        refine PySem.call_len_set (s := { s1 with heap := h', toks := tk }) ho hx hd hf (by unfold scanBound at hb; omega) ?_
        refine ⟨.int es.size, H1, I2, by first | exact ⟨_, rfl⟩ | exact .int _ _ | exact .int _ | constructor, ?_⟩
        rw [hlen]
        exact hk.ok em1 (.int _)
      rcases h1 with h1 | h1
      · obtain ⟨its, r, pl, hz⟩ := I1.list (SqL.of h1)
        refine set_of_ints ns (I1.ok.hd (F.calm hh)) pl.isList (by simpa using r.ints) (by unfold scanBound; omega) fun h' tk cc R hcc hk2 => ?_
        exact PyProof.Rows.args_nil (fin h' tk cc R hcc hk2)
      · obtain ⟨its, r, pl, hz⟩ := I1.tuple h1.sq
        refine set_of_intsT ns (I1.ok.hd (F.calm hh)) pl (by simpa using r.ints) (by unfold scanBound; omega) fun h' tk cc R hcc hk2 => ?_
        exact PyProof.Rows.args_nil (fin h' tk cc R hcc hk2)
end
end PL
end

section
set_option Elab.async false
set_option linter.all false
set_option maxRecDepth 100000
set_option maxHeartbeats 1000000
/-! PLJ4: sets of nested keys (tuples of ints, texts, tuples): the small questions. -/
namespace PL
open PySem PySem.Spec PyProof.Rows L2
/-- the tuple at b is the key k -/
def KAt (h : Heap) (k : NestedKey) (b : Addr) : Prop := NestedIs h k (.ref b) ∧ k.depth ≤ 8
theorem KAt.keep {h h' : Heap} {k : NestedKey} {b : Addr} (x : KAt h k b) (hk : ∀ c o, h.get? c = some o → h'.get? c = some o) : KAt h' k b :=
  ⟨NestedIs.at (fun c o vs n e _ => hk c o e) k _ x.1, x.2⟩
theorem KAt.inj {h : Heap} {k k' : NestedKey} {b : Addr} (x : KAt h k b) (y : KAt h k' b) : k = k' := NestedIs.inj _ _ _ x.1 y.1
theorem KAt.other {h h' : Heap} {k : NestedKey} {a b : Addr} {o : Obj} {es : Array (Int × Value)} {ep : Nat} {t : SetTable} (x : KAt h k b) (ho : h.get? a = some o) (hd : o.data = .set es ep t) (hs : Heap.SameBut a h h') : KAt h' k b :=
  ⟨NestedIs.at (fun c oc vs n e ec => by
    refine (hs.2 c fun z => ?_).trans e
    subst z
    rw [ho] at e
    cases e
    rw [hd] at ec
    cases ec) k _ x.1, x.2⟩
section
variable {P : Program} {w : World} {A : Around} {E : Value → Shared → Prop} {s : Shared}
mutual
theorem of_cls : ∀ (k : NestedKey) (v : Value) (n : Nat) (s : Shared) (Q : Bool → Shared → Prop), NestedIs s.heap k v → k.depth ≤ n → Q false s → wpAny (model P w) A (ofAClassStatement n v) Q E s
  | _, _, n, s, Q, .none, _, h => by cases n <;> exact wpAny_pure h
  | _, _, n, s, Q, .bool _, _, h => by cases n <;> exact wpAny_pure h
  | _, _, n, s, Q, .int _ _, _, h => by cases n <;> exact wpAny_pure h
  | _, _, n, s, Q, .text _ _, _, h => by cases n <;> exact wpAny_pure h
  | .tup ks, _, 0, s, Q, .tup _ _ _ _, hd, _ => by simp [NestedKey.depth] at hd
  | .tup ks, .ref a, n + 1, s, Q, .tup ho hc hdat hall, hd, h => by
    have hd2 : NestedKey.depthAll ks ≤ n := by
      simp only [NestedKey.depth] at hd
      omega
    unfold ofAClassStatement
    refine wpAny_bind (wpAny_typeOf (T := "tuple") ⟨_, ho, hc⟩ ?_)
    dsimp only
    have e : (("tuple" : String) == "tuple") = true := by decide
    simp only [e, if_true, Bool.not_true, Bool.false_eq_true, if_false]
    try refine wpAny_bind (wpAny_pure ?_)
    try simp only [Bool.not_true, Bool.false_eq_true, if_false]
    show wpAny _ _ (seqItems? (.ref a) >>= _) _ _ s
    refine wpAny_bind (wpAny_seqItems ho hdat ?_)
    dsimp only
    refine wpAny_bind ?_
    show wpAny _ _ (forIn _ _ _) _ _ s
    rw [← Array.forIn_toList]
    refine wpAny_forIn_list _ (fun rest r s' => r.1 = none ∧ s' = s ∧ ∀ u ∈ rest, ∀ Q' : Bool → Shared → Prop, Q' false s → wpAny (model P w) A (ofAClassStatement n u) Q' E s) _ ?_ ?_ _ _ ⟨rfl, rfl, of_clss ks _ n s hall hd2⟩
    · rintro u rest r s' ⟨hr, rfl, all⟩
      refine wpAny_bind (all u List.mem_cons_self _ ?_)
      simp only [Bool.false_eq_true, if_false]
      exact wpAny_pure ⟨rfl, rfl, fun z hz => all z (List.mem_cons_of_mem _ hz)⟩
    · rintro ⟨r1, r2⟩ s' ⟨hr, rfl, _⟩
      simp only at hr
      subst hr
      exact wpAny_pure h
theorem of_clss : ∀ (ks : List NestedKey) (vs : List Value) (n : Nat) (s : Shared), NestedAll s.heap ks vs → NestedKey.depthAll ks ≤ n → ∀ u ∈ vs, ∀ Q' : Bool → Shared → Prop, Q' false s → wpAny (model P w) A (ofAClassStatement n u) Q' E s
  | _, _, n, s, .nil, _, u, hu, _, _ => by cases hu
  | k :: ks, _, n, s, .cons x xs, hd, u, hu, Q', h => by
    simp only [NestedKey.depthAll] at hd
    rcases List.mem_cons.mp hu with e | m
    · rw [e]; exact of_cls k _ n s Q' x (by omega) h
    · exact of_clss ks _ n s xs (by omega) u m Q' h
end
mutual
/-- whether its hash is by value: the answer doesn't matter -/
theorem by_val : ∀ (k : NestedKey) (v : Value) (n : Nat) (s : Shared) (Q : Bool → Shared → Prop), NestedIs s.heap k v → (∀ b, Q b s) → wpAny (model P w) A (hashByValue n v) Q E s
  | _, _, n, s, Q, .none, h => by cases n <;> exact wpAny_pure (h _)
  | _, _, n, s, Q, .bool _, h => by cases n <;> exact wpAny_pure (h _)
  | _, _, n, s, Q, .int _ _, h => by cases n <;> exact wpAny_pure (h _)
  | _, _, n, s, Q, .text _ _, h => by cases n <;> exact wpAny_pure (h _)
  | .tup ks, _, 0, s, Q, .tup _ _ _ _, h => wpAny_pure (h _)
  | .tup ks, .ref a, n + 1, s, Q, .tup ho hc hdat hall, h => by
    unfold hashByValue
    refine wpAny_bind (wpAny_specialOf (T := "tuple") ⟨_, ho, hc⟩ F.slot_tuple_hash.lookup ?_)
    show wpAny _ _ (seqItems? (.ref a) >>= _) _ _ s
    refine wpAny_bind (wpAny_seqItems ho hdat ?_)
    refine wpAny_bind ?_
    show wpAny _ _ (forIn _ _ _) _ _ s
    rw [← Array.forIn_toList]
    refine wpAny_forIn_list _ (fun rest r s' => r.1 = none ∧ s' = s ∧ ∀ u ∈ rest, ∀ Q' : Bool → Shared → Prop, (∀ b, Q' b s) → wpAny (model P w) A (hashByValue n u) Q' E s) _ ?_ ?_ _ _ ⟨rfl, rfl, by_vals ks _ n s hall⟩
    · rintro u rest r s' ⟨hr, rfl, all⟩
      refine wpAny_bind (all u List.mem_cons_self _ fun b => ?_)
      cases b
      · simp only [Bool.not_false, if_true]
        exact wpAny_pure (show wpAny (model P w) A (pure false) Q E s' from wpAny_pure (h _))
      · simp only [Bool.not_true, Bool.false_eq_true, if_false]
        exact wpAny_pure ⟨rfl, rfl, fun z hz => all z (List.mem_cons_of_mem _ hz)⟩
    · rintro ⟨r1, r2⟩ s' ⟨hr, rfl, _⟩
      simp only at hr
      subst hr
      exact wpAny_pure (h _)
theorem by_vals : ∀ (ks : List NestedKey) (vs : List Value) (n : Nat) (s : Shared), NestedAll s.heap ks vs → ∀ u ∈ vs, ∀ Q' : Bool → Shared → Prop, (∀ b, Q' b s) → wpAny (model P w) A (hashByValue n u) Q' E s
  | _, _, n, s, .nil, u, hu, _, _ => by cases hu
  | k :: ks, _, n, s, .cons x xs, u, hu, Q', h => by
    rcases List.mem_cons.mp hu with e | m
    · rw [e]; exact by_val k _ n s Q' x h
    · exact by_vals ks _ n s xs u m Q' h
end
/-- a search among keys shows nothing -/
theorem seen_keys {k : NestedKey} {b : Addr} {Q : Bool → Shared → Prop} (hk : KAt s.heap k b) {ys : List Value} (hy : ∀ y ∈ ys, ∃ k' c, y = Value.ref c ∧ KAt s.heap k' c) (h : Q false s) :
    wpAny (model P w) A (searchCouldBeSeen (.ref b) ys) Q E s := by
  unfold searchCouldBeSeen
  refine wpAny_bind ?_
  refine wpAny_forIn_list _ (fun rest r s' => r.1 = none ∧ s' = s ∧ ∀ y ∈ rest, ∃ k' c, y = Value.ref c ∧ KAt s.heap k' c) _ ?_ ?_ _ _ ⟨rfl, rfl, hy⟩
  · rintro v rest r s' ⟨hr, rfl, all⟩
    obtain ⟨k', c, rfl, hc⟩ := all v List.mem_cons_self
    have more : ∀ y ∈ rest, ∃ k' c, y = Value.ref c ∧ KAt s'.heap k' c := fun u hu' => all u (List.mem_cons_of_mem _ hu')
    dsimp only
    by_cases hv : (b == c || (carriedByValue (.ref b) && carriedByValue (.ref c))) = true
    · refine wp_if_pos hv ?_
      exact wpAny_pure ⟨rfl, rfl, more⟩
    · refine wp_if_neg hv ?_
      refine wpAny_bind ((nestedKind P w).quiet hk ?_)
      simp only [Bool.not_true, Bool.false_eq_true, if_false]
      refine wpAny_bind ((nestedKind P w).quiet hc ?_)
      simp only [Bool.not_true, Bool.false_eq_true, if_false]
      refine wpAny_bind (of_cls k _ 8 s' _ hk.1 hk.2 ?_)
      simp only [Bool.false_eq_true, if_false]
      refine wpAny_bind (of_cls k' _ 8 s' _ hc.1 hc.2 ?_)
      simp only [Bool.false_eq_true, if_false]
      exact wpAny_pure ⟨rfl, rfl, more⟩
  · rintro ⟨r1, r2⟩ s' ⟨hr, rfl, _⟩
    simp only at hr
    subst hr
    exact wpAny_pure h
end
end PL
end

section
set_option Elab.async false
set_option linter.all false
set_option maxRecDepth 100000
set_option maxHeartbeats 2000000
/-! PLJ5: sets of nested keys: the search, adding. -/
namespace PL
open PySem PySem.Spec PyProof.Rows L2
abbrev KA := Addr × NestedKey
def kRows (w : World) (L : List KA) : List (Int × Value) := L.map fun p => (p.2.hash w, Value.ref p.1)
def kHs (w : World) (L : List KA) : List Int := L.map fun p => p.2.hash w
theorem kRows_len (w : World) (L : List KA) : (kRows w L).length = L.length := List.length_map ..
theorem kHs_len (w : World) (L : List KA) : (kHs w L).length = L.length := List.length_map ..
/-- the set at a holds the keys L, each once -/
structure KSet (w : World) (h : Heap) (a : Addr) (L : List KA) (es : Array (Int × Value)) (ep : Nat) (t : SetTable) : Prop where
  ob : ∃ o, h.get? a = some o ∧ o.ExactSet ∧ o.data = .set es ep t
  rows : es.toList = kRows w L
  tab : TabOk t (kHs w L)
  nd : (L.map Prod.snd).Nodup
  keys : ∀ p ∈ L, KAt h p.2 p.1
  led : w.params.followText "set-order" = true ∨ t.led = true
  room : L.length * 5 < t.mask * 3
  few : L.length < 64
section
variable {P : Program} {w : World} {A : Around} {E : Value → Shared → Prop} {s : Shared} {a : Addr} {L : List KA} {es : Array (Int × Value)} {ep : Nat} {t : SetTable}
theorem size_of (e : es.toList = kRows w L) : es.size = L.length := by rw [← Array.length_toList, e, kRows_len]
theorem fits_of (dm : t.dummies = #[]) (sz : t.place.size = es.size) (le : es.size ≤ t.mask) : t.fits es.size = true := by
  unfold SetTable.fits SetTable.fill
  rw [dm, Bool.and_eq_true, beq_iff_eq, decide_eq_true_eq]
  show t.place.size = es.size ∧ t.place.size + 0 ≤ t.mask
  omega
theorem KSet.size (R : KSet w s.heap a L es ep t) : es.size = L.length := size_of R.rows
theorem KSet.fits (R : KSet w s.heap a L es ep t) : t.fits es.size = true := by
  have h1 := R.tab.sz
  rw [kHs_len] at h1
  have h2 := R.size
  have h3 := R.room
  exact fits_of R.tab.dm (by omega) (by omega)
theorem KSet.entry (R : KSet w s.heap a L es ep t) {i : Nat} {p : KA} (h : L[i]? = some p) : es[i]? = some (p.2.hash w, Value.ref p.1) := by
  rw [← Array.getElem?_toList, R.rows, kRows, List.getElem?_map, h]
  rfl
theorem no_dummy (m : Nat) : ∀ (n : Nat) (p : SetTable.Probe), p.dummy = none → (nth m p n).dummy = none
  | 0, p, h => h
  | n + 1, p, h => no_dummy m n (adv m p) (by unfold adv; split <;> exact h)
/-- where a key's hash begins -/
def pr0 (m : Nat) (h : Int) : SetTable.Probe := runAt m (SetTable.bits h % (m + 1)) (SetTable.bits h)
theorem way_pr (m : Nat) (h : Int) (c : Nat) : (nth m (pr0 m h) c).j = way m h c := rfl
theorem way_add (m : Nat) (h : Int) (c q : Nat) : (nth m (nth m (pr0 m h) c) q).j = way m h (c + q) := by rw [← nth_add, way_pr]
theorem find_from (R : KSet w s.heap a L es ep t) {x : Addr} {k : NestedKey} (hx : KAt s.heap k x) (hu : A.units + 8 < cLine) {H : Int} (eH : H = k.hash w) {K : Nat} (hKf : K < 10 * SetTable.turns t.mask)
    (hK : way t.mask H K ∉ t.place.toList) (hKb : ∀ c, c < K → way t.mask H c ∈ t.place.toList) {Q : SetFound → Shared → Prop}
    (hin : k ∈ L.map Prod.snd → Q (.there none) s) (hout : k ∉ L.map Prod.snd → Q (.free (way t.mask H K) false) s) :
    ∀ (f c : Nat) (stand : Option SetTable.Probe), stand.getD (t.probeStart H) = nth t.mask (pr0 t.mask H) c → c ≤ K → K - c < f →
      (∀ (i : Nat) p, L[i]? = some p → p.2 = k → ∃ c', c ≤ c' ∧ c' < K ∧ t.place.toList[i]? = some (way t.mask H c')) →
      wpAny (model P w) A (setSearchFrom a (.ref x) H true f stand) Q E s := by
  intro f
  induction f with
  | zero => intro c _ _ _ hf; exact absurd hf (Nat.not_lt_zero _)
  | succ f ih =>
    intro c stand hst hc hf hre
    obtain ⟨o, ho, hex, hd⟩ := R.ob
    have gw : ¬ t.gaveWay = true := by
      unfold SetTable.gaveWay
      rw [mask_odd R.tab.mok]
      decide
    have spec := go_spec t R.tab.ris R.tab.dm (fun i => (es[i]?.map (·.1)).getD 0) H (10 * SetTable.turns t.mask) (K - c) (nth t.mask (pr0 t.mask H) c) (no_dummy _ _ _ rfl) (by omega)
      (fun q hq => by rw [way_add]; exact hKb (c + q) (by omega)) (by rw [way_add, show c + (K - c) = K by omega]; exact hK)
    have hat : ∀ (i : Nat) p, L[i]? = some p → p.2 = k → (es[i]?.map (·.1)).getD 0 = H := fun i p hp e => by
      rw [R.entry hp, eH, ← e]
      rfl
    rw [setSearchFrom_succ]
    refine wpAny_bind (wpAny_setState_of ho hd R.fits ?_)
    dsimp only
    refine wp_if_neg gw ?_
    try refine wpAny_bind (wpAny_pure ?_)
    rcases spec with ⟨q, i, hq, hi, hh, hno, hpr⟩ | ⟨hno, hpr⟩
    · rw [way_add] at hi
      have hpr' : t.probe (fun i => (es[i]?.map (·.1)).getD 0) H (stand.getD (t.probeStart H)) = some (.candidate (way t.mask H (c + q)) i (nth t.mask (pr0 t.mask H) (c + (q + 1)))) := by
        rw [hst, ← way_add, nth_add]
        exact hpr
      rw [hpr']
      dsimp only
      have hil : i < L.length := by
        have h1 := (List.getElem?_eq_some_iff.mp hi).1
        have h2 := R.tab.sz
        rw [kHs_len] at h2
        rw [Array.length_toList] at h1
        omega
      obtain ⟨p, hp⟩ : ∃ p, L[i]? = some p := ⟨_, List.getElem?_eq_getElem hil⟩
      have hmem : p ∈ L := List.mem_of_getElem? hp
      have rest : wpAny (model P w) A (searchRest a (.ref x) H true f es t (way t.mask H (c + q)) i (nth t.mask (pr0 t.mask H) (c + (q + 1)))) Q E s := by
        unfold searchRest
        rw [R.entry hp]
        dsimp only
        refine wpAny_bind (wpAny_holding ((nestedKind P w).eqBool hu (R.keys p hmem) hx ?_))
        refine wpAny_bind (wpAny_setState_of ho hd R.fits ?_)
        dsimp only
        by_cases hkk : p.2 = k
        · refine wp_if_pos (by simp [hkk]) ?_
          exact wpAny_pure (hin (List.mem_map.mpr ⟨p, hmem, hkk⟩))
        · refine wp_if_neg (by simp [hkk]) ?_
          try refine wpAny_bind (wpAny_pure ?_)
          rw [sameMem]
          dsimp only
          have hsl : t.slot (way t.mask H (c + q)) = .live i := slot_live R.tab.ris hi
          simp only [if_true, hsl, R.entry hp]
          refine wpAny_bind (wpAny_isSame_ref_self (wpAny_bind (wpAny_pure ?_)))
          simp only [if_true]
          refine wp_if_neg (by simp [hkk]) ?_
          refine ih (c + (q + 1)) _ rfl (by omega) (by omega) fun i0 p0 h0 hk0 => ?_
          obtain ⟨c', a1, a2, a3⟩ := hre i0 p0 h0 hk0
          refine ⟨c', ?_, a2, a3⟩
          by_cases z : c' < c + q
          · exact absurd (hat i0 p0 h0 hk0) (hno (c' - c) i0 (by omega) (by rw [way_add, show c + (c' - c) = c' by omega]; exact a3))
          · by_cases y : c' = c + q
            · rw [y] at a3
              have s0 := slot_live R.tab.ris a3
              rw [hsl] at s0
              injection s0 with s0
              rw [← s0, hp] at h0
              cases h0
              exact absurd hk0 hkk
            · omega
      by_cases hl : t.led = true
      · refine wp_if_neg (by simp [hl]) ?_
        try refine wpAny_bind (wpAny_pure ?_)
        exact rest
      · refine wp_if_pos (by simp [hl]) ?_
        refine wpAny_bind (seen_keys hx (fun y hy => ?_) ?_)
        · obtain ⟨e, he, ee⟩ := List.mem_map.mp hy
          have he2 : e ∈ es.toList := by
            have : e ∈ es ∧ e.1 = H := by simpa using he
            simpa using this.1
          rw [R.rows] at he2
          obtain ⟨p2, hp2, e2⟩ := List.mem_map.mp he2
          exact ⟨p2.2, p2.1, by rw [← ee, ← e2], R.keys p2 hp2⟩
        · refine wp_if_neg (by decide) ?_
          try refine wpAny_bind (wpAny_pure ?_)
          exact rest
    · have hpr' : t.probe (fun i => (es[i]?.map (·.1)).getD 0) H (stand.getD (t.probeStart H)) = some (.empty (way t.mask H K) none) := by
        have e2 : way t.mask H K = (nth t.mask (nth t.mask (pr0 t.mask H) c) (K - c)).j := by rw [way_add, show c + (K - c) = K by omega]
        rw [hst, e2]
        exact hpr
      rw [hpr']
      dsimp only
      refine wpAny_pure (hout fun hm => ?_)
      obtain ⟨p0, h0, hk0⟩ := List.mem_map.mp hm
      obtain ⟨i0, hi0, e0⟩ := List.getElem_of_mem h0
      have h00 : L[i0]? = some p0 := by rw [List.getElem?_eq_getElem hi0, e0]
      obtain ⟨c', a1, a2, a3⟩ := hre i0 p0 h00 hk0
      exact hno (c' - c) i0 (by omega) (by rw [way_add, show c + (c' - c) = c' by omega]; exact a3) (hat i0 p0 h00 hk0)
theorem find_at (R : KSet w s.heap a L es ep t) {x : Addr} {k : NestedKey} (hx : KAt s.heap k x) (hu : A.units + 8 < cLine) {H : Int} (eH : H = k.hash w) {Q : SetFound → Shared → Prop}
    (hin : k ∈ L.map Prod.snd → Q (.there none) s)
    (hout : ∀ K, k ∉ L.map Prod.snd → way t.mask H K ∉ t.place.toList → (∀ c, c < K → way t.mask H c ∈ t.place.toList) → Q (.free (way t.mask H K) false) s) :
    wpAny (model P w) A (setSearch a (.ref x) H true) Q E s := by
  have hroom := R.room
  obtain ⟨K, hKf, hK, hKb⟩ := R.tab.first (by rw [kHs_len]; omega) H
  have hbig : K < 100000 := by
    unfold SetTable.turns at hKf
    rcases R.tab.mok with e | e | e <;> omega
  unfold setSearch
  refine find_from R hx hu eH hKf hK hKb hin (fun hn => hout K hn hK hKb) 100000 0 none rfl (Nat.zero_le _) (by omega) fun i p hp hk => ?_
  have hi : (kHs w L)[i]? = some H := by rw [kHs, List.getElem?_map, hp, eH, ← hk]; rfl
  have hil : i < t.place.toList.length := by
    have h1 := (List.getElem?_eq_some_iff.mp hp).1
    have h2 := R.tab.sz
    rw [kHs_len] at h2
    rw [Array.length_toList]
    omega
  have hj := List.getElem?_eq_getElem hil
  obtain ⟨c, hc, e⟩ := R.tab.before hK hi hj
  exact ⟨c, Nat.zero_le _, hc, by rw [hj, e]⟩
end
end PL
end

section
set_option Elab.async false
set_option linter.all false
set_option maxRecDepth 100000
set_option maxHeartbeats 2000000
/-! PLJ6: sets of nested keys: laid anew, one more. -/
namespace PL
open PySem PySem.Spec PyProof.Rows L2
theorem fm_map {α : Type} (f : Nat → Option α) (d : α) : ∀ l : List Nat, (∀ i ∈ l, (f i).isSome = true) → l.filterMap f = l.map fun i => (f i).getD d
  | [], _ => rfl
  | i :: l, h => by
    obtain ⟨x, hx⟩ := Option.isSome_iff_exists.mp (h i List.mem_cons_self)
    rw [List.filterMap_cons_some hx, List.map_cons, hx, fm_map f d l fun j hj => h j (List.mem_cons_of_mem _ hj)]
    rfl
theorem fm_all {α : Type} : ∀ L : List α, (List.range L.length).filterMap (fun i => L[i]?) = L
  | [] => rfl
  | x :: L => by
    rw [fm_map (fun i => (x :: L)[i]?) x _ fun i hi => by rw [List.getElem?_eq_getElem (List.mem_range.mp hi)]; rfl]
    refine List.ext_getElem (by simp) fun i h1 h2 => ?_
    rw [List.getElem_map, List.getElem_range, List.getElem?_eq_getElem h2]
    rfl
theorem fm_opt {α β : Type} (f : α → β) (L : List α) : ∀ l : List Nat, l.filterMap (fun i => (L[i]?).map f) = (l.filterMap fun i => L[i]?).map f
  | [] => rfl
  | i :: l => by
    cases h : L[i]? with
    | none => rw [List.filterMap_cons_none (by rw [h]; rfl), List.filterMap_cons_none h, fm_opt f L l]
    | some x => rw [List.filterMap_cons_some (b := f x) (by rw [h]; rfl), List.filterMap_cons_some h, List.map_cons, fm_opt f L l]
section
variable {P : Program} {w : World} {A : Around} {E : Value → Shared → Prop} {s : Shared} {a : Addr} {L : List KA} {es : Array (Int × Value)} {ep : Nat} {t : SetTable}
theorem rows_at (e : es.toList = kRows w L) (i : Nat) : es[i]? = (L[i]?).map fun p => (p.2.hash w, Value.ref p.1) := by
  rw [← Array.getElem?_toList, e, kRows, List.getElem?_map]
/-- the rows in another order -/
theorem re_order (e : es.toList = kRows w L) {order : Array Nat} (hp : order.toList.Perm (List.range L.length)) :
    ∃ L2, (order.filterMap (es[·]?)).toList = kRows w L2 ∧ L2.Perm L ∧ kHs w L2 = order.toList.map fun i => (es.map (·.1)).getD i 0 := by
  refine ⟨order.toList.filterMap fun i => L[i]?, ?_, ?_, ?_⟩
  · rw [Array.toList_filterMap, kRows, ← fm_opt]
    congr 1
    funext i
    exact rows_at e i
  · have q := hp.filterMap fun i => L[i]?
    rw [fm_all] at q
    exact q
  · rw [kHs, ← fm_opt, fm_map _ 0 _ fun i hi => ?_]
    · refine List.map_congr_left fun i _ => ?_
      have : (es.map (·.1))[i]? = (L[i]?).map fun p => p.2.hash w := by
        rw [Array.getElem?_map, rows_at e, Option.map_map]
        rfl
      rw [Array.getD_eq_getD_getElem?, this]
    · have hi2 := List.mem_range.mp (hp.mem_iff.mp hi)
      rw [List.getElem?_eq_getElem hi2]
      rfl
theorem lay_anew {o : Obj} (ho : s.heap.get? a = some o) (hex : o.ExactSet) (hd : o.data = .set es ep t) (hrows : es.toList = kRows w L) (hsz : t.place.size = es.size) (hdm : t.dummies = #[]) (hfl : es.size ≤ t.mask)
    (nd : (L.map Prod.snd).Nodup) (hk : ∀ p ∈ L, KAt s.heap p.2 p.1) (ld : w.params.followText "set-order" = true ∨ t.led = true) (few : L.length < 64) {wanted M : Nat}
    (hw : SetTable.sizeAbove wanted - 1 = M) (hM : MaskOk M) (hw2 : SetTable.sizeAbove wanted ≤ 128) (hn : L.length * 5 < M * 3) {Q : Unit → Shared → Prop}
    (hQ : ∀ h' L' es' ep' t', Heap.SameBut a s.heap h' → KSet w h' a L' es' ep' t' → L'.Perm L → Q () { s with heap := h' }) : wpAny (model P w) A (setRelay a wanted) Q E s := by
  have hsl := size_of hrows
  obtain ⟨t', order, e, hp, T, em, el, _, _⟩ := relaid_ok t (hs := es.map (·.1)) (wanted := wanted) hw hM (by rw [Array.size_map, hsl]; omega)
  rw [Array.size_map, hsl] at hp
  obtain ⟨L2, r1, r2, r3⟩ := re_order hrows hp
  rw [← r3] at T
  have hs2 : (order.filterMap (es[·]?)).size = es.size := by rw [size_of r1, r2.length_eq, hsl]
  rw [setRelay_eq]
  refine wpAny_bind (wpAny_setState_of ho hd (fits_of hdm hsz hfl) ?_)
  dsimp only
  refine wp_if_neg (by rw [sizeLine_eq]; omega) ?_
  try refine wpAny_bind (wpAny_pure ?_)
  rw [e]
  dsimp only
  refine wpAny_bind ?_
  refine wp_if_neg (by rw [hs2]; simp) ?_
  try refine wpAny_bind (wpAny_pure ?_)
  refine wpAny_pure ?_
  dsimp only
  refine wpAny_storeSet_of ho hd ?_ (by rw [hs2, hsl, sizeLine_eq]; omega)
  have sb : Heap.SameBut a s.heap (s.heap.update a (Obj.putSet (order.filterMap (es[·]?)) t')) := Heap.SameBut.update ..
  exact hQ _ L2 _ (ep + 1) t' sb ⟨⟨_, store_at ho hd, ⟨hex.1, hex.2.1, hex.2.2⟩, rfl⟩, r1, T, (r2.map Prod.snd).nodup_iff.mpr nd, fun p hpm => (hk p (r2.mem_iff.mp hpm)).other ho hd sb, by rw [el]; exact ld, by rw [r2.length_eq, em]; exact hn, by rw [r2.length_eq]; exact few⟩ r2
/-- the table with its mark of plainness changed -/
theorem tab_plain {t : SetTable} {hs : List Int} (T : TabOk t hs) (b : Bool) : TabOk { t with plain := b } hs := ⟨T.ris, T.dm, T.sz, T.mok, T.bd, T.reach⟩
theorem put_in (L : List KA) (p : Nat) (x : KA) : kRows w (L.take p ++ x :: L.drop p) = (kRows w L).take p ++ (x.2.hash w, Value.ref x.1) :: (kRows w L).drop p := by
  simp [kRows]
theorem put_hs (L : List KA) (p : Nat) (x : KA) : kHs w (L.take p ++ x :: L.drop p) = (kHs w L).take p ++ x.2.hash w :: (kHs w L).drop p := by
  simp [kHs]
theorem one_more (R : KSet w s.heap a L es ep t) {x : Addr} {k : NestedKey} (hx : KAt s.heap k x) (hu : A.units + 8 < cLine) (hfew : L.length + 1 < 64) {Q : Bool → Shared → Prop}
    (hQ : ∀ b h' L' es' ep' t', Heap.SameBut a s.heap h' → KSet w h' a L' es' ep' t' → (k ∈ L.map Prod.snd → L' = L) → (k ∉ L.map Prod.snd → L'.Perm ((x, k) :: L)) → Q b { s with heap := h' }) :
    wpAny (model P w) A (setAddHashed a (.ref x) (k.hash w)) Q E s := by
  obtain ⟨H, eH⟩ : ∃ H, H = k.hash w := ⟨_, rfl⟩
  rw [← eH]
  obtain ⟨o, ho, hex, hd⟩ := R.ob
  have hsl := R.size
  have hroom := R.room
  unfold setAddHashed
  refine wpAny_holding ?_
  rw [show (100000 : Nat) = 99999 + 1 from rfl, setAddHashedIn_succ]
  refine wpAny_bind (wpAny_setState_of ho hd R.fits ?_)
  dsimp only
  refine wp_if_neg (by simp [byScan, Value.scannable]) ?_
  try refine wpAny_bind (wpAny_pure ?_)
  refine wpAny_bind (find_at R hx hu eH (fun hm => ?_) fun K hm hK hb => ?_)
  · dsimp only
    exact wpAny_pure (hQ false s.heap L es ep t (Heap.SameBut.refl a s.heap) R (fun _ => rfl) fun z => absurd hm z)
  · dsimp only
    refine wpAny_bind (wpAny_setState_of ho hd R.fits ?_)
    dsimp only
    obtain ⟨q1, q2, q3, q4, q5, _, q7, q8, q9⟩ := R.tab.put hK hb
    generalize hpt : t.put (way t.mask H K) = pt at q1 q3 q4 q5 q7 q8 q9 ⊢
    obtain ⟨t1, p⟩ := pt
    dsimp only at q1 q3 q4 q5 q7 q8 q9 ⊢
    subst q1
    generalize hpp : SetTable.below t.place (way t.mask H K) = p at q2 q3 ⊢
    have pm := put_perm L p (x, k)
    have hlen : (L.take p ++ (x, k) :: L.drop p).length = L.length + 1 := pm.length_eq
    have hin : (SetTable.insertAt es p (H, Value.ref x)).toList = kRows w (L.take p ++ (x, k) :: L.drop p) := by
      rw [SetTable.toList_insertAt, put_in, R.rows, eH]
    rw [eH, ← put_hs L p (x, k)] at q3
    have nd1 : ((L.take p ++ (x, k) :: L.drop p).map Prod.snd).Nodup := by
      refine (pm.map Prod.snd).nodup_iff.mpr ?_
      rw [List.map_cons]
      exact List.nodup_cons.mpr ⟨hm, R.nd⟩
    have hes := size_of hin
    rw [hlen] at hes
    generalize SetTable.insertAt es p (H, Value.ref x) = es1 at hin hes ⊢
    generalize L.take p ++ (x, k) :: L.drop p = L1 at pm hlen q3 nd1 hin
    -- whatever is said of its plainness
    have main : ∀ t2 : SetTable, TabOk t2 (kHs w L1) → t2.mask = t.mask → t2.led = t.led → t2.fill = L.length + 1 → wpAny (model P w) A (do
        storeSet a es1 t2
        if !false && t2.tooFull then setRelay a (SetTable.grown (es.size + 1))
        return true) Q E s := fun t2 T2 m2 l2 f2 => by
      refine wpAny_bind (wpAny_storeSet_of ho hd ?_ (by rw [hes, sizeLine_eq]; omega))
      have sb : Heap.SameBut a s.heap (s.heap.update a (Obj.putSet es1 t2)) := Heap.SameBut.update ..
      have ho1 := store_at (es' := es1) (t' := t2) ho hd
      generalize s.heap.update a (Obj.putSet es1 t2) = h1 at sb ho1 ⊢
      have keys1 : ∀ p ∈ L1, KAt h1 p.2 p.1 := fun p hp => by
        rcases List.mem_cons.mp (pm.mem_iff.mp hp) with e | hp
        · rw [e]; exact hx.other ho hd sb
        · exact (R.keys p hp).other ho hd sb
      have ld1 : w.params.followText "set-order" = true ∨ t2.led = true := by rw [l2]; exact R.led
      by_cases hf : t2.tooFull = true
      · first
          | (refine wpAny_bind ?_; refine wp_if_pos (by simp [hf]) ?_)
          | (refine wp_if_pos (by simp [hf]) ?_; refine wpAny_bind ?_)
        have hfull : (L.length + 1) * 5 ≥ t2.mask * 3 := by
          have h := hf
          unfold SetTable.tooFull at h
          rw [decide_eq_true_eq, f2] at h
          exact h
        rw [hsl]
        have hsz1 : t2.place.size = es1.size := by
          have h := T2.sz
          rw [kHs_len, hlen] at h
          rw [h, hes]
        have two : (t.mask = 7 ∧ L.length = 4) ∨ (t.mask = 31 ∧ L.length = 18) := by
          rcases R.tab.mok with e | e | e
          · left; rw [m2, e] at hfull; rw [e] at hroom; exact ⟨e, by omega⟩
          · right; rw [m2, e] at hfull; rw [e] at hroom; exact ⟨e, by omega⟩
          · exfalso; rw [m2, e] at hfull; omega
        have go : ∀ M, SetTable.sizeAbove (SetTable.grown (L.length + 1)) - 1 = M → MaskOk M → SetTable.sizeAbove (SetTable.grown (L.length + 1)) ≤ 128 → (L.length + 1) * 5 < M * 3 →
            wpAny (model P w) A (setRelay a (SetTable.grown (L.length + 1))) (fun _ s' => wpAny (model P w) A (pure true) Q E s') E { s with heap := h1 } := fun M g1 g2 g3 g4 => by
          refine lay_anew (s := { s with heap := h1 }) ho1 ⟨hex.1, hex.2.1, hex.2.2⟩ rfl hin hsz1 T2.dm (by rw [hes, m2]; rcases two with ⟨e, e2⟩ | ⟨e, e2⟩ <;> omega) nd1 keys1 ld1 (by rw [hlen]; exact hfew) g1 g2 g3 (by rw [hlen]; exact g4) ?_
          intro h2 L2 es2 ep2 t3 sb2 R2 pm2
          exact wpAny_pure (hQ true h2 L2 es2 ep2 t3 (sb.trans sb2) R2 (fun z => absurd z hm) fun _ => pm2.trans pm)
        rcases two with ⟨_, e2⟩ | ⟨_, e2⟩
        · exact go 31 (by rw [e2, size_20]) (.inr (.inl rfl)) (by rw [e2, size_20]; decide) (by omega)
        · exact go 127 (by rw [e2, size_76]) (.inr (.inr rfl)) (by rw [e2, size_76]; decide) (by omega)
      · first
          | refine wp_if_neg (by simp [hf]) ?_
          | (refine wpAny_bind ?_; refine wp_if_neg (by simp [hf]) ?_; refine wpAny_pure ?_)
        refine wpAny_pure (hQ true h1 L1 es1 (ep + 1) t2 sb ⟨⟨_, ho1, ⟨hex.1, hex.2.1, hex.2.2⟩, rfl⟩, hin, T2, nd1, keys1, ld1, ?_, by rw [hlen]; exact hfew⟩ (fun z => absurd z hm) fun _ => pm)
        have h := hf
        unfold SetTable.tooFull at h
        rw [decide_eq_true_eq, f2] at h
        rw [hlen]
        omega
    have q9' : t1.fill = L.length + 1 := by rw [q9, kHs_len]
    by_cases hp : t1.plain = true
    · first
        | (refine wpAny_bind ?_; refine wp_if_pos hp ?_; refine by_val k _ 8 s _ hx.1 fun b => ?_)
        | refine wp_if_pos hp (wpAny_bind (by_val k _ 8 s _ hx.1 fun b => ?_))
      cases b
      · simp only [Bool.false_eq_true, if_false]
        exact main { t1 with plain := false } (tab_plain q3 false) q4 q5 q9'
      · simp only [if_true]
        exact main t1 q3 q4 q5 q9'
    · first
        | (refine wpAny_bind ?_; refine wp_if_neg hp ?_; refine wpAny_pure ?_)
        | refine wp_if_neg hp (wpAny_bind (wpAny_pure ?_))
      simp only [if_true]
      exact main t1 q3 q4 q5 q9'
end
end PL
end

section
set_option Elab.async false
set_option linter.all false
set_option maxRecDepth 100000
set_option maxHeartbeats 4000000
/-! PLJ7: set(xs) of nested keys. -/
namespace PL
open PySem PySem.Spec PyProof.Rows L2
/-- what the set has of the first i -/
structure Has (ks : List KA) (i : Nat) (L : List KA) : Prop where
  sub : ∀ p ∈ L, p ∈ ks.take i
  all : ∀ p ∈ ks.take i, p.2 ∈ L.map Prod.snd
  len : L.length ≤ i
theorem Has.zero (ks : List KA) : Has ks 0 [] := ⟨fun p h => (by cases h), fun p h => (by simp at h), Nat.le_refl _⟩
theorem take_one {α : Type} {l : List α} {i : Nat} {x : α} (h : l[i]? = some x) : l.take (i + 1) = l.take i ++ [x] := by
  rw [List.take_add_one, h]
  rfl
theorem Has.step {ks L L' : List KA} {i : Nat} {x : KA} (g : Has ks i L) (h : ks[i]? = some x) (c : (x.2 ∈ L.map Prod.snd ∧ L' = L) ∨ L'.Perm (x :: L)) : Has ks (i + 1) L' := by
  have e := take_one h
  rcases c with ⟨c, rfl⟩ | pm
  · refine ⟨fun p hp => ?_, fun p hp => ?_, Nat.le_succ_of_le g.len⟩
    · rw [e]; exact List.mem_append_left _ (g.sub p hp)
    · rw [e] at hp
      rcases List.mem_append.mp hp with z | z
      · exact g.all p z
      · rw [List.mem_singleton.mp z]; exact c
  · refine ⟨fun p hp => ?_, fun p hp => ?_, by rw [pm.length_eq, List.length_cons]; exact Nat.succ_le_succ g.len⟩
    · rw [e]
      rcases List.mem_cons.mp (pm.mem_iff.mp hp) with z | z
      · rw [z]; exact List.mem_append_right _ List.mem_cons_self
      · exact List.mem_append_left _ (g.sub p z)
    · rw [(pm.map Prod.snd).mem_iff, List.map_cons]
      rw [e] at hp
      rcases List.mem_append.mp hp with z | z
      · exact List.mem_cons_of_mem _ (g.all p z)
      · rw [List.mem_singleton.mp z]; exact List.mem_cons_self
section
variable {P : Program} {w : World} {A : Around} {E : Value → Shared → Prop} {s : Shared}
theorem KSet.keep {h h' : Heap} {a : Addr} {L : List KA} {es : Array (Int × Value)} {ep : Nat} {t : SetTable} (R : KSet w h a L es ep t) (ha : ∀ o, h.get? a = some o → h'.get? a = some o) (hk : ∀ p ∈ L, KAt h' p.2 p.1) : KSet w h' a L es ep t := by
  obtain ⟨o, ho, r⟩ := R.ob
  exact ⟨⟨o, ha o ho, r⟩, R.rows, R.tab, R.nd, hk, R.led, R.room, R.few⟩
theorem new_set {h : Heap} {a : Addr} (ho : h.get? a = some (setO w)) : KSet w h a [] #[] 0 (.fresh 0 0 (!w.params.followText "set-order")) :=
  ⟨⟨_, ho, ⟨rfl, rfl, rfl⟩, rfl⟩, rfl, ⟨List.Pairwise.nil, rfl, rfl, .inl rfl, fun x hx => (by cases hx), fun i h j hi => (by simp [kHs] at hi)⟩, List.nodup_nil, fun p hp => (by cases hp), (by
    show _ ∨ (!w.params.followText "set-order") = true
    cases w.params.followText "set-order"
    · exact .inr rfl
    · exact .inl rfl), (by show 0 * 5 < 7 * 3; decide), (by show 0 < 64; decide)⟩
theorem upd_loop {I : Addr} {fp wr : List Addr} {G : Array GenState → Array GenState → Prop} {n : Nat} {Pv : Nat → Value → Prop} {St : Nat → Shared → Prop} {R : Result → Shared → Prop}
    (W : WalksS P w A.in1 I fp wr G n Pv St) (S : Addr) (hSf : S ∉ fp) (ks : List KA) (hn : n = ks.length) (hfew : ks.length < 63) (hval : ∀ i v, Pv i v → ∃ p, ks[i]? = some p ∧ v = .ref p.1)
    (h0 : Heap) (hk : ∀ p ∈ ks, KAt h0 p.2 p.1) (hS0 : h0.get? S = none) (hw0 : ∀ b ∈ wr, h0.get? b = none) (hu : A.in1.units + 8 < cLine) :
    ∀ (k i : Nat) (s : Shared), n - i = k → i ≤ n → St i s → (∀ b o, h0.get? b = some o → s.heap.get? b = some o) → (∃ L es ep t, KSet w s.heap S L es ep t ∧ Has ks i L) →
      (∀ s' L es ep t, Moved (S :: wr) G s s' → KSet w s'.heap S L es ep t → Has ks n L → (∀ b o, h0.get? b = some o → s'.heap.get? b = some o) → R (.ok (.ret .none)) s') →
      codeAny (model P w) A (.builtin "set.update.loop" ⟨[.ref S, .ref I], []⟩) R s := by
  have hSw : S ∉ wr := fun h => hSf (W.sub _ h)
  have more : ∀ b ∈ wr, b ∈ S :: wr := fun b hb => List.mem_cons_of_mem _ hb
  have stays : ∀ {s s' : Shared}, Moved wr G s s' → (∀ b o, h0.get? b = some o → s.heap.get? b = some o) → ∀ b o, h0.get? b = some o → s'.heap.get? b = some o := fun hm hkp b o e =>
    hm.heap b o (fun hb => by rw [hw0 b hb] at e; cases e) (hkp b o e)
  have inn : ∀ {i : Nat} {L : List KA}, Has ks i L → ∀ p ∈ L, p ∈ ks := fun g p hp => List.mem_of_mem_take (g.sub p hp)
  intro k
  induction k with
  | zero =>
    rintro i s hk' hi hst hkp ⟨L, es, ep, t, hS, g⟩ hR
    have e : i = n := by omega
    subst e
    refine codeAny_builtin F.entry_set_update_loop ?_
    rw [Around.under_plainId F.plain_set_update_loop _]
    show wpAny _ A.in1 (pyNext (.ref I) >>= _) _ _ s
    refine wpAny_bind (W.done s _ _ hst fun s' hm => ?_)
    show wpAny _ A.in1 (ret Value.none) _ _ s'
    have hkp' := stays hm hkp
    exact wpAny_pure (hR s' L es ep t (hm.mono more) (hS.keep (fun o e => hm.heap S o hSw e) fun p hp => (hk p (inn g p hp)).keep hkp') g hkp')
  | succ k ih =>
    rintro i s hk' hi hst hkp ⟨L, es, ep, t, hS, g⟩ hR
    have hlt : i < n := by omega
    refine codeAny_builtin F.entry_set_update_loop ?_
    rw [Around.under_plainId F.plain_set_update_loop _]
    show wpAny _ A.in1 (pyNext (.ref I) >>= _) _ _ s
    refine wpAny_bind (W.item i s _ _ hlt hst fun v s' hP hst' hm => ?_)
    obtain ⟨p, hp, rfl⟩ := hval i v hP
    have hkp' := stays hm hkp
    have hS' : KSet w s'.heap S L es ep t := hS.keep (fun o e => hm.heap S o hSw e) fun q hq => (hk q (inn g q hq)).keep hkp'
    have hx : KAt s'.heap p.2 p.1 := (hk p (List.mem_of_getElem? hp)).keep hkp'
    show wpAny _ A.in1 (holding [Value.ref p.1] (setAdd S (.ref p.1)) >>= _) _ _ s'
    refine wpAny_bind (wpAny_holding ?_)
    unfold setAdd
    refine wpAny_holding ?_
    refine wpAny_bind ((nestedKind P w).pyHash hu hx ?_)
    refine one_more (s := { s' with toks := s'.toks + p.2.draws }) hS' hx hu (by have := g.len; omega) fun b h' L' es' ep' t' hsb hS2 c1 c2 => ?_
    have g' : Has ks (i + 1) L' := g.step hp (by
      rcases Classical.em (p.2 ∈ L.map Prod.snd) with c | c
      · exact .inl ⟨c, c1 c⟩
      · exact .inr (c2 c))
    have hkp2 : ∀ b o, h0.get? b = some o → h'.get? b = some o := fun b o e => (hsb.2 b (fun z => by rw [z, hS0] at e; cases e)).trans (hkp' b o e)
    refine wpAny_pure ⟨plainId_quiet F.plain_set_update_loop _, ih (i + 1) _ (by omega) hlt (W.frame _ s' _ _ hst' (Nat.le_add_right _ _) fun b hb o e => ?_) hkp2 ⟨L', es', ep', t', hS2, g'⟩ fun s'' L2 es2 ep2 t2 hm'' hS'' g'' hkp'' => ?_⟩
    · rw [hsb.2 b (fun h : b = S => hSf (by rw [← h]; exact hb))]; exact e
    · refine hR s'' L2 es2 ep2 t2 (Moved.trans W.gtrans ((hm.mono more).then_heap (Nat.le_add_right _ _) fun b o hb e => ?_) hm'') hS'' g'' hkp''
      rw [hsb.2 b (fun h : b = S => hb (by rw [h]; exact List.mem_cons_self))]; exact e
set_option maxRecDepth 100000 in
theorem set_of_keysT {l : Addr} {items : Array Value} (ks : List KA) {Q : Value → Shared → Prop} (hh : A.handled = none) (hl : s.heap.IsTuple l items) (hit : items.toList = ks.map fun p => Value.ref p.1)
    (hk : ∀ p ∈ ks, KAt s.heap p.2 p.1) (hfew : ks.length < 63) (hu : A.units + 16 < cLine)
    (h : ∀ (h' : Heap) (tk : Nat) L es ep t, KSet w h' s.heap.objs.size L es ep t → Has ks ks.length L → (∀ b o, s.heap.get? b = some o → h'.get? b = some o) → Q (.ref s.heap.objs.size) { s with heap := h', toks := tk }) :
    wpAny (model P w) A (call (.type "set") [.ref l]) Q E s := by
  have hisz : items.size = ks.length := by
    have q := congrArg List.length hit
    rw [Array.length_toList, List.length_map] at q
    exact q
  obtain ⟨c, tl, hmro⟩ := F.called_set.mro
  have hmade := F.called_set.made
  have hsub := F.called_set.sub
  refine wpAny_call (codeAny_of_tree ?_)
  show wpAny _ _ (callAny (.type "set") _) _ _ _
  refine wpAny_pure ⟨Code.quiet_builtin _ (by decide +kernel), codeAny_builtin F.entry_type_call ?_⟩
  rw [Around.under_plain (weight_type_call_type "set" [.ref l] []) rfl]
  have h1 := F.called_set.notType
  have h2 := F.called_set.canCreate
  have hct := F.typeCall_set_1 (.ref l)
  repeat (any_goals (first | assumption | wp_step))

  refine codeAny_mono (code_set_led1 (.ref l) (E := E) (Q₁ := fun obj s₁ => obj = .ref s.heap.objs.size ∧ s₁ = { s with heap := s.heap.push (setO w) }) ⟨rfl, rfl⟩) fun r s₁ hr => ?_
  cases r with
  | error e => exact hr
  | ok fl =>
    cases fl with
    | ret obj =>
      obtain ⟨rfl, rfl⟩ := hr
      have hS : (s.heap.push (setO w)).get? s.heap.objs.size = some (setO w) := Heap.get?_push_size _ rfl
      have hT : Shared.TypeIs { s with heap := s.heap.push (setO w) } (.ref s.heap.objs.size) "set" := ⟨_, hS, rfl⟩
      have hli := F.called_set.init.lookup
      have hbi := F.called_set.init.bind (.ref s.heap.objs.size)
      repeat (any_goals (first | assumption | wp_step))

      refine codeAny_mono (codeAny_call_builtin (R := wants (fun r s₂ => r = .none ∧ ∃ h' tk L es ep t, s₂ = { s with heap := h', toks := tk } ∧ KSet w h' s.heap.objs.size L es ep t ∧ Has ks ks.length L ∧
          (∀ b o, s.heap.get? b = some o → h'.get? b = some o)) E) F.called_set.init.plain F.entry_set_init (check_set_init_1 hT ?_)) fun r₂ s₂ hr₂ => ?_
      · obtain ⟨ol, hol, hcl, nl, hdl⟩ := hl
        obtain ⟨ocls, odict, odata, oslots⟩ := ol
        simp only at hcl hdl
        subst hcl; subst hdl
        have hol' : (s.heap.push (setO w)).get? l = some { cls := .type "tuple", dict := odict, data := .seq items nl, slots := oslots } := Heap.get?_push_of_some _ hol
        have hsls := F.sub_tuple_set
        have hslf := F.sub_tuple_frozenset
        have hne : (Value.type "tuple" == Value.type "dict") = false := by decide
        have hl1 : (s.heap.push (setO w)).IsTuple l items := ⟨_, hol', rfl, nl, rfl⟩
        unfold Builtin.«set.__init__» noKeywords Builtin.Frozenset.updateFrom
        generalize hPI : pyIter = PI
        wp_walk
        subst hPI

        refine wpAny_pyIter_tuple hl1 ?_
        refine wpAny_bind (wpAny_runValue ?_)
        have hlS : l < s.heap.objs.size := Heap.lt_size hol
        have hh3 : A.in1.in1.in1.handled = none := by simp [hh]
        have hneI : l ≠ (s.heap.push (setO w)).objs.size := by
          rw [Heap.size_push]; exact Nat.ne_of_lt (Nat.lt_succ_of_lt hlS)
        have hSf : s.heap.objs.size ∉ [(s.heap.push (setO w)).objs.size, l] := by
          rw [Heap.size_push]; simp only [List.mem_cons, List.mem_singleton, List.not_mem_nil, or_false, not_or]
          exact ⟨Nat.ne_of_lt (Nat.lt_succ_self _), Nat.ne_of_gt hlS⟩
        have hval : ∀ (i : Nat) (v : Value), items[i]? = some v → ∃ p, ks[i]? = some p ∧ v = .ref p.1 := fun i v hv => by
          rw [← Array.getElem?_toList, hit, List.getElem?_map] at hv
          cases hq : ks[i]? with
          | none => rw [hq] at hv; cases hv
          | some p => rw [hq] at hv; exact ⟨p, rfl, (Option.some.inj hv).symm⟩
        have nothing : ∀ b, s.heap.objs.size ≤ b → s.heap.get? b = none := fun b hb => by
          cases q : s.heap.get? b with
          | none => rfl
          | some o => exact absurd (Nat.lt_of_lt_of_le (Heap.lt_size q) hb) (Nat.lt_irrefl _)
        refine upd_loop ((Walks.tuple hh3 _ l hneI items).toS) s.heap.objs.size
          hSf ks hisz hfew hval s.heap hk (nothing _ (Nat.le_refl _)) (fun b hb => nothing b (by
            rw [List.mem_singleton.mp hb, Heap.size_push]
            exact Nat.le_succ _)) (by show A.units + 1 + 1 + 1 + 8 < cLine; omega) (items.size - 0) 0 _ (by omega) (Nat.zero_le _)
          ⟨⟨_, Heap.get?_push_size _ rfl, rfl, rfl⟩, (hl1.push _)⟩ (fun b o e => Heap.get?_push_of_some _ (Heap.get?_push_of_some _ e)) ?hS0 ?hR
        case hS0 =>
          have hget : ((s.heap.push (setO w)).push { cls := .type "tuple_iterator", data := .fields #[.ref l, .int 0 0] }).get? s.heap.objs.size = some (setO w) := Heap.get?_push_of_some _ hS
          exact ⟨[], #[], 0, _, new_set hget, Has.zero ks⟩
        case hR =>
          intro s' L es ep t hm hS' g' hkp
          obtain ⟨h', g2, d', tk', os'⟩ := s'
          have eg : g2 = s.gens := hm.gens
          have ed : d' = s.drawn := hm.drawn
          have eo : os' = s.os := hm.os
          subst eg; subst ed; subst eo
          show wpAny _ _ _ _ _ _
          refine wpAny_pure ?_
          show wpAny _ _ (ret Value.none) _ _ _
          rw [hisz] at g'
          exact wpAny_pure ⟨rfl, h', tk', L, es, ep, t, rfl, hS', g', hkp⟩

      · cases r₂ with
        | error e => exact hr₂
        | ok fl₂ =>
          cases fl₂ with
          | ret r =>
            obtain ⟨rfl, h', tk, L, es, ep, t, rfl, hS', g', hk'⟩ := hr₂
            repeat (any_goals (first | assumption | wp_step))
            exact h _ _ _ _ _ _ hS' g' hk'
          | _ => exact hr₂.elim
    | _ => exact hr.elim
set_option maxRecDepth 100000 in
theorem set_of_keysL {l : Addr} {items : Array Value} (ks : List KA) {Q : Value → Shared → Prop} (hh : A.handled = none) (hl : s.heap.IsList l items) (hit : items.toList = ks.map fun p => Value.ref p.1)
    (hk : ∀ p ∈ ks, KAt s.heap p.2 p.1) (hfew : ks.length < 63) (hu : A.units + 16 < cLine)
    (h : ∀ (h' : Heap) (tk : Nat) L es ep t, KSet w h' s.heap.objs.size L es ep t → Has ks ks.length L → (∀ b o, s.heap.get? b = some o → h'.get? b = some o) → Q (.ref s.heap.objs.size) { s with heap := h', toks := tk }) :
    wpAny (model P w) A (call (.type "set") [.ref l]) Q E s := by
  have hisz : items.size = ks.length := by
    have q := congrArg List.length hit
    rw [Array.length_toList, List.length_map] at q
    exact q
  obtain ⟨c, tl, hmro⟩ := F.called_set.mro
  have hmade := F.called_set.made
  have hsub := F.called_set.sub
  refine wpAny_call (codeAny_of_tree ?_)
  show wpAny _ _ (callAny (.type "set") _) _ _ _
  refine wpAny_pure ⟨Code.quiet_builtin _ (by decide +kernel), codeAny_builtin F.entry_type_call ?_⟩
  rw [Around.under_plain (weight_type_call_type "set" [.ref l] []) rfl]
  have h1 := F.called_set.notType
  have h2 := F.called_set.canCreate
  have hct := F.typeCall_set_1 (.ref l)
  repeat (any_goals (first | assumption | wp_step))

  refine codeAny_mono (code_set_led1 (.ref l) (E := E) (Q₁ := fun obj s₁ => obj = .ref s.heap.objs.size ∧ s₁ = { s with heap := s.heap.push (setO w) }) ⟨rfl, rfl⟩) fun r s₁ hr => ?_
  cases r with
  | error e => exact hr
  | ok fl =>
    cases fl with
    | ret obj =>
      obtain ⟨rfl, rfl⟩ := hr
      have hS : (s.heap.push (setO w)).get? s.heap.objs.size = some (setO w) := Heap.get?_push_size _ rfl
      have hT : Shared.TypeIs { s with heap := s.heap.push (setO w) } (.ref s.heap.objs.size) "set" := ⟨_, hS, rfl⟩
      have hli := F.called_set.init.lookup
      have hbi := F.called_set.init.bind (.ref s.heap.objs.size)
      repeat (any_goals (first | assumption | wp_step))

      refine codeAny_mono (codeAny_call_builtin (R := wants (fun r s₂ => r = .none ∧ ∃ h' tk L es ep t, s₂ = { s with heap := h', toks := tk } ∧ KSet w h' s.heap.objs.size L es ep t ∧ Has ks ks.length L ∧
          (∀ b o, s.heap.get? b = some o → h'.get? b = some o)) E) F.called_set.init.plain F.entry_set_init (check_set_init_1 hT ?_)) fun r₂ s₂ hr₂ => ?_
      · obtain ⟨ol, hol, hcl, nl, hdl⟩ := hl
        obtain ⟨ocls, odict, odata, oslots⟩ := ol
        simp only at hcl hdl
        subst hcl; subst hdl
        have hol' : (s.heap.push (setO w)).get? l = some { cls := .type "list", dict := odict, data := .seq items nl, slots := oslots } := Heap.get?_push_of_some _ hol
        have hsls := F.sub_list_set
        have hslf := F.sub_list_frozenset
        have hne : (Value.type "list" == Value.type "dict") = false := by decide
        have hl1 : (s.heap.push (setO w)).IsList l items := ⟨_, hol', rfl, nl, rfl⟩
        unfold Builtin.«set.__init__» noKeywords Builtin.Frozenset.updateFrom
        generalize hPI : pyIter = PI
        wp_walk
        subst hPI

        refine wpAny_pyIter_list hl1 ?_
        refine wpAny_bind (wpAny_runValue ?_)
        have hlS : l < s.heap.objs.size := Heap.lt_size hol
        have hh3 : A.in1.in1.in1.handled = none := by simp [hh]
        have hneI : l ≠ (s.heap.push (setO w)).objs.size := by
          rw [Heap.size_push]; exact Nat.ne_of_lt (Nat.lt_succ_of_lt hlS)
        have hSf : s.heap.objs.size ∉ [(s.heap.push (setO w)).objs.size, l] := by
          rw [Heap.size_push]; simp only [List.mem_cons, List.mem_singleton, List.not_mem_nil, or_false, not_or]
          exact ⟨Nat.ne_of_lt (Nat.lt_succ_self _), Nat.ne_of_gt hlS⟩
        have hval : ∀ (i : Nat) (v : Value), items[i]? = some v → ∃ p, ks[i]? = some p ∧ v = .ref p.1 := fun i v hv => by
          rw [← Array.getElem?_toList, hit, List.getElem?_map] at hv
          cases hq : ks[i]? with
          | none => rw [hq] at hv; cases hv
          | some p => rw [hq] at hv; exact ⟨p, rfl, (Option.some.inj hv).symm⟩
        have nothing : ∀ b, s.heap.objs.size ≤ b → s.heap.get? b = none := fun b hb => by
          cases q : s.heap.get? b with
          | none => rfl
          | some o => exact absurd (Nat.lt_of_lt_of_le (Heap.lt_size q) hb) (Nat.lt_irrefl _)
        refine upd_loop ((Walks.list hh3 _ l hneI items).toS) s.heap.objs.size
          hSf ks hisz hfew hval s.heap hk (nothing _ (Nat.le_refl _)) (fun b hb => nothing b (by
            rw [List.mem_singleton.mp hb, Heap.size_push]
            exact Nat.le_succ _)) (by show A.units + 1 + 1 + 1 + 8 < cLine; omega) (items.size - 0) 0 _ (by omega) (Nat.zero_le _)
          ⟨⟨_, Heap.get?_push_size _ rfl, rfl, rfl⟩, (hl1.push _)⟩ (fun b o e => Heap.get?_push_of_some _ (Heap.get?_push_of_some _ e)) ?hS0 ?hR
        case hS0 =>
          have hget : ((s.heap.push (setO w)).push { cls := .type "list_iterator", data := .fields #[.ref l, .int 0 0] }).get? s.heap.objs.size = some (setO w) := Heap.get?_push_of_some _ hS
          exact ⟨[], #[], 0, _, new_set hget, Has.zero ks⟩
        case hR =>
          intro s' L es ep t hm hS' g' hkp
          obtain ⟨h', g2, d', tk', os'⟩ := s'
          have eg : g2 = s.gens := hm.gens
          have ed : d' = s.drawn := hm.drawn
          have eo : os' = s.os := hm.os
          subst eg; subst ed; subst eo
          show wpAny _ _ _ _ _ _
          refine wpAny_pure ?_
          show wpAny _ _ (ret Value.none) _ _ _
          rw [hisz] at g'
          exact wpAny_pure ⟨rfl, h', tk', L, es, ep, t, rfl, hS', g', hkp⟩

      · cases r₂ with
        | error e => exact hr₂
        | ok fl₂ =>
          cases fl₂ with
          | ret r =>
            obtain ⟨rfl, h', tk, L, es, ep, t, rfl, hS', g', hk'⟩ := hr₂
            repeat (any_goals (first | assumption | wp_step))
            exact h _ _ _ _ _ _ hS' g' hk'
          | _ => exact hr₂.elim
    | _ => exact hr.elim
theorem set_of_keys {l : Addr} {items : Array Value} (ks : List KA) {Q : Value → Shared → Prop} (hh : A.handled = none) (hl : s.heap.IsList l items ∨ s.heap.IsTuple l items) (hit : items.toList = ks.map fun p => Value.ref p.1)
    (hk : ∀ p ∈ ks, KAt s.heap p.2 p.1) (hfew : ks.length < 63) (hu : A.units + 16 < cLine)
    (h : ∀ (h' : Heap) (tk : Nat) L es ep t, KSet w h' s.heap.objs.size L es ep t → Has ks ks.length L → (∀ b o, s.heap.get? b = some o → h'.get? b = some o) → Q (.ref s.heap.objs.size) { s with heap := h', toks := tk }) :
    wpAny (model P w) A (call (.type "set") [.ref l]) Q E s := by
  rcases hl with hl | hl
  · exact set_of_keysL ks hh hl hit hk hfew hu h
  · exact set_of_keysT ks hh hl hit hk hfew hu h
end
end PL
end

section
set_option Elab.async false
set_option linter.all false
set_option maxRecDepth 100000
set_option maxHeartbeats 4000000
/-! PLJ8: sorted(set(xs)), of ints, of tuples. -/
namespace PL
open PySem PySem.Spec PyProof.Rows L2
mutual
/-- data as a key -/
def nkD : D → NestedKey
  | .int i => .num i
  | .str x => .text x
  | .tuple xs => .tup (nkDs xs)
  | _ => .none
def nkDs : List D → List NestedKey
  | [] => []
  | x :: r => nkD x :: nkDs r
end
mutual
theorem nkD_inj : ∀ {x y : D}, hashOk x = true → hashOk y = true → nkD x = nkD y → x = y
  | .int i, .int j, _, _, h => by simp only [nkD, NestedKey.num.injEq] at h; rw [h]
  | .str i, .str j, _, _, h => by simp only [nkD, NestedKey.text.injEq] at h; rw [h]
  | .tuple xs, .tuple ys, h1, h2, h => by
    simp only [nkD, NestedKey.tup.injEq] at h
    simp only [hashOk] at h1 h2
    rw [nkDs_inj h1 h2 h]
  | .int i, .str j, _, _, h => by simp [nkD] at h
  | .int i, .tuple j, _, _, h => by simp [nkD] at h
  | .str i, .int j, _, _, h => by simp [nkD] at h
  | .str i, .tuple j, _, _, h => by simp [nkD] at h
  | .tuple i, .int j, _, _, h => by simp [nkD] at h
  | .tuple i, .str j, _, _, h => by simp [nkD] at h
  | .none, _, h, _, _ => by simp [hashOk] at h
  | .bool _, _, h, _, _ => by simp [hashOk] at h
  | .list _, _, h, _, _ => by simp [hashOk] at h
  | .dict _, _, h, _, _ => by simp [hashOk] at h
  | _, .none, _, h, _ => by simp [hashOk] at h
  | _, .bool _, _, h, _ => by simp [hashOk] at h
  | _, .list _, _, h, _ => by simp [hashOk] at h
  | _, .dict _, _, h, _ => by simp [hashOk] at h
theorem nkDs_inj : ∀ {xs ys : List D}, hashOks xs = true → hashOks ys = true → nkDs xs = nkDs ys → xs = ys
  | [], [], _, _, _ => rfl
  | [], _ :: _, _, _, h => by simp [nkDs] at h
  | _ :: _, [], _, _, h => by simp [nkDs] at h
  | x :: xs, y :: ys, h1, h2, h => by
    simp only [nkDs, List.cons.injEq] at h
    simp only [hashOks, Bool.and_eq_true] at h1 h2
    rw [nkD_inj h1.1 h2.1 h.1, nkDs_inj h1.2 h2.2 h.2]
end
mutual
theorem nk_depth : ∀ {x : D}, hashOk x = true → (nkD x).depth = x.depth
  | .int _, _ => rfl
  | .str _, _ => rfl
  | .tuple xs, h => by
    simp only [hashOk] at h
    simp only [nkD, NestedKey.depth, PyData.depth, nks_depth h]
  | .none, h => by simp [hashOk] at h
  | .bool _, h => by simp [hashOk] at h
  | .list _, h => by simp [hashOk] at h
  | .dict _, h => by simp [hashOk] at h
theorem nks_depth : ∀ {xs : List D}, hashOks xs = true → NestedKey.depthAll (nkDs xs) = PyData.depthAll xs
  | [], _ => rfl
  | x :: xs, h => by
    simp only [hashOks, Bool.and_eq_true] at h
    simp only [nkDs, NestedKey.depthAll, PyData.depthAll, nk_depth h.1, nks_depth h.2]
end
mutual
theorem nk_reads {h : Heap} : ∀ {v : Value} {d : D} {as : List Addr}, Reads h v d as → hashOk d = true → NestedIs h (nkD d) v
  | _, _, _, .int i t, _ => .int i t
  | _, _, _, .str x t, _ => .text x t
  | _, _, _, .tuple (xs := xs) ho hc hd r, hh => by
    simp only [hashOk] at hh
    exact .tup ho hc hd (nks_reads r hh)
  | _, _, _, .none, hh => by simp [hashOk] at hh
  | _, _, _, .bool _, hh => by simp [hashOk] at hh
  | _, _, _, .list _ _ _ _, hh => by simp [hashOk] at hh
  | _, _, _, .dict _ _ _ _ _, hh => by simp [hashOk] at hh
theorem nks_reads {h : Heap} : ∀ {vs : List Value} {ds : List D} {as : List Addr}, ReadsAll h vs ds as → hashOks ds = true → NestedAll h (nkDs ds) vs
  | _, _, _, .nil, _ => .nil
  | _, _, _, .cons r t, hh => by
    simp only [hashOks, Bool.and_eq_true] at hh
    exact .cons (nk_reads r hh.1) (nks_reads t hh.2)
end
mutual
theorem eqv_hash : ∀ {x y : D}, hashOk x = true → hashOk y = true → (PyData.eqv x y = true ↔ x = y)
  | .int i, .int j, _, _ => by simp [PyData.eqv]
  | .str i, .str j, _, _ => by simp [PyData.eqv]
  | .tuple xs, .tuple ys, h1, h2 => by
    simp only [hashOk] at h1 h2
    simp only [PyData.eqv, eqvs_hash h1 h2, PyData.tuple.injEq]
  | .int i, .str j, _, _ => by simp [PyData.eqv]
  | .int i, .tuple j, _, _ => by simp [PyData.eqv]
  | .str i, .int j, _, _ => by simp [PyData.eqv]
  | .str i, .tuple j, _, _ => by simp [PyData.eqv]
  | .tuple i, .int j, _, _ => by simp [PyData.eqv]
  | .tuple i, .str j, _, _ => by simp [PyData.eqv]
  | .none, _, h, _ => by simp [hashOk] at h
  | .bool _, _, h, _ => by simp [hashOk] at h
  | .list _, _, h, _ => by simp [hashOk] at h
  | .dict _, _, h, _ => by simp [hashOk] at h
  | _, .none, _, h => by simp [hashOk] at h
  | _, .bool _, _, h => by simp [hashOk] at h
  | _, .list _, _, h => by simp [hashOk] at h
  | _, .dict _, _, h => by simp [hashOk] at h
theorem eqvs_hash : ∀ {xs ys : List D}, hashOks xs = true → hashOks ys = true → (PyData.eqvAll xs ys = true ↔ xs = ys)
  | [], [], _, _ => by simp [PyData.eqvAll]
  | [], _ :: _, _, _ => by simp [PyData.eqvAll]
  | _ :: _, [], _, _ => by simp [PyData.eqvAll]
  | x :: xs, y :: ys, h1, h2 => by
    simp only [hashOks, Bool.and_eq_true] at h1 h2
    simp only [PyData.eqvAll, Bool.and_eq_true, eqv_hash h1.1 h2.1, eqvs_hash h1.2 h2.2, List.cons.injEq]
end
theorem ded_sub : ∀ {xs : List D} {y : D}, y ∈ dedD xs → y ∈ xs
  | x :: xs, y, h => by
    unfold dedD at h
    rcases List.mem_cons.mp h with e | m
    · rw [e]; exact List.mem_cons_self
    · exact List.mem_cons_of_mem _ (ded_sub (List.mem_filter.mp m).1)
theorem ded_mem : ∀ {xs : List D} {y : D}, (∀ x ∈ xs, hashOk x = true) → y ∈ xs → y ∈ dedD xs
  | x :: xs, y, ho, h => by
    unfold dedD
    by_cases e : y = x
    · rw [e]; exact List.mem_cons_self
    · have m := (List.mem_cons.mp h).resolve_left e
      refine List.mem_cons_of_mem _ (List.mem_filter.mpr ⟨ded_mem (fun z hz => ho z (List.mem_cons_of_mem _ hz)) m, ?_⟩)
      have hn : ¬ PyData.eqv y x = true := fun q => e ((eqv_hash (ho y (List.mem_cons_of_mem _ m)) (ho x List.mem_cons_self)).mp q)
      simpa using hn
theorem ded_nodup : ∀ {xs : List D}, (∀ x ∈ xs, hashOk x = true) → (dedD xs).Nodup
  | [], _ => List.nodup_nil
  | x :: xs, ho => by
    unfold dedD
    refine List.nodup_cons.mpr ⟨fun m => ?_, (ded_nodup fun z hz => ho z (List.mem_cons_of_mem _ hz)).filter _⟩
    have q := (List.mem_filter.mp m).2
    have q2 := (eqv_hash (ho x List.mem_cons_self) (ho x List.mem_cons_self)).mpr rfl
    rw [q2] at q
    cases q
section
variable {prog : Program} {w : World} {A : Around} {E : Value → Shared → Prop} {s : Shared}
theorem sorted_kset {a : Addr} {L : List KA} {es : Array (Int × Value)} {ep : Nat} {t : SetTable} {ltv : Value → Value → Bool} {Q : Value → Shared → Prop} (R : KSet w s.heap a L es ep t) (hh : A.handled = none) (O : SrtO.Swo ltv)
    (hS : ∀ (vs : List Value) (s1 : Shared) (h1 : Heap) (b : Addr), vs.Perm (L.map fun p => Value.ref p.1) → 2 ≤ vs.length → (∀ c o, s.heap.get? c = some o → h1.get? c = some o ∧ c ≠ b) → SrtO.SortableO prog w A.in1.in1 { s1 with heap := h1 } b vs ltv)
    (h : ∀ s' p (out : List Value) (c : Nat), (∀ b o, s.heap.get? b = some o → s'.heap.get? b = some o) → s'.gens = s.gens → s'.os = s.os → s.heap.objs.size ≤ p → s'.heap.get? p = some (seqObj "list" out.toArray c) →
      SrtO.Srtd ltv out → out.Perm (L.map fun p => Value.ref p.1) → Q (.ref p) s') :
    wpAny (model prog w) A (call (.builtin "sorted") [.ref a]) Q E s := by
  obtain ⟨o, ho, hex, hd⟩ := R.ob
  have hsz := R.size
  have hfew := R.few
  refine Calls.call_function_entry kind_sorted plain_sorted entry_sorted (args_sorted1 _) ?_
  unfold Builtin.«sorted»
  refine wpAny_bind (m := checkCount "sorted" 1 1 _) (wpAny_pure ?_)
  refine wpAny_bind (collect_set (A := A.in1) hh ⟨o, ho, hex.1, hd⟩ R.fits (by unfold scanBound; omega) R.tab.ris R.led fun s1 vs k1 hz g1 o1 pm => ?_)
  have hes : es.toList.map (·.2) = L.map fun q => Value.ref q.1 := by
    rw [R.rows, kRows, List.map_map]
    rfl
  rw [hes] at pm
  have hvl : vs.length < 64 := by rw [pm.length_eq, List.length_map]; exact hfew
  refine wpAny_bind (wpAny_newList ?_ (by rw [sizeLine_eq]; omega))
  have hoL : (s1.heap.push (seqObj "list" vs.toArray 0)).get? s1.heap.objs.size = some (seqObj "list" vs.toArray 0) := Heap.get?_push_size _ rfl
  have kp : ∀ b o, s.heap.get? b = some o → (s1.heap.push (seqObj "list" vs.toArray 0)).get? b = some o ∧ b ≠ s1.heap.objs.size := fun b o e => ⟨Heap.get?_push_of_some _ (k1 b o e), Nat.ne_of_lt (Heap.lt_size (k1 b o e))⟩
  refine wpAny_bind (wpAny_holding (wpAny_call_entry slot_list_sort ⟨_, hoL, rfl⟩ entry_list_sort
    (SrtO.list_sort_ord O hoL (by rw [sizeLine_eq]; omega) (fun h2 => hS vs _ _ _ pm h2 kp) fun out hs hb => ⟨_, rfl, ?_⟩) (args_list_sort _)))
  obtain ⟨c, hc'⟩ := sortedHeap_at (vs := vs) (out := out.toArray) hoL
  refine wpAny_pure ⟨_, rfl, h _ _ out c (fun b u e => ?_) g1 o1 hz hc' hs (hb.perm.trans pm)⟩
  have e1 := k1 b u e
  have hlt := Heap.lt_size e1
  show (sortedHeap (s1.heap.push (seqObj "list" vs.toArray 0)) s1.heap.objs.size vs out.toArray).get? b = some u
  rw [sortedHeap_old (Nat.ne_of_lt hlt) (by rw [size_push']; exact Nat.lt_succ_of_lt hlt)]
  exact Heap.get?_push_of_some _ e1
end
def adV : Value → Addr
  | .ref a => a
  | _ => 0
section
variable {P : Pg} {Γ : Ga} {X : Cx} {G : Calls} {Z : ZX} {n : Nat}
theorem sset_keys {M1 : Ma} {H1 : Hp} {S1 : Sto} {d : D} {x : V} {v : Value} {s1 : Shared} {σ : L2.St} {pins : List (Addr × Obj)} {Q : VK} {ys zs : List D} (F : Fit P Γ X) (hh : Γ.hot = false) (hg : Gl X "sorted") (hm : X.mg "sorted" = none) (hs0 : seqD S1 d = some zs)
    (I1 : L2.Inv X pins σ H1 s1) (em1 : P.Emb M1 H1 S1) (rd : Rv M1 H1 d x) (r1 : RelV x v) (ho : sortedSetT d = some ys) (hl : ys.length ≤ lim) (hk : ∀ M' H' p vs, Ext M1 H1 M' H' → P.Emb M' H' S1 → Rvs M' H' ys vs → H' p = none → Q (.ref p) (upd H' p (.lst vs))) :
    wpAny (model X.prog X.w) X.A (call (.type "set") [v]) (fun r s2 => wpAny (model X.prog X.w) X.A (call (.builtin "sorted") [r]) (EP X pins σ Q) X.xe s2) X.xe s1 := by
  obtain ⟨c, rfl⟩ : (sortOk zs ∧ zs.all hashOk = true ∧ zs.length < 63 ∧ ∀ d ∈ zs, d.depth ≤ 8) ∧ ys = sortD (dedD zs) := by
    unfold sortedSetT at ho
    cases d with
    | tuple xs =>
      rw [seqD_tuple] at hs0
      cases hs0
      simp only at ho
      split at ho
      · rename_i c
        cases ho
        exact ⟨c, rfl⟩
      · cases ho
    | list xs =>
      rw [seqD_list] at hs0
      cases hs0
      simp only at ho
      split at ho
      · rename_i c
        cases ho
        exact ⟨c, rfl⟩
      · cases ho
    | _ => cases ho
  obtain ⟨⟨c1, rk, c2, c3⟩, c4, c5, c6⟩ := c
  rw [List.all_eq_true] at c4
  have hun := F.units
  obtain ⟨a, vs, rfl, h1, q1⟩ := em1.seq hs0 rd
  cases r1
  obtain ⟨its, rv, pl, hz⟩ : ∃ its, Vals vs its ∧ (s1.heap.IsList a its.toArray ∨ s1.heap.IsTuple a its.toArray) ∧ True := by
    rcases h1 with h1 | h1
    · obtain ⟨its, rv, pl, hz⟩ := I1.list (SqL.of h1)
      exact ⟨its, rv, .inl pl.isList, trivial⟩
    · obtain ⟨its, rv, pl, hz⟩ := I1.tuple h1.sq
      exact ⟨its, rv, .inr pl, trivial⟩
  have rdd : ∀ d v u, d ∈ zs → Rv M1 H1 d v → RelV v u → ∃ as, Reads s1.heap u d as := fun d v u hd r1 r2 => by
    have pp := (eqOk_dec (c1 d hd).2).1
    exact Dp.reads I1 d v u (r1.dp (K := X.K) pp) r2
  have dd : ∀ d v u, d ∈ zs → Rv M1 H1 d v → RelV v u → dOf s1.heap u = d := fun d v u hd r1 r2 => by
    obtain ⟨as, q⟩ := rdd d v u hd r1 r2
    exact dOf_eq q (eqOk_dec (c1 d hd).2).1
  have it : ∀ u ∈ its, dOf s1.heap u ∈ zs ∧ (∃ as, Reads s1.heap u (dOf s1.heap u) as) ∧ Rv M1 H1 (dOf s1.heap u) (backV u) ∧ u = Value.ref (adV u) := fun u hu => by
    obtain ⟨d, hd, v, hv, r1, r2⟩ := q1.mem_v rv u hu
    have e1 := dd d v u hd r1 r2
    obtain ⟨as, q⟩ := rdd d v u hd r1 r2
    obtain ⟨p1, p2⟩ := c1 d hd
    rw [e1]
    unfold tupI at p1
    split at p1
    · obtain ⟨t, vs, rfl, g1, g2, g3⟩ := r1.tupI
      cases r2
      exact ⟨hd, ⟨as, q⟩, r1, rfl⟩
    · cases p1
  have em2 : its.map (dOf s1.heap) = zs := Rvs.map_d (h0 := s1.heap) q1 rv dd
  have hlen : its.length = zs.length := by rw [← em2, List.length_map]
  obtain ⟨ks, eks⟩ : ∃ ks : List KA, ks = its.map fun u => (adV u, nkD (dOf s1.heap u)) := ⟨_, rfl⟩
  have hit : its.toArray.toList = ks.map fun p => Value.ref p.1 := by
    rw [eks, List.map_map]
    refine (List.map_id _).symm.trans (List.map_congr_left fun u hu => ?_)
    exact (it u (by simpa using hu)).2.2.2
  have kat : ∀ p ∈ ks, KAt s1.heap p.2 p.1 := fun p hp => by
    rw [eks] at hp
    obtain ⟨u, hu, rfl⟩ := List.mem_map.mp hp
    obtain ⟨i1, ⟨as, i2⟩, _, i4⟩ := it u hu
    have hk := c4 _ i1
    refine ⟨?_, ?_⟩
    · show NestedIs s1.heap (nkD (dOf s1.heap u)) (.ref (adV u))
      rw [← i4]
      exact nk_reads i2 hk
    · show (nkD (dOf s1.heap u)).depth ≤ 8
      rw [nk_depth hk]
      exact c6 _ i1
  refine set_of_keys ks (I1.ok.hd (F.calm hh)) pl hit kat (by rw [eks, List.length_map]; omega) (by omega) fun h' tk L es ep t R has hk2 => ?_
  have inn : ∀ p ∈ L, ∃ u ∈ its, p = (adV u, nkD (dOf s1.heap u)) := fun p hp => by
    have m := List.mem_of_mem_take (has.sub p hp)
    rw [eks] at m
    obtain ⟨u, hu, e⟩ := List.mem_map.mp m
    exact ⟨u, hu, e.symm⟩
  have ofL : ∀ u, u ∈ L.map (fun p => Value.ref p.1) → u ∈ its := fun u hu => by
    obtain ⟨p, hp, rfl⟩ := List.mem_map.mp hu
    obtain ⟨u', hu', rfl⟩ := inn p hp
    show Value.ref (adV u') ∈ its
    rw [← (it u' hu').2.2.2]
    exact hu'
  have I2 : L2.Inv X pins σ H1 { s1 with heap := h', toks := tk } := I1.kept hk2
  refine sorted_kset (s := { s1 with heap := h', toks := tk }) (ltv := fun v u => decide (rk (dOf s1.heap v) < rk (dOf s1.heap u))) R (I2.ok.hd (F.calm hh)) (swo_rank fun v => rk (dOf s1.heap v)) (fun vs s2 h1 b pm h2 kp => ?_) fun s' l out cc kp g o hp hob hs pm => ?_
  · have mm : ∀ v ∈ vs, v ∈ its := fun v hv => ofL v (pm.mem_iff.mp hv)
    exact sortable_d (s := { s2 with heap := h1 }) (h0 := s1.heap) h2 (by show X.A.units + 1 + 1 + 60 < cLine; omega) (fun b o e => kp b o (hk2 b o e)) (fun v hv => by
      obtain ⟨i1, ⟨as, i2⟩, _, _⟩ := it v (mm v hv)
      obtain ⟨p1, p2⟩ := c1 _ i1
      exact ⟨_, as, i2, p1, p2⟩) fun v hv u hu => c2 _ (it v (mm v hv)).1 _ (it u (mm u hu)).1
  · have mm : ∀ u ∈ out, u ∈ its := fun u hu => ofL u (pm.mem_iff.mp hu)
    have hz2 : ∀ x ∈ dedD zs, x ∈ zs := fun x hx => ded_sub hx
    have keyL : (L.map fun p => Value.ref p.1).map (fun u => nkD (dOf s1.heap u)) = L.map Prod.snd := by
      rw [List.map_map]
      refine List.map_congr_left fun p hp => ?_
      obtain ⟨u, hu, rfl⟩ := inn p hp
      show nkD (dOf s1.heap (.ref (adV u))) = nkD (dOf s1.heap u)
      rw [← (it u hu).2.2.2]
    have nd : (out.map (dOf s1.heap)).Nodup := by
      have q := (pm.map fun u => nkD (dOf s1.heap u)).nodup_iff.mpr (by rw [keyL]; exact R.nd)
      have q2 : ((out.map (dOf s1.heap)).map nkD).Nodup := by rw [List.map_map]; exact q
      exact List.Pairwise.of_map nkD (fun _ _ hne e => hne (congrArg nkD e)) q2
    have pm2 : (out.map (dOf s1.heap)).Perm (dedD zs) := by
      refine (List.perm_ext_iff_of_nodup nd (ded_nodup c4)).mpr fun d => ⟨fun hd => ?_, fun hd => ?_⟩
      · obtain ⟨u, hu, rfl⟩ := List.mem_map.mp hd
        exact ded_mem c4 (it u (mm u hu)).1
      · have hdz := ded_sub hd
        have hdi : d ∈ its.map (dOf s1.heap) := by rw [em2]; exact hdz
        obtain ⟨u, hu, rfl⟩ := List.mem_map.mp hdi
        have hkm : (adV u, nkD (dOf s1.heap u)) ∈ ks.take ks.length := by
          rw [List.take_length, eks]
          exact List.mem_map.mpr ⟨u, hu, rfl⟩
        obtain ⟨p, hp, e⟩ := List.mem_map.mp (has.all _ hkm)
        obtain ⟨u', hu', rfl⟩ := inn p hp
        have e2 : dOf s1.heap u' = dOf s1.heap u := nkD_inj (c4 _ (it u' hu').1) (c4 _ (it u hu).1) e
        rw [← e2]
        refine List.mem_map.mpr ⟨u', pm.mem_iff.mpr ?_, rfl⟩
        rw [(it u' hu').2.2.2]
        exact List.mem_map.mpr ⟨_, hp, rfl⟩
    have eo : out.map (dOf s1.heap) = sortD (dedD zs) := by
      refine sortD_of (rk := rk) (fun x hx y hy => c2 x (hz2 x hx) y (hz2 y hy)) (fun x hx y hy => c3 x (hz2 x hx) y (hz2 y hy)) pm2 ?_
      rw [List.pairwise_map]
      exact hs.imp fun q => by simpa using q
    have hlo : out.length ≤ sizeLine := by
      have := congrArg List.length eo
      rw [List.length_map] at this
      rw [this, ← lim_eq]
      exact hl
    have rr : Rvs M1 H1 (sortD (dedD zs)) (out.map backV) := by
      rw [← eo]
      exact Rvs.of_map fun u hu => (it u (mm u hu)).2.2.1
    have hn : H1 l = none := I2.hok.fresh hp
    have J : L2.Inv X pins σ (upd H1 l (.lst (out.map backV))) { ({ s1 with heap := h', toks := tk } : Shared) with heap := s'.heap, gens := s'.gens, drawn := s'.drawn, toks := s'.toks } :=
      I2.call (ch := []) (Un.laid kp hp hn) (I2.hok.laid kp hp ⟨by rw [List.length_map]; exact hlo, out, cc, vals_back fun u hu => ⟨_, (it u (mm u hu)).2.2.2⟩, hob⟩) (by rw [g]; exact I2.bare) (fun _ z => nomatch z)
    have es' : s' = { ({ s1 with heap := h', toks := tk } : Shared) with heap := s'.heap, gens := s'.gens, drawn := s'.drawn, toks := s'.toks } := by
      cases s'
      cases s1
      cases o
      rfl
    rw [es']
    exact ⟨.ref l, _, J, rfl, hk M1 H1 l _ Ext.refl em1 rr hn⟩
theorem pe_ssetM (F : Fit P Γ X) (hh : Γ.hot = false) {m : E} {b : Bool} {e : Expr} {p p2 pos pos2 : Pos} (hg : Gl X "sorted") (hm : X.mg "sorted" = none) (hg2 : Gl X "set") (hm2 : X.mg "set" = none) (he : PE X e (tE P G Z m)) (hs : isStar e = false) :
    PE X (.Call (.Name "sorted" p) [.Call (.Name "set" p2) [e] [] pos2] [] pos) (tE P G Z (.sset b m)) := by
  refine ⟨fun pins s σ H Q I ⟨M, S, ρ, em, rn, q⟩ => ?_⟩
  simp only [ev] at q
  refine Call_ (ld_blt I hg hm boot_sorted ?_)
  refine PyProof.Rows.callWith_builtin1 (PyProof.Rows.args_cons ?_ rfl) rfl rfl
  refine Call_ (ld_blt I hg2 hm2 boot_set ?_)
  refine PyProof.Rows.callWith_type1 (PyProof.Rows.args_cons (thn (he.run pins s σ H _ I ⟨M, S, ρ, em, rn, Res.bind q⟩) fun v s1 ⟨x, H1, I1, r1, M1, S1, d, e1, em1, rd, k⟩ => PyProof.Rows.args_nil ?_) (starEach_cons hs)) (starEach_cons hs) rfl
  obtain ⟨ys, ho, hk⟩ := Res.allo k
  obtain ⟨hl, hk⟩ := Res.alloc hk
  unfold sortedSetD at ho
  cases e2 : seqD S1 d with
  | none =>
    have et : sortedSetT d = none := by
      cases d with
      | tuple xs => simp at e2
      | list xs => simp at e2
      | _ => rfl
    simp [e2, et] at ho
  | some zs =>
    cases e3 : intsOf zs with
    | none =>
      simp only [e2, e3, Option.bind_some] at ho
      exact wpAny_mono (sset_keys F hh hg hm e2 I1 em1 rd r1 ho hl hk) (fun r s2 hq => PyProof.Rows.args_nil hq) fun _ _ x => x
    | some ns =>
      simp only [e2, e3, Option.bind_some] at ho
      obtain ⟨c, ho⟩ := ifn ho
      cases ho
      obtain ⟨a, vs, rfl, h1, q1⟩ := em1.seq e2 rd
      have hvs := q1.ints e3
      subst hvs
      cases r1
      have fin : ∀ (h' : Heap) (tk cc : Nat), SetR X.w h' s1.heap.objs.size (fun j => decide (j ∈ ns)) cc → cc ≤ ns.length → (∀ b o, s1.heap.get? b = some o → h'.get? b = some o) →
          wpAny (model X.prog X.w) X.A (call (.builtin "sorted") [.ref s1.heap.objs.size]) (EP X pins σ Q) X.xe { s1 with heap := h', toks := tk } := fun h' tk cc R hcc hk2 => by
        have I2 : L2.Inv X pins σ H1 { s1 with heap := h', toks := tk } := I1.kept hk2
        refine sorted_set (s := { s1 with heap := h', toks := tk }) R (I2.ok.hd (F.calm hh)) (by omega) fun s' l out c' ms kp g o hp hg' hi hsr hm' hl' => ?_
        have hms : ms = isort ns.eraseDups := strict_of hsr fun k => by rw [hm' k]; simp
        have hlen : (ms.map V.int).length ≤ sizeLine := by rw [List.length_map, hl', sizeLine_eq]; omega
        have hn : H1 l = none := I2.hok.fresh hp
        have J : L2.Inv X pins σ (upd H1 l (.lst (ms.map V.int))) { ({ s1 with heap := h', toks := tk } : Shared) with heap := s'.heap, gens := s'.gens, drawn := s'.drawn, toks := s'.toks } :=
          I2.call (ch := []) (Un.laid kp hp hn) (I2.hok.laid kp hp ⟨hlen, out.toList, c', vals_of_ints hi, hg'⟩) (by rw [g]; exact I2.bare) (fun _ z => nomatch z)
        have es : s' = { ({ s1 with heap := h', toks := tk } : Shared) with heap := s'.heap, gens := s'.gens, drawn := s'.drawn, toks := s'.toks } := by
          cases s'
          cases s1
          cases o
          rfl
        rw [es]
        refine ⟨.ref l, _, J, rfl, ?_⟩
        rw [hms]
        exact hk M1 H1 l _ Ext.refl em1 (Rvs.ofInts _) (by exact hn)
      rcases h1 with h1 | h1
      · obtain ⟨its, r, pl, hz⟩ := I1.list (SqL.of h1)
        refine set_of_ints ns (I1.ok.hd (F.calm hh)) pl.isList (by simpa using r.ints) (by unfold scanBound; omega) fun h' tk cc R hcc hk2 => ?_
        exact PyProof.Rows.args_nil (fin h' tk cc R hcc hk2)
      · obtain ⟨its, r, pl, hz⟩ := I1.tuple h1.sq
        refine set_of_intsT ns (I1.ok.hd (F.calm hh)) pl (by simpa using r.ints) (by unfold scanBound; omega) fun h' tk cc R hcc hk2 => ?_
        exact PyProof.Rows.args_nil (fin h' tk cc R hcc hk2)
end
end PL
end

section
set_option Elab.async false
set_option linter.all false
set_option maxRecDepth 100000
set_option maxHeartbeats 1000000
/-! PLX: own objects: methods, new ones, attributes as targets. -/
namespace PL
open PySem PySem.Spec PyProof.Rows L2
section
variable {X : Cx} {k : Nat} {f C : Addr} {fd : FuncData} {ps : List Str} {sp : Sp} {E : XK} {x m : Str} {p pos apos : Pos} {o e : Expr} {es : List Expr} {ta : TE} {t : TA} {ds : List Value} {dvs : List V}
theorem run_fnGD {pins : List (Addr × Obj)} {σ : L2.St} {H : Hp} {s : Shared} {Q : VK} {us : List Value} {vs : List V} (F : FnG X.prog X.w X.K X.mg X.base k f fd ps sp) (hr : Room k X.A) (hg : X.A.guards = some []) (hb : Binds X.K fd ps ds) (hd : Vals dvs ds) (hx : Passes (L2N.CX X.prog X.w) X E)
    (I : L2.Inv X pins σ H s) (r : Vals vs us) (h : sp (vs ++ dvs) H Q E) : wpAny (model X.prog X.w) X.A (call (.ref f) us) (EP X pins σ Q) X.xe s := by
  have r2 : Vals (vs ++ dvs) (us ++ ds) := r.append hd
  have hl : (us ++ ds).length = ps.length := by rw [← r2.length]; exact F.len _ _ _ _ h
  refine wpAny_call (codeAny_mono (F.run X.A X.stack s H ⟨us, []⟩ (us ++ ds) (vs ++ dvs) Q E hr hg I.env0 (hb s us I.kIn hl) r2 h) fun r s' hq => ?_)
  cases r with
  | error e => exact hx pins σ H s e s' I hq
  | ok fl =>
    cases fl with
    | ret u => exact I.after hq
    | next => exact False.elim hq
    | brk => exact False.elim hq
    | cont => exact False.elim hq
theorem meth_tree (hb : attributeBase o m X.env (eval o X.env) = eval o X.env) (hline : (apos.endLine == pos.line) = true) (hst : es.all (fun e => !isStar e) = true) (hl : es.length < 30) :
    eval (.Call (.Attribute o m apos) es [] pos) X.env = (do
      let ov ← eval o X.env
      standAt apos.atName
      let (f, first) ← holding [ov] (getMethod ov m (plainOf o X.env))
      callWith pos f first (backTo pos (starEach es X.env)) (backToKw pos (keywordEach [] X.env))) := by
  refine mcall_of hb fun ov => mcall_line ?_ hline
  show ((backTo pos (starEach es X.env)).all (fun x => !x.1) && (backToKw pos (keywordEach [] X.env)).all (fun x => x.1.isSome) && decide (es.length + ([] : List Keyword).length + (if ([] : List Keyword).isEmpty then 0 else 1) < 30)) = true
  rw [star_all hst]
  simp only [Bool.true_and, Bool.and_eq_true, decide_eq_true_eq]
  exact ⟨rfl, by simpa using hl⟩
theorem pe_methG (he : PE X o ta) (c : Cls X.K C) (hm : Meth X.K C m f) (F : FnG X.prog X.w X.K X.mg X.base k f fd ps sp) (hr : Room k X.A) (hg : X.A.guards = some []) (hb : Binds X.K fd ps ds) (hd : Vals dvs ds) (hx : Passes (L2N.CX X.prog X.w) X E)
    (ha : PA X es t) (hnil : es = [] → ∀ σ H (Q : List V → Hp → Prop), t σ H Q → Q [] H) (hs : es.all (fun e => !isStar e) = true) (hab : attributeBase o m X.env (eval o X.env) = eval o X.env) (hline : (apos.endLine == pos.line) = true) (hl : es.length < 30) :
    PE X (.Call (.Attribute o m apos) es [] pos) (tMeth C m sp dvs E ta t) := by
  refine ⟨fun pins s σ H Q I h => ?_⟩
  refine PySem.W.methodCall_KW (pl := plainOf o X.env) (thn (he.run pins s σ H _ I h) fun u s1 ⟨x, H1, I1, rx, a, dx, fs, ex, ea, l, q⟩ => ?_) (meth_tree hab hline hs hl)
  subst ex
  obtain rfl : u = Value.ref a := rx
  refine getmeth_ok I1 ea c hm l ?_
  cases es with
  | nil => exact PySem.W.callWith_K0 (first := [.ref a]) I1.kIn hm.kp (run_fnGD (us := [.ref a]) (vs := [.ref a]) F hr hg hb hd hx I1 (.cons rfl .nil) (hnil rfl σ H1 _ q))
  | cons e es =>
    rw [List.all_cons, Bool.and_eq_true] at hs
    refine PySem.W.callWith_K (first := [.ref a]) (h₀ := X.base) I.ok.mod.kin hm.kp (thn (ha.run pos pins s1 σ H1 _ I1 q) fun us s2 ⟨vs, H2, I2, r, q2⟩ => ⟨I2.kIn, ?_⟩) (starEach_cons (by simpa using hs.1)) (star_none hs.2)
    exact run_fnGD (us := .ref a :: us) (vs := .ref a :: vs) F hr hg hb hd hx I2 (.cons rfl r) q2
theorem pe_callGD (F : FnG X.prog X.w X.K X.mg X.base k f fd ps sp) (hr : Room k X.A) (hgd : X.A.guards = some []) (hg : Gl X x) (hm : X.mg x = some (.ref f)) (hk : PySem.W.keepIn X.K (.ref f) = true) (hb : Binds X.K fd ps ds) (hd : Vals dvs ds) (hx : Passes (L2N.CX X.prog X.w) X E)
    (ha : PA X es t) (hnil : es = [] → ∀ σ H (Q : List V → Hp → Prop), t σ H Q → Q [] H) (hs : es.all (fun e => !isStar e) = true) (hdb : (x == ("__debug__" : Str)) = false) : PE X (.Call (.Name x p) es [] pos) (fun σ H Q => t σ H fun vs H1 => sp (vs ++ dvs) H1 Q E) := by
  refine ⟨fun pins s σ H Q I h => ?_⟩
  refine wpAny_Call_Name_kw (ld_glob I hg hm ?_ hdb)
  cases es with
  | nil =>
    refine PySem.W.callWith_K0 I.kIn hk ?_
    exact run_fnGD F hr hgd hb hd hx I .nil (hnil rfl σ H _ h)
  | cons e es =>
    rw [List.all_cons, Bool.and_eq_true] at hs
    refine PySem.W.callWith_K (h₀ := X.base) I.ok.mod.kin hk (thn (ha.run pos pins s σ H _ I h) fun us s1 ⟨vs, H1, I1, r, q⟩ => ⟨I1.kIn, ?_⟩) (starEach_cons (by simpa using hs.1)) (star_none hs.2)
    exact run_fnGD F hr hgd hb hd hx I1 r q
theorem make_guards {A : Around} {C : Addr} {us : List Value} (h : A.guards = some []) : (A.under (.builtin "type.__call__" ⟨.ref C :: us, []⟩)).guards = some [] := by
  first
    | exact h
    | (simp [Around.under, Code.weight, Code.isCreation, Code.isGuard, Code.isCaller, Code.frames, Code.isFrame, guardIds, h]; done)
theorem run_makeG {pins : List (Addr × Obj)} {σ : L2.St} {H : Hp} {s : Shared} {Q : VK} {us : List Value} {vs : List V} (M : Mk X.K C f) (F : FnG X.prog X.w X.K X.mg X.base k f fd ps sp) (hr : Room (k + 1) X.A) (hg : X.A.guards = some []) (hb : Binds X.K fd ps [])
    (hx : Passes (L2N.CX X.prog X.w) X E) (I : L2.Inv X pins σ H s) (r : Vals vs us)
    (h : ∀ x dx, H x = none → H dx = none → dx ≠ x → sp (.ref x :: vs) (upd (upd H dx (.own x)) x (.ins C dx [])) (fun v H2 => v = .non ∧ Q (.ref x) H2) E) :
    wpAny (model X.prog X.w) X.A (call (.ref C) us) (EP X pins σ Q) X.xe s := by
  have hq := h (s.heap.objs.size + 1) s.heap.objs.size (I.hok.fresh (Nat.le_succ _)) (I.hok.fresh (Nat.le_refl _)) (Nat.ne_of_lt (Nat.lt_succ_self _))
  have I2 := Inv.made (C := C) I
  have r2 : Vals (V.ref (s.heap.objs.size + 1) :: vs) (Value.ref (s.heap.objs.size + 1) :: us) := .cons rfl r
  have hl : (Value.ref (s.heap.objs.size + 1) :: us).length = ps.length := by
    have e := r2.length
    rw [F.len _ _ _ _ hq] at e
    exact e.symm
  have hb2 := hb { s with heap := (s.heap.push PySem.W.emptyDict).push (PySem.W.instObj C s.heap.objs.size) } (Value.ref (s.heap.objs.size + 1) :: us) I2.kIn (by rw [List.append_nil]; exact hl)
  rw [List.append_nil] at hb2
  refine wpAny_call (make_map (f := f) I.kIn M.makes M.init (beq_iff_eq.mp M.fn) (codeAny_mono (F.run _ X.stack _ _ ⟨Value.ref (s.heap.objs.size + 1) :: us, []⟩ (Value.ref (s.heap.objs.size + 1) :: us) _ _ E (hr.make C us [])
    (make_guards hg) (I2.env0.make C us []) hb2 r2 hq) fun r s' hq' => ?_))
  cases r with
  | error e => exact hx pins σ _ _ e s' I2 hq'
  | ok fl =>
    cases fl with
    | ret u =>
      obtain ⟨v, H', I3, rv, ev, q3⟩ := I2.after hq'
      subst ev
      exact ⟨rv, ⟨V.ref (s.heap.objs.size + 1), H', I3, rfl, q3⟩⟩
    | next => exact False.elim hq'
    | brk => exact False.elim hq'
    | cont => exact False.elim hq'
/-- C(..): a new instance and its dict, then __init__ -/
def tMakeG (C : Addr) (sp : Sp) (E : XK) (t : TA) : TE := fun σ H Q => t σ H fun vs H1 => ∀ x dx, H1 x = none → H1 dx = none → dx ≠ x →
  sp (.ref x :: vs) (upd (upd H1 dx (.own x)) x (.ins C dx [])) (fun v H2 => v = .non ∧ Q (.ref x) H2) E
theorem pe_makeG (M : Mk X.K C f) (F : FnG X.prog X.w X.K X.mg X.base k f fd ps sp) (hr : Room (k + 1) X.A) (hgd : X.A.guards = some []) (hg : Gl X x) (hm : X.mg x = some (.ref C)) (hb : Binds X.K fd ps []) (hx : Passes (L2N.CX X.prog X.w) X E)
    (ha : PA X es t) (hnil : es = [] → ∀ σ H (Q : List V → Hp → Prop), t σ H Q → Q [] H) (hs : es.all (fun e => !isStar e) = true) (hdb : (x == ("__debug__" : Str)) = false) : PE X (.Call (.Name x p) es [] pos) (tMakeG C sp E t) := by
  refine ⟨fun pins s σ H Q I h => ?_⟩
  refine wpAny_Call_Name_kw (ld_glob I hg hm ?_ hdb)
  cases es with
  | nil =>
    refine PySem.W.callWith_K0 I.kIn M.kp ?_
    exact run_makeG M F hr hgd hb hx I .nil (hnil rfl σ H _ h)
  | cons e es =>
    rw [List.all_cons, Bool.and_eq_true] at hs
    refine PySem.W.callWith_K (h₀ := X.base) I.ok.mod.kin M.kp (thn (ha.run pos pins s σ H _ I h) fun us s1 ⟨vs, H1, I1, r, q⟩ => ⟨I1.kIn, ?_⟩) (starEach_cons (by simpa using hs.1)) (star_none hs.2)
    exact run_makeG M F hr hgd hb hx I1 r q
/-- o.f = .. -/
def gFld (K : PySem.W.Frag) (to : TE) (f : Str) : TG := fun v σ H Q => to σ H fun x H1 => ∃ a C dx fs, x = .ref a ∧ H1 a = some (.ins C dx fs) ∧ Cls K C ∧ NoAttr K C f ∧ fs.length < 1000 ∧ Q σ (upd H1 a (.ins C dx (L2.putF f v fs)))
theorem pg_fld {f : Str} (ho : PE X o ta) : PG X (.Attribute o f pos) (gFld X.K ta f) := by
  refine ⟨fun pins s σ H v u Q I r h => ?_⟩
  show wpAny _ _ (do
    let ov ← holding [u] (eval o X.env)
    standAt pos.atName
    holding [u, ov] (setAttr ov f u)
    release [u, ov] []) _ _ _
  refine wpAny_bind (wpAny_holding (thn (ho.run pins s σ H _ I h) fun ov s1 ⟨x, H1, I1, r1, a, C, dx, fs, ex, ea, c, n, l, q⟩ => ?_))
  subst ex
  obtain rfl : ov = Value.ref a := r1
  refine wpAny_bind (wpAny_standAt (wpAny_bind (wpAny_holding (setattr_ok I1 ea c n l r fun s3 I3 => ?_))))
  exact wpAny_release ⟨σ, _, I3, q⟩
/-- x == y of two of a class with its own == -/
theorem op_ownEq (F : FnG X.prog X.w X.K X.mg X.base k f fd ps sp) (hr : Room k X.A) (hg : X.A.guards = some []) (hm : Meth X.K C "__eq__" f) (hb : Binds X.K fd ps []) (hx : Passes (L2N.CX X.prog X.w) X E) :
    OpR X (compareOp .Eq) (fun x y H Q => ∃ a b dx dy fs gs, x = .ref a ∧ y = .ref b ∧ H a = some (.ins C dx fs) ∧ H b = some (.ins C dy gs) ∧ sp [x, y] H (fun v H' => ∃ q, v = .bl q ∧ Q (.bl q) H') E) := by
  intro pins s σ H x y v u Q I rx ry d
  obtain ⟨a, b, dx, dy, fs, gs, rfl, rfl, ha, hb', hsp⟩ := d
  cases rx
  cases ry
  obtain ⟨mA, J, _⟩ := ins_get I.hok ha
  obtain ⟨mB, J', _⟩ := ins_get I.hok hb'
  obtain ⟨od, J, _⟩ := J.look
  obtain ⟨od', J', _⟩ := J'.look
  obtain ⟨m, hF⟩ := I.fr
  show wpAny (model X.prog X.w) X.A (richCompare .Eq (.ref a) (.ref b)) (EP X pins σ Q) X.xe s
  refine PySem.W.cmp_K (op := .Eq) (tb := .ref C) hr.units0 hF I.ok.mod.kin J J'.type (by simp [PySem.W.notFirst]) hm.at_ hm.fn ?_
  refine wpAny_mono (run_fnG F hr hg hb hx I (us := [.ref a, .ref b]) (vs := [.ref a, .ref b]) (.cons rfl (.cons rfl .nil)) hsp) (fun r s' hq => ?_) fun _ _ x => x
  obtain ⟨z, H', I', rz, q, ez, hQ⟩ := hq
  subst ez
  cases rz
  exact ⟨.bl q, H', I', rfl, hQ⟩
theorem isi_cls {P : Pg} {M : Ma} {H : Hp} {S : Sto} {d : D} {v : V} {c : Str} {b : Bool} {K : PySem.W.Frag} (em : P.Emb M H S) (r : Rv M H d v) (h : isiD S d (.cls c) = some b)
    (h0 : ∀ t ∈ (["NoneType", "bool", "int", "str", "tuple", "list", "dict"] : List String), PySem.W.kitOne K (.type t) (.ref (P.CA c)) = some false)
    (h1 : ∀ (l dx : Addr) (vfs : List (Str × V)), H l = some (.ins (P.CA c) dx vfs) → TyX K H (.ref l) (.ref (P.CA c))) (h2 : PySem.W.kitOne K (.ref (P.CA c)) (.ref (P.CA c)) = some true) :
    ∃ T, TyX K H v T ∧ PySem.W.kitOne K T (.ref (P.CA c)) = some b := by
  unfold isiD at h
  simp only at h
  split at h
  · rename_i p hp
    obtain ⟨c', fs⟩ := p
    split at h
    · rename_i hc
      have hc' : c' = c := hc
      subst hc'
      cases h
      cases ea : asRef d with
      | none => rw [ea] at hp; cases hp
      | some i =>
        rw [ea] at hp
        have ed := asRef_some ea
        subst ed
        obtain ⟨l, dx, vfs, rfl, _, g1, _⟩ := em.ins hp r
        exact ⟨_, h1 l dx vfs g1, h2⟩
    · cases h
  · cases e : isi0 S d .str with
    | none => rw [e] at h; cases h
    | some w =>
      rw [e] at h
      cases h
      cases d with
      | none => cases r; exact ⟨_, .base .non, h0 _ (by decide)⟩
      | bool x => cases r; exact ⟨_, .base (.bl x), h0 _ (by decide)⟩
      | int x => cases r; exact ⟨_, .base (.int x), h0 _ (by decide)⟩
      | str x => cases r; exact ⟨_, .base (.str x), h0 _ (by decide)⟩
      | tuple xs =>
        obtain ⟨a, vs, rfl, ⟨o, g1, g2⟩, _⟩ := r.tupI
        exact ⟨_, .fTuple g1, h0 _ (by decide)⟩
      | list xs =>
        obtain ⟨a, vs, rfl, g1, _⟩ := em.lst (xs := xs) rfl r
        exact ⟨_, .base (.lst g1), h0 _ (by decide)⟩
      | dict kvs =>
        unfold isi0 at e
        simp only at e
        split at e
        · cases e2 : lstD S (.dict kvs) with
          | none => rw [e2] at e; cases e
          | some xs =>
            obtain ⟨a, vs, rfl, g1, _⟩ := em.lst e2 r
            exact ⟨_, .base (.lst g1), h0 _ (by decide)⟩
        · rename_i cc
          cases r with
          | scr _ _ => exact absurd rfl cc
          | ref _ => exact absurd rfl cc
          | exn _ => exact absurd rfl cc
          | exnA _ _ _ => exact absurd rfl cc
          | exnH _ _ _ => exact absurd rfl cc
          | exaH _ _ _ _ _ => exact absurd rfl cc
          | dct q g1 _ => exact ⟨_, .base (.dK g1), h0 _ (by decide)⟩
end
end PL
end

section
set_option Elab.async false
set_option linter.all false
set_option maxRecDepth 100000
set_option maxHeartbeats 1000000
/-! PLX2: len(x), repr(x) of own objects, by the class's own methods. -/
namespace PL
open PySem PySem.Spec PyProof.Rows L2
section
variable {X : Cx} {k : Nat} {f C : Addr} {fd : FuncData} {ps : List Str} {sp : Sp} {E : XK} {p pos : Pos} {o : Expr} {ta : TE}
/-- a call of an own function one level within -/
theorem run_in1 {pins : List (Addr × Obj)} {σ : L2.St} {H : Hp} {s : Shared} {Q : VK} {us : List Value} {vs : List V} (F : FnG X.prog X.w X.K X.mg X.base k f fd ps sp) (hr : Room (k + 1) X.A) (hg : X.A.guards = some []) (hb : Binds X.K fd ps []) (hx : Passes (L2N.CX X.prog X.w) X E)
    (I : L2.Inv X pins σ H s) (r : Vals vs us) (h : sp vs H Q E) : wpAny (model X.prog X.w) X.A.in1 (call (.ref f) us) (EP X pins σ Q) X.xe s := by
  have hl : us.length = ps.length := by rw [← r.length]; exact F.len _ _ _ _ h
  have hb2 := hb s us I.kIn (by rw [List.append_nil]; exact hl)
  rw [List.append_nil] at hb2
  refine wpAny_call (codeAny_mono (F.run X.A.in1 X.stack s H ⟨us, []⟩ us vs Q E hr.in1 hg I.env0.in1 hb2 r h) fun r s' hq => ?_)
  cases r with
  | error e => exact hx pins σ H s e s' I hq
  | ok fl =>
    cases fl with
    | ret u => exact I.after hq
    | next => exact False.elim hq
    | brk => exact False.elim hq
    | cont => exact False.elim hq
/-- a call of an own function two levels within -/
theorem run_in2 {pins : List (Addr × Obj)} {σ : L2.St} {H : Hp} {s : Shared} {Q : VK} {us : List Value} {vs : List V} (F : FnG X.prog X.w X.K X.mg X.base k f fd ps sp) (hr : Room (k + 2) X.A) (hg : X.A.guards = some []) (hb : Binds X.K fd ps []) (hx : Passes (L2N.CX X.prog X.w) X E)
    (I : L2.Inv X pins σ H s) (r : Vals vs us) (h : sp vs H Q E) : wpAny (model X.prog X.w) X.A.in1.in1 (call (.ref f) us) (EP X pins σ Q) X.xe s := by
  have hl : us.length = ps.length := by rw [← r.length]; exact F.len _ _ _ _ h
  have hb2 := hb s us I.kIn (by rw [List.append_nil]; exact hl)
  rw [List.append_nil] at hb2
  have hr2 : Room (k + 1) X.A.in1 := hr.in1
  refine wpAny_call (codeAny_mono (F.run X.A.in1.in1 X.stack s H ⟨us, []⟩ us vs Q E hr2.in1 hg I.env0.in1.in1 hb2 r h) fun r s' hq => ?_)
  cases r with
  | error e => exact hx pins σ H s e s' I hq
  | ok fl =>
    cases fl with
    | ret u => exact I.after hq
    | next => exact False.elim hq
    | brk => exact False.elim hq
    | cont => exact False.elim hq
/-- what an own len wants of its method -/
def tOwn (C : Addr) (sp : Sp) (E : XK) (good : V → Prop) (t : TE) : TE := fun σ H Q => t σ H fun x H1 => ∃ a dx fs, x = .ref a ∧ H1 a = some (.ins C dx fs) ∧ sp [x] H1 (fun v H2 => good v ∧ Q v H2) E
theorem pe_lenG (he : PE X o ta) (hs : isStar o = false) (hgl : Gl X "len") (hml : X.mg "len" = none) (hm : Meth X.K C "__len__" f) (F : FnG X.prog X.w X.K X.mg X.base k f fd ps sp) (hr : Room (k + 1) X.A) (hg : X.A.guards = some []) (hb : Binds X.K fd ps []) (hx : Passes (L2N.CX X.prog X.w) X E) :
    PE X (.Call (.Name "len" p) [o] [] pos) (tOwn C sp E (fun v => ∃ n : Int, v = .int n ∧ 0 ≤ n ∧ n < 2 ^ 63) ta) := by
  refine ⟨fun pins s σ H Q I h => ?_⟩
  refine Call_ (ld_blt I hgl hml boot_len ?_)
  refine PyProof.Rows.callWith_builtin1 (PyProof.Rows.args_cons (thn (he.run pins s σ H _ I h) fun u s1 ⟨x, H1, I1, rx, a, dx, fs, ex, ea, q⟩ => PyProof.Rows.args_nil ?_) (starEach_cons hs)) (starEach_cons hs) rfl
  subst ex
  obtain rfl : u = Value.ref a := rx
  obtain ⟨m1, J, _⟩ := ins_get I1.hok ea
  obtain ⟨od, J, _⟩ := J.look
  obtain ⟨m, hF⟩ := I1.fr
  refine PySem.W.len_K hF I1.ok.mod.kin J hm.at_ hm.fn ?_
  refine wpAny_mono (run_in1 F hr hg hb hx I1 (us := [.ref a]) (vs := [.ref a]) (.cons rfl .nil) q) (fun r s' hq => ?_) fun _ _ x => x
  obtain ⟨v, H', I', rv, ⟨n, ev, h0, h1⟩, hQ⟩ := hq
  subst ev
  obtain ⟨t, rfl⟩ := rv
  exact ⟨⟨h0, h1⟩, .int n, H', I'.kept (fun _ _ e => e), ⟨_, rfl⟩, hQ⟩
theorem pe_strG (he : PE X o ta) (hs : isStar o = false) (hgl : Gl X "str") (hml : X.mg "str" = none) (hm : Meth X.K C "__str__" f) (F : FnG X.prog X.w X.K X.mg X.base k f fd ps sp) (hr : Room (k + 2) X.A) (hg : X.A.guards = some []) (hb : Binds X.K fd ps []) (hx : Passes (L2N.CX X.prog X.w) X E) :
    PE X (.Call (.Name "str" p) [o] [] pos) (tOwn C sp E (fun v => ∃ c : Str, v = .str c) ta) := by
  refine ⟨fun pins s σ H Q I h => ?_⟩
  refine Call_ (ld_blt I hgl hml boot_str ?_)
  refine PyProof.Rows.callWith_type1 (PyProof.Rows.args_cons (thn (he.run pins s σ H _ I h) fun u s1 ⟨x, H1, I1, rx, a, dx, fs, ex, ea, q⟩ => PyProof.Rows.args_nil ?_) (starEach_cons hs)) (starEach_cons hs) rfl
  subst ex
  obtain rfl : u = Value.ref a := rx
  obtain ⟨m1, J, _⟩ := ins_get I1.hok ea
  obtain ⟨od, J, _⟩ := J.look
  refine PySem.W.kso_call (by have := hr.un; show X.A.units + 1 + 1 < _; omega) I1.kIn J hm.at_ hm.fn ?_
  refine wpAny_mono (run_in2 F hr hg hb hx I1 (us := [.ref a]) (vs := [.ref a]) (.cons rfl .nil) q) (fun r s' hq => ?_) fun _ _ x => x
  obtain ⟨v, H', I', rv, ⟨c, ev⟩, hQ⟩ := hq
  subst ev
  obtain ⟨t, rfl⟩ := rv
  exact ⟨.str c, H', I'.kept (fun _ _ e => e), ⟨_, rfl⟩, hQ⟩
theorem pe_reprG (he : PE X o ta) (hs : isStar o = false) (hgl : Gl X "repr") (hml : X.mg "repr" = none) (hm : Meth X.K C "__repr__" f) (F : FnG X.prog X.w X.K X.mg X.base k f fd ps sp) (hr : Room (k + 1) X.A) (hg : X.A.guards = some []) (hb : Binds X.K fd ps []) (hx : Passes (L2N.CX X.prog X.w) X E) :
    PE X (.Call (.Name "repr" p) [o] [] pos) (tOwn C sp E (fun v => ∃ c : Str, v = .str c) ta) := by
  refine ⟨fun pins s σ H Q I h => ?_⟩
  refine Call_ (ld_blt I hgl hml boot_repr ?_)
  refine PyProof.Rows.callWith_builtin1 (PyProof.Rows.args_cons (thn (he.run pins s σ H _ I h) fun u s1 ⟨x, H1, I1, rx, a, dx, fs, ex, ea, q⟩ => PyProof.Rows.args_nil ?_) (starEach_cons hs)) (starEach_cons hs) rfl
  subst ex
  obtain rfl : u = Value.ref a := rx
  obtain ⟨m1, J, _⟩ := ins_get I1.hok ea
  obtain ⟨od, J, _⟩ := J.look
  obtain ⟨m, hF⟩ := I1.fr
  refine PySem.W.repr_K (by have := hr.un; show X.A.units + 1 < _; omega) hF I1.ok.mod.kin J hm.at_ hm.fn ?_
  refine wpAny_mono (run_in1 F hr hg hb hx I1 (us := [.ref a]) (vs := [.ref a]) (.cons rfl .nil) q) (fun r s' hq => ?_) fun _ _ x => x
  obtain ⟨v, H', I', rv, ⟨c, ev⟩, hQ⟩ := hq
  subst ev
  obtain ⟨t, rfl⟩ := rv
  exact ⟨.str c, H', I', ⟨_, rfl⟩, hQ⟩
end
end PL
end

section
set_option Elab.async false
set_option linter.all false
set_option maxRecDepth 100000
set_option maxHeartbeats 1000000
/-! PLX3: an exception's class with an __init__ of its own that keeps a whole number. -/
namespace PL
open PySem PySem.Spec PyProof.Rows L2
theorem oexB_ok {K : PySem.W.Frag} {C : Addr} (h : oexB K C = true) : OexC K C := by
  unfold oexB at h
  rw [Bool.and_eq_true, Bool.and_eq_true, Bool.and_eq_true, Bool.and_eq_true] at h
  obtain ⟨h1, h2, h3, h4, h5⟩ := h
  refine { cls := ?_, sa := of_decide_eq_true h2, exC := of_decide_eq_true h3, tyC := of_decide_eq_true h4, kC := h5 }
  revert h1
  cases e : K.lookup C with
  | none => exact fun z => nomatch z
  | some o =>
    obtain ⟨t, dd, dt, sl⟩ := o
    cases dt with
    | cls cd =>
      obtain ⟨nm, bs, mro, ns, qn, hd, sn, sub, ab, col, del⟩ := cd
      obtain ⟨l⟩ := sl
      intro z
      rw [Bool.and_eq_true] at z
      obtain ⟨zt, z⟩ := z
      have zt := of_decide_eq_true zt
      subst zt
      dsimp only at z
      split at z
      · rename_i D bm k0 k1 k2 k3 id k5
        simp only [Bool.and_eq_true, decide_eq_true_eq, Bool.not_eq_true'] at z
        obtain ⟨⟨rfl, rfl⟩, z1, z2, z3⟩ := z
        subst z1 z2
        exact ⟨nm, qn, ns, bs, bm, sn, sub, ab, col, dd, k0, k1, k2, k3, k5, rfl, z3⟩
      · cases z
    | _ => exact fun z => nomatch z
/-- the base class's __init__, called by the class's name -/
structure BaseI (K : PySem.W.Frag) (B : Addr) : Prop where
  ga : W.specialIn K (.ref B) "__getattribute__" = some (some (.builtin "type.__getattribute__"))
  rd : W.readsIn K B (.type "type") = true
  at_ : W.findCls K (.ref B) (.type "type") "__init__" = some (.val (.builtin "ValueError.__init__"))
theorem baseIB_ok {K : PySem.W.Frag} {B : Addr} (h : baseIB K B = true) : BaseI K B := by
  unfold baseIB at h
  rw [Bool.and_eq_true, Bool.and_eq_true] at h
  obtain ⟨h1, h2, h3⟩ := h
  refine ⟨of_decide_eq_true h1, h2, ?_⟩
  split at h3
  · rename_i e
    rw [e, of_decide_eq_true h3]
  · cases h3
section
variable {X : Cx} {B : Addr} {e : Expr} {es : List Expr} {ta : TA} {p1 p2 pos : Pos}
theorem pe_baseinit (hg : Gl X "ClubError") (hm : X.mg "ClubError" = some (.ref B)) (bi : BaseI X.K B) (ha : PA X (e :: es) ta) (hline : (p2.endLine == pos.line) = true) (hst : (e :: es).all (fun e => !isStar e) = true) (hl : (e :: es).length < 30) :
    PE X (.Call (.Attribute (.Name "ClubError" p1) "__init__" p2) (e :: es) [] pos) (tVeI X.K ta) := by
  constructor
  intro pins s σ H Q I h
  refine W.methodCall_KW (pl := plainOf (.Name "ClubError" p1) X.env) (ld_glob I hg hm ?_ (by decide)) (meth_tree rfl hline hst hl)
  obtain ⟨m, fr⟩ := I.fr
  refine W.method_of_cls fr I.ok.mod.kin bi.ga (W.cls_value (I.ok.mod.kin.keeps fr.keep) bi.rd bi.at_ (by decide +kernel) ?_)
  show wpAny _ _ (callWith pos (Value.builtin "ValueError.__init__") [] (backTo pos (starEach (e :: es) X.env)) []) _ _ _
  rw [List.all_cons, Bool.and_eq_true] at hst
  refine callWith_method1 (thn (ha.run pos pins _ σ H _ (I.tok _) h) fun us s1 z => ?_) (starEach_cons (by simpa using hst.1)) (star_none hst.2)
  obtain ⟨vs, H1, I1, r1, a, C, ws, ev, hl, T, ea, q⟩ := z
  subst ev
  cases r1 with
  | @cons _ u0 _ ur ra rw' =>
    obtain rfl : u0 = Value.ref a := ra
    have hlen : ur.length ≤ sizeLine := by
      have hw := Paired.length rw'
      rw [sizeLine_eq]
      omega
    exact oinit_ok T I1 ea hlen fun s' J => ⟨.non, H1, J, rfl, q⟩
/-- what such an __init__ keeps -/
def spA (C : Addr) : Sp := fun vs H Q _ => ∃ (a : Addr) (i : Int), vs = [.ref a, .int i] ∧ H a = some (exo a C none) ∧ ∀ dx, H dx = none → dx ≠ a → Q .non (upd (upd H dx (exd dx [(("at" : Str), .int i)])) a (exo a C (some dx)))
end
theorem nd_init {P : Program} {w : World} {K : PySem.W.Frag} {mg : Str → Option Value} {base : Heap} {ql : Str} {params : Arguments} {scope : Scope} {fI : Addr} {fd : FuncData} {C B : Addr} {self pa : Str} {txt : Str} {j : Nat} {p1 p2 p3 p4 p5 p6 p7 p8 p9 p10 : Pos}
    (F : FunD K "__init__" ql params [.Expr (.Call (.Attribute (.Name "ClubError" p1) "__init__" p2) [.Name self p3, .Constant (.str txt) j p4] [] p5) p6, .Assign [.Attribute (.Name self p7) "at" p8] (.Name pa p9) p10] scope [] [] fI fd)
    (S : FnScope [self, pa] [self, pa] scope) (v1 : scope.names.lookup self = some .local) (v2 : scope.names.lookup pa = some .local) (vg : scope.names.lookup ("ClubError" : Str) = some .globalImplicit)
    (d1 : (self == ("__debug__" : Str)) = false) (d2 : (self == ("__classdict__" : Str)) = false) (hline : (p2.endLine == p5.line) = true) (d3 : (pa == ("__debug__" : Str)) = false) (d4 : (pa == ("__classdict__" : Str)) = false)
    (hm : mg "ClubError" = some (.ref B)) (bi : BaseI K B) (T : OexC K C) (hno : W.findIn K (.ref C) "at" = some none) : FnOk P w K mg base C8.CX0 1 fI fd [self, pa] (spA C) := by
  refine F.ok (k := 0) S (fun vs H Q E ⟨a, i, h, _⟩ => by rw [h]; rfl) fun cdv A outer s H vs Q E hr ⟨a, i, ev, ha, hq⟩ => ?_
  subst ev
  refine ⟨_, pss_cons (ps_expr (pe_baseinit (X := cxOf C8.CX0 P w K mg base [self, pa] ql scope fI cdv A outer s H E) vg hm bi (pa_cons (pe_var (i := 0) rfl (.inl v1) d1 d2) (pa_cons pe_str pa_nil)) hline rfl (by simp))) (pss_one (ps_ost (f := "at") (pe_var (i := 0) rfl (.inl v1) d1 d2) (pe_var (i := 1) rfl (.inl v2) d3 d4))), ?_⟩
  refine ⟨.ref a, rfl, a, C, [.str txt], rfl, by simp, T, ha, ?_⟩
  exact ⟨.int i, rfl, .ref a, rfl, a, C, rfl, T, hno, .inl ⟨ha, fun dx h1 h2 => hq dx h1 h2⟩⟩
section
variable {X : Cx} {C fI : Addr} {fd : FuncData} {ps : List Str} {x : Str} {e : Expr} {te : TE} {p pos : Pos}
/-- C(e): the place is kept -/
def tMkA (C : Addr) (te : TE) : L2.St → Hp → XK → Prop := fun σ H Q => te σ H fun v H1 => ∃ i : Int, v = .int i ∧ ∀ dx, H1 dx = none → Q (.ref C) (some dx) (upd H1 dx (.xd [(("at" : Str), .int i)]))
theorem pmk_at (T : OexC X.K C) (iC : W.findIn X.K (.ref C) "__init__" = some (some (.ref fI))) (tI : W.typeIn X.K (.ref fI) = some (.type "function")) (F1 : FnOk X.prog X.w X.K X.mg X.base C8.CX0 1 fI fd ps (spA C)) (hr : Room 2 X.A) (hb : Binds X.K fd ps [])
    (hg : Gl X x) (hm : X.mg x = some (.ref C)) (he : PE X e te) (hs : isStar e = false) (hdb : (x == ("__debug__" : Str)) = false) : L2N.PMk X (.Call (.Name x p) [e] [] pos) (tMkA C te) := by
  intro pins s σ H Q I h
  obtain ⟨nm, q, N, bs, bm, sn, sub, ab, col, dd, k0, k1, k2, k3, k5, hC, hbm⟩ := T.cls
  refine wpAny_Call_Name_kw (ld_glob I hg hm ?_ hdb)
  refine W.callWith_K (h₀ := X.base) I.ok.mod.kin T.kC (args_cons (thn (he.run pins s σ H _ I h) fun u s1 z => args_nil ?_) (starEach_cons hs)) (starEach_cons hs) rfl
  obtain ⟨v, H1, I1, r1, i, ev, q1⟩ := z
  subst ev
  refine ⟨I1.kIn, ?_⟩
  show wpAny _ _ (call (.ref C) [u]) _ _ _
  obtain ⟨hp, g, dr, tk, os⟩ := s1
  have hsz : hp.objs.size ≤ hp.objs.size + 1 := Nat.le_succ _
  have hn : H1 (hp.objs.size + 1) = none := I1.hok.fresh hsz
  have kk : ∀ b o, hp.get? b = some o → ((hp.push (W.kdv_tup [u])).push (HandSPX.excO C hp.objs.size)).get? b = some o := fun b o e => Heap.get?_push_of_some _ (Heap.get?_push_of_some _ e)
  have hget : ((hp.push (W.kdv_tup [u])).push (HandSPX.excO C hp.objs.size)).get? (hp.objs.size + 1) = some (HandSPX.excO C hp.objs.size) := by heap_get
  have I2 : Inv X pins σ (upd H1 (hp.objs.size + 1) (exo (hp.objs.size + 1) C none)) ⟨(hp.push (W.kdv_tup [u])).push (HandSPX.excO C hp.objs.size), g, dr, tk, os⟩ :=
    I1.laid (t' := tk) kk hsz (exo_ok hget)
  have r2 : Vals [V.ref (hp.objs.size + 1), .int i] [Value.ref (hp.objs.size + 1), u] := .cons rfl (.cons r1 .nil)
  have hq : spA C [V.ref (hp.objs.size + 1), .int i] (upd H1 (hp.objs.size + 1) (exo (hp.objs.size + 1) C none)) (fun v H2 => v = .non ∧ ∃ dx, H1 dx = none ∧ dx ≠ hp.objs.size + 1 ∧ H2 = upd (upd (upd H1 (hp.objs.size + 1) (exo (hp.objs.size + 1) C none)) dx (exd dx [(("at" : Str), .int i)])) (hp.objs.size + 1) (exo (hp.objs.size + 1) C (some dx))) (fun _ _ _ => False) := by
    refine ⟨_, i, rfl, upd_same, fun dx n1 n2 => ⟨rfl, dx, ?_, n2, rfl⟩⟩
    rw [upd_ne n2] at n1
    exact n1
  have hl : [Value.ref (hp.objs.size + 1), u].length = ps.length := F1.len _ _ _ _ hq
  have hb2 := hb ⟨(hp.push (W.kdv_tup [u])).push (HandSPX.excO C hp.objs.size), g, dr, tk, os⟩ [.ref (hp.objs.size + 1), u] I2.kIn (by rw [List.append_nil]; exact hl)
  rw [List.append_nil] at hb2
  refine wpAny_call (HandSPX.call_own F.excBase_ValueError (fun Y => HandSPX.refsVE_contains Y bm hbm) (I1.kIn _ _ hC) (W.looks_findIn I1.kIn iC) (fun self => W.bind_fn I1.kIn self tI) (by show 1 ≤ sizeLine; rw [sizeLine_eq]; omega)
    (codeAny_mono (F1.run _ X.stack _ _ ⟨[.ref (hp.objs.size + 1), u], []⟩ [.ref (hp.objs.size + 1), u] _ _ (fun _ _ _ => False) (hr.make C [u] []) (I2.env0.make C [u] []) hb2 r2 hq) fun r s' hq' => ?_))
  cases r with
  | error er => exact hq'.elim
  | ok fl =>
    cases fl with
    | ret u =>
      obtain ⟨v, H2, os2, bare2, un2, hok2, rv, ev, dx, n1, n2, eH⟩ := hq'
      subst ev
      obtain ⟨h2, g2, d2, t2, os'⟩ := s'
      have ea : H2 (hp.objs.size + 1) = some (exo (hp.objs.size + 1) C (some dx)) := by rw [eH]; exact upd_same
      have ed : H2 dx = some (exd dx [(("at" : Str), .int i)]) := by rw [eH, upd_ne n2]; exact upd_same
      obtain ⟨t0, G, J, kG, ge, hoe, na⟩ := mk_end0 (d2 := d2) (t2 := t2) I1 hsz kk un2 hok2 os2 bare2 ea ed n1
      have e3 : upd (del H2 (hp.objs.size + 1)) dx (.xd [(("at" : Str), .int i)]) = upd H1 dx (.xd [(("at" : Str), .int i)]) := by
        funext b
        by_cases hb : b = dx
        · subst hb
          rw [upd_same, upd_same]
        · rw [upd_ne hb, upd_ne hb]
          by_cases hc : b = hp.objs.size + 1
          · subst hc
            rw [del_same, hn]
          · rw [del_ne hc, eH, upd_ne hc, upd_ne hb, upd_ne hc]
      rw [e3] at J na
      exact ⟨rv, _, _, _, ⟨G, g2, d2, t2, os'⟩, _, .ref C, some dx, rfl, J, kG, ge, hoe, ⟨rfl, rfl, fun vs e => by cases e; rfl⟩, rfl, rfl, na, rfl, bare2, raises_own T.exC T.tyC, q1 dx n1⟩
    | next => exact False.elim hq'
    | brk => exact False.elim hq'
    | cont => exact False.elim hq'
end
section
variable {X : Cx} {p : Addr × Obj} {D dd : Addr} {fs : List (Str × V)}
/-- the exception in hand, with its dict -/
theorem inst_xd {pins : List (Addr × Obj)} {σ : L2.St} {H : Hp} {s : Shared} (I : L2.Inv X pins σ H s) (hp : p ∈ X.pn) (hc : p.2.cls = .ref D) (hd : p.2.dict = some dd) (hf : ∃ vs, p.2.data = .fields vs) (hx : H dd = some (.xd fs)) :
    ∃ (od : Obj) (mA : Str → Option Value), W.InstAt s.heap p.1 p.2 D (some od) ∧ (∀ f, W.lookIn f od = some (mA f)) ∧ ∀ f, RelO (fs.lookup f) (mA f) := by
  have g := (I.pin p (List.mem_append_left _ hp)).1
  have x : ObjOk X.prog X.w H s.heap dd (.xd fs) := I.hok dd _ hx
  obtain ⟨mA, hns, hr⟩ := x
  obtain ⟨od, ho, hl⟩ := lookIn_ns hns
  obtain ⟨vs, hv⟩ := hf
  exact ⟨od, mA, ⟨g, hc, by unfold W.notCls; rw [hv] <;> rfl, by rw [hd]; exact ho⟩, hl, hr⟩
theorem call_isD (C : ExcC X.K D) (hp : p ∈ X.pn) (hc : p.2.cls = .ref D) (hd : p.2.dict = some dd) (hf : ∃ vs, p.2.data = .fields vs) :
    CallR X (.builtin "isinstance") (fun xs H Q => (∃ fs, H dd = some (.xd fs)) ∧ rIsE X.K D p.1 xs H Q) := by
  intro pins s σ H xs us Q I r ⟨⟨fs, hx⟩, c, cv, b, ex, hcv, kt, q⟩
  subst ex
  obtain ⟨u1, u2, rfl, r1, r2⟩ := vals2 r
  cases r1
  cases hcv _ r2
  obtain ⟨od, mA, J, _, _⟩ := inst_xd I hp hc hd hf hx
  have hcl : (W.clsIn X.K D).isSome = true := by
    obtain ⟨cd, h, _⟩ := W.any_some C.hd
    rw [h]
    rfl
  exact W.kia_one (W.kitx_exc hcl C.hg C.hk C.hs C.ha C.hn C.ht C.hm) I.kIn J kt (fun z => nomatch z) fun tk => ⟨.bl b, H, I.tok tk, rfl, q⟩
/-- no field is read behind what can't be -/
theorem pe_attrF {e : Expr} {te : TE} {n : Str} {pos : Pos} (he : PE X e te) (hb : attributeBase e n X.env (eval e X.env) = eval e X.env) : PE X (.Attribute e n pos) (fun σ H Q => te σ H fun _ _ => False) :=
  ⟨fun pins s σ H Q I h => attr_of hb (thn (he.run pins s σ H _ I h) fun u s1 ⟨_, _, _, _, z⟩ => z.elim)⟩
/-- its field -/
theorem pe_xat {e : Expr} {te : TE} {pos : Pos} (T : XfC X.K D) (hno : W.findIn X.K (.ref D) "at" = some none) (hp : p ∈ X.pn) (hc : p.2.cls = .ref D) (hd : p.2.dict = some dd) (hf : ∃ vs, p.2.data = .fields vs) (he : PE X e te) (hb : attributeBase e "at" X.env (eval e X.env) = eval e X.env) :
    PE X (.Attribute e "at" pos) (fun σ H Q => te σ H fun x H1 => x = .ref p.1 ∧ ∃ fs v, H1 dd = some (.xd fs) ∧ fs.lookup ("at" : Str) = some v ∧ Q v H1) := by
  constructor
  intro pins s σ H Q I h
  refine attr_of hb (thn (he.run pins s σ H _ I h) fun u s1 hh => ?_)
  obtain ⟨x, H1, I1, rx, ex, fs, v, ea, l, q⟩ := hh
  subst ex
  obtain rfl : u = Value.ref p.1 := rx
  obtain ⟨od, mA, J, hl, hr⟩ := inst_xd I1 hp hc hd hf ea
  obtain ⟨u, hu, ru⟩ := RelO.some_of (v := v) (o := mA "at") (by rw [← l]; exact hr "at")
  exact HandSPX.exc_get I1.kIn J T.ga T.gg T.exC (W.findObj_own T.hdC hno rfl (by rw [hl, hu])) (handed_of ru) ⟨v, H1, I1.tok _, ru, q⟩
end
end PL
end

section
set_option Elab.async false
set_option linter.all false
set_option maxRecDepth 100000
set_option maxHeartbeats 1000000
/-! PLX4: == and != of an own object with anything, and in of a list display of one own object. -/
namespace PL
open PySem PySem.Spec PyProof.Rows L2
section
variable {prog : Program} {w : World} {A : Around} {E : Value → Shared → Prop} {s : Shared} {K : PySem.W.Frag} {x C L f : Addr} {h₀ : Heap} {m : Str → Option Value} {ox : Obj} {od : Option Obj} {b tb : Value}
/-- object.__ne__ by the class's own == -/
theorem objNe_K {Q : Fin → Shared → Prop} (hu : A.units < cLine) (X : K.In s.heap) (I : PySem.W.InstAt s.heap x ox C od) (he : PySem.W.findIn K (.ref C) "__eq__" = some (some (.ref f))) (hf : PySem.W.isFn K (.ref f) = true)
    (h : wpAny (model prog w) A (call (.ref f) [.ref x, b]) (fun v s' => ∃ q : Bool, v = .bool q ∧ Q (.done (.ret (.bool (!q)))) s') E s) :
    wpAny (model prog w) A (Builtin.«object.__ne__» ⟨[.ref x, b], []⟩) Q E s := by
  have ifB : ∀ {Q : Option Value → Shared → Prop}, wpAny (model prog w) A (call (.ref f) [.ref x, b]) (fun v => Q (some v)) E s → wpAny (model prog w) A (callSpecialIfBound? (.ref x) "__eq__" [b]) Q E s := fun h => PySem.W.ifBound_K X I he hf h
  unfold Builtin.«object.__ne__»
  have ifC : ∀ {Q' : Option Value → Shared → Prop}, (∀ (q : Bool) (s' : Shared), Q (.done (.ret (.bool (!q)))) s' → Q' (some (.bool q)) s') → wpAny (model prog w) A (callSpecialIfBound? (.ref x) "__eq__" [b]) Q' E s := fun k => ifB (wpAny_mono h (fun v s' hv => by
    obtain ⟨q, rfl, hq⟩ := hv
    exact k q s' hq) fun _ _ e => e)
  repeat (first | with_reducible refine wpAny_cRoomFor hu ?_ | with_reducible refine ifC (fun q s' hq => ?_) | wp_step)
  exact hq
theorem ne_K {Q : Value → Shared → Prop} (hu : A.units + 1 < cLine) (F0 : Fr h₀ L s.heap m) (X₀ : K.In h₀) (I : PySem.W.InstAt s.heap x ox C od) (hb : PySem.W.Looks (model prog w) s.heap (typeOf b) tb) (hn : PySem.W.notFirst K C tb = true)
    (hne : PySem.W.findIn K (.ref C) "__ne__" = some (some (.builtin "object.__ne__"))) (hob : PySem.W.subIn K (.ref C) (.type "object") = some true)
    (he : PySem.W.findIn K (.ref C) "__eq__" = some (some (.ref f))) (hf : PySem.W.isFn K (.ref f) = true)
    (h : wpAny (model prog w) A.in1 (call (.ref f) [.ref x, b]) (fun v s' => ∃ q : Bool, v = .bool q ∧ Q (.bool (!q)) s') E s) : wpAny (model prog w) A (richCompare .NotEq (.ref x) b) Q E s := by
  have X := X₀.keeps F0.keep
  have hu0 : A.units < cLine := Nat.lt_of_succ_lt hu
  have bnd : PySem.W.Looks (model prog w) s.heap (bindSpecial (.builtin "object.__ne__") (.ref x)) (.builtin "object.__ne__", [.ref x]) := PySem.W.Looks.of_pure (PySem.F.cmp_object.ne.bind (.ref x))
  have cl : ∀ {Q : Value → Shared → Prop}, wpAny (model prog w) A.in1 (call (.ref f) [.ref x, b]) (fun v s' => ∃ q : Bool, v = .bool q ∧ Q (.bool (!q)) s') E s → wpAny (model prog w) A (call (.builtin "object.__ne__") [.ref x, b]) Q E s := fun h =>
    wpAny_call (codeAny_call_builtin PySem.F.cmp_object.ne.plain PySem.F.cmpEntry_ne (PySem.W.check_slot PySem.F.cmpKind_ne PySem.F.cmpSplit_ne (I.type.andThen (PySem.W.looks_subIn X hob)) (PySem.F.cmpArgs_ne _ _) (objNe_K (A := A.in1) hu X I he hf h)))
  have ifN : ∀ {Q : Option Value → Shared → Prop}, wpAny (model prog w) A (call (.builtin "object.__ne__") [.ref x, b]) (fun v => Q (some v)) E s → wpAny (model prog w) A (callSpecialIfBound? (.ref x) "__ne__" [b]) Q E s := fun {Q} h => by
    simp only [callSpecialIfBound?, bindSpecialIfBound?]
    refine wpAny_holding (wpAny_bind (wpAny_bind (wpAny_bind (I.type.here ((PySem.W.looks_findIn X hne).here ?_)))))
    refine wpAny_bind (wpAny_askSetting (wpAny_ite ?_))
    have fin : wpAny (model prog w) A (call (.builtin "object.__ne__") ([.ref x] ++ [b]) >>= fun v => pure (some v)) Q E s := wpAny_bind (wpAny_mono h (fun v s' h' => wpAny_pure h') fun _ _ h' => h')
    split
    · exact wpAny_bind (bnd.here (wpAny_pure (by exact fin)))
    · exact wpAny_tryCatch (wpAny_bind (bnd.here (wpAny_pure (by exact fin))))
  have one : wpAny (model prog w) A (tryCompare (.ref x) "__ne__" b) (fun r s' => ∃ v, r = some v ∧ Q v s') E s := by
    unfold tryCompare
    refine wpAny_bind (ifN (wpAny_mono (cl (Q := fun v s' => ∃ q : Bool, v = .bool q ∧ Q (.bool q) s') (wpAny_mono h (fun v s' hv => ?_) fun _ _ e => e)) (fun v s' hv => ?_) fun _ _ e => e))
    · obtain ⟨q, rfl, hq⟩ := hv
      exact ⟨q, rfl, _, rfl, hq⟩
    · obtain ⟨q, rfl, hq⟩ := hv
      exact wpAny_pure ⟨_, rfl, hq⟩
  unfold richCompare
  simp only [oneThing_ref]
  refine wpAny_holding (wpAny_bind (wpAny_cRoomFor hu0 ?_))
  refine wpAny_bind (I.type.here (wpAny_bind (hb.here ?_)))
  split
  · rename_i q
    have e : PySem.W.subIn K tb (.ref C) = some false := by
      rcases Bool.or_eq_true_iff.mp hn with e | e
      · rw [beq_iff_eq.mp e] at q; simp at q
      · exact beq_iff_eq.mp e
    refine wpAny_bind ((PySem.W.looks_subIn X e).here ?_)
    simp only [Bool.false_eq_true, if_false]
    refine wpAny_bind (wpAny_mono one (fun r s' z => ?_) fun _ _ e => e)
    obtain ⟨v, rfl, hq⟩ := z
    exact wpAny_pure hq
  · refine wpAny_bind (wpAny_pure ?_)
    simp only [Bool.false_eq_true, if_false]
    refine wpAny_bind (wpAny_mono one (fun r s' z => ?_) fun _ _ e => e)
    obtain ⟨v, rfl, hq⟩ := z
    exact wpAny_pure hq
/-- the list of one item holds x where the item is == to it -/
theorem eqBool_own {a : Addr} {v : Value} {Q : Bool → Shared → Prop} (hn : (Value.ref a == v) = false) (h : wpAny (model prog w) A (richCompare .Eq (.ref a) v) (fun r s' => ∃ q : Bool, r = .bool q ∧ Q q s') E s) : wpAny (model prog w) A (eqBool (.ref a) v) Q E s := by
  unfold eqBool
  refine wpAny_holding ?_
  refine wpAny_ite_split (fun hab => absurd (hab.symm.trans hn) (by simp)) (fun _ => ?_)
  refine wpAny_bind (wpAny_mono h (fun r s' hr => ?_) fun _ _ e => e)
  obtain ⟨q, rfl, hq⟩ := hr
  exact wpAny_truthy_bool hq
end
section
open AutoSeq1 (wpAny_loadPart')
open MeetsSeq MeetsSeq2 MeetsSeq3 SeqRoads2 SeqAt
variable {prog : Program} {w : World}
def oneL (its : Array Value) (n : Nat) (dd : Option Addr) (sl : Array (Option Value)) : Obj := { cls := .type "list", dict := dd, data := .seq its n, slots := sl }
/-- a list of one item stands there -/
def OneAt (l : Addr) (s : Shared) : Prop := ∃ its n dd sl, its.size = 1 ∧ s.heap.get? l = some (oneL its n dd sl)
def oneS (prog : Program) (w : World) (l : Addr) (its : Array Value) (y x : Value) (n : Nat) (dd : Option Addr) (sl : Array (Option Value)) : PySem.Spec := fun A R s => s.heap.get? l = some (oneL its n dd sl) ∧
  wpAny (model prog w) A.in1 (eqBool y x) (fun b s' => OneAt l s' ∧ R (.ok (.ret (.bool b))) s') (fun e s' => R (.error e) s') s
theorem contains_end (l : Addr) (its : Array Value) (h1 : its.size = 1) (x : Value) (n : Nat) (dd : Option Addr) (sl : Array (Option Value)) : MeetsIn prog w (Builtin.«list.__contains__.loop» ⟨[.ref l, x, rawInt ((1 : Nat) : Int)], []⟩) (fun A R s => s.heap.get? l = some (oneL its n dd sl) ∧ R (.ok (.ret (.bool false))) s) := by
  intro A R s h
  obtain ⟨hp, g, d, tk, os⟩ := s; obtain ⟨hl, h⟩ := h
  unfold oneL at hl
  wp_walk using wpAny_loadPart' hl
  have hi : its[((1 : Nat) : Int).toNat]? = none := by simp [h1]
  rw [hi]
  wp_walk
  exact h
theorem contains_one0 (l : Addr) (its : Array Value) (h1 : its.size = 1) (y x : Value) (h0 : its[0]? = some y) (n : Nat) (dd : Option Addr) (sl : Array (Option Value)) : MeetsIn prog w (Builtin.«list.__contains__.loop» ⟨[.ref l, x, rawInt ((0 : Nat) : Int)], []⟩) (oneS prog w l its y x n dd sl) := by
  intro A R s h
  obtain ⟨hp, g, d, tk, os⟩ := s; obtain ⟨hl, he⟩ := h
  have hl0 := hl
  unfold oneL at hl
  wp_walk using wpAny_loadPart' hl
  have hi : its[((0 : Nat) : Int).toNat]? = some y := h0
  rw [hi]
  refine wpAny_bind (wpAny_mono he (fun b s' hb => ?_) fun _ _ e => e)
  obtain ⟨hl', hr⟩ := hb
  cases b with
  | true =>
    wp_walk
    exact hr
  | false =>
    have hc : (((0 : Nat) : Int) + 1) = ((1 : Nat) : Int) := by rfl
    wp_walk
    rw [hc]
    exact ⟨plainId_quiet plain_contains_loop _, codeAny_builtin entry_contains_loop (by
      rw [Around.under_plainId plain_contains_loop _]
      obtain ⟨its', n', dd', sl', h1', hl'⟩ := hl'
      exact contains_end l its' h1' x n' dd' sl' A R s' ⟨hl', hr⟩)⟩
theorem contains_one (l : Addr) (its : Array Value) (h1 : its.size = 1) (y x : Value) (h0 : its[0]? = some y) (n : Nat) (dd : Option Addr) (sl : Array (Option Value)) : MeetsIn prog w (Builtin.«list.__contains__» ⟨[.ref l, x], []⟩) (oneS prog w l its y x n dd sl) := by
  intro A R s h
  obtain ⟨hp, g, d, tk, os⟩ := s; obtain ⟨hl, he⟩ := h
  have hl0 := hl
  unfold oneL at hl
  wp_walk using wpAny_loadPart' hl
  exact ⟨plainId_quiet plain_contains_loop _, codeAny_builtin entry_contains_loop (by
    rw [Around.under_plainId plain_contains_loop _]
    exact contains_one0 l its h1 y x h0 n dd sl A R _ ⟨hl0, he⟩)⟩
variable {A : Around} {E : Value → Shared → Prop} {s : Shared}
theorem in_one {l : Addr} {its : Array Value} {y x : Value} {Q : Value → Shared → Prop} {n : Nat} {dd : Option Addr} {sl : Array (Option Value)} (h1 : its.size = 1) (h0 : its[0]? = some y) (hl : s.heap.get? l = some (oneL its n dd sl))
    (h : wpAny (model prog w) A.in1 (eqBool y x) (fun b s' => OneAt l s' ∧ Q (.bool b) s') E s) : wpAny (model prog w) A (compareOp .In x (.ref l)) Q E s := by
  show wpAny _ A (do return .bool (← contains (.ref l) x)) Q E s
  have hT : s.TypeIs (.ref l) "list" := ⟨_, hl, rfl⟩
  refine wpAny_bind (wpAny_contains_slot hT F.slot_list_contains (wpAny_mono (call_meetsIn F.slot_list_contains hT F.entry_list_contains (F.args_list_contains_2 _ _) (contains_one l its h1 y x h0 n dd sl) (Q := fun v s' => ∃ b : Bool, v = .bool b ∧ Q (.bool b) s') ⟨hl, ?_⟩) (fun v s' hv => ?_) fun _ _ e => e))
  · refine wpAny_mono h (fun b s' hb => ?_) fun _ _ e => e
    first | exact ⟨hb.1, b, rfl, hb.2⟩ | exact ⟨hb.1, _, rfl, hb.2⟩
  · obtain ⟨b, rfl, hq⟩ := hv
    exact wpAny_truthy_bool (wpAny_pure hq)
end
section
variable {X : Cx} {k : Nat} {f C : Addr} {fd : FuncData} {ps : List Str} {sp : Sp} {E : XK}
def kinds : List String := ["NoneType", "bool", "int", "str", "tuple", "list", "dict"]
/-- one of the class, or of a built-in kind -/
def AnyT (K : PySem.W.Frag) (C : Addr) (H : Hp) (y : V) : Prop := (∃ l dx vfs, y = .ref l ∧ H l = some (.ins C dx vfs)) ∨ ∃ t ∈ kinds, TyX K H y (.type t)
theorem kinds_sub (K : PySem.W.Frag) (C : Addr) : ∀ t ∈ kinds, PySem.W.notFirst K C (.type t) = true := by
  intro t ht
  simp only [kinds, List.mem_cons, List.not_mem_nil, or_false] at ht
  rcases ht with rfl | rfl | rfl | rfl | rfl | rfl | rfl <;> kernel_rfl
theorem anyT_looks {pins : List (Addr × Obj)} {σ : L2.St} {H : Hp} {s : Shared} {y : V} {u : Value} (I : L2.Inv X pins σ H s) (ry : RelV y u) (h : AnyT X.K C H y) :
    ∃ tb, PySem.W.Looks (model X.prog X.w) s.heap (typeOf u) tb ∧ PySem.W.notFirst X.K C tb = true := by
  rcases h with ⟨l, dx, vfs, rfl, hl⟩ | ⟨t, ht, ty⟩
  · cases ry
    obtain ⟨mB, J', _⟩ := ins_get I.hok hl
    obtain ⟨od', J', _⟩ := J'.look
    exact ⟨_, J'.type, by simp [PySem.W.notFirst]⟩
  · obtain ⟨P, kx, hP, _⟩ := kit_of I ry ty
    exact ⟨_, kx.ty _ _ I.kIn hP, kinds_sub _ _ t ht⟩
theorem op_ownEqA (F : FnG X.prog X.w X.K X.mg X.base k f fd ps sp) (hr : Room k X.A) (hg : X.A.guards = some []) (hm : Meth X.K C "__eq__" f) (hb : Binds X.K fd ps []) (hx : Passes (L2N.CX X.prog X.w) X E) :
    OpR X (compareOp .Eq) (fun x y H Q => ∃ a dx fs, x = .ref a ∧ H a = some (.ins C dx fs) ∧ AnyT X.K C H y ∧ sp [x, y] H (fun v H' => ∃ q, v = .bl q ∧ Q (.bl q) H') E) := by
  intro pins s σ H x y v u Q I rx ry d
  obtain ⟨a, dx, fs, rfl, ha, hy, hsp⟩ := d
  cases rx
  obtain ⟨mA, J, _⟩ := ins_get I.hok ha
  obtain ⟨od, J, _⟩ := J.look
  obtain ⟨tb, lk, nf⟩ := anyT_looks I ry hy
  obtain ⟨m, hF⟩ := I.fr
  show wpAny (model X.prog X.w) X.A (richCompare .Eq (.ref a) u) (EP X pins σ Q) X.xe s
  refine PySem.W.cmp_K (op := .Eq) (tb := tb) hr.units0 hF I.ok.mod.kin J lk nf hm.at_ hm.fn ?_
  refine wpAny_mono (run_fnG F hr hg hb hx I (us := [.ref a, u]) (vs := [.ref a, y]) (.cons rfl (.cons ry .nil)) hsp) (fun r s' hq => ?_) fun _ _ x => x
  obtain ⟨z, H', I', rz, q, ez, hQ⟩ := hq
  subst ez
  cases rz
  exact ⟨.bl q, H', I', rfl, hQ⟩
theorem op_ownNe (F : FnG X.prog X.w X.K X.mg X.base k f fd ps sp) (hr : Room (k + 1) X.A) (hg : X.A.guards = some []) (hm : Meth X.K C "__eq__" f) (hne : PySem.W.findIn X.K (.ref C) "__ne__" = some (some (.builtin "object.__ne__"))) (hob : PySem.W.subIn X.K (.ref C) (.type "object") = some true)
    (hb : Binds X.K fd ps []) (hx : Passes (L2N.CX X.prog X.w) X E) :
    OpR X (compareOp .NotEq) (fun x y H Q => ∃ a dx fs, x = .ref a ∧ H a = some (.ins C dx fs) ∧ AnyT X.K C H y ∧ sp [x, y] H (fun v H' => ∃ q, v = .bl q ∧ Q (.bl (!q)) H') E) := by
  intro pins s σ H x y v u Q I rx ry d
  obtain ⟨a, dx, fs, rfl, ha, hy, hsp⟩ := d
  cases rx
  obtain ⟨mA, J, _⟩ := ins_get I.hok ha
  obtain ⟨od, J, _⟩ := J.look
  obtain ⟨tb, lk, nf⟩ := anyT_looks I ry hy
  obtain ⟨m, hF⟩ := I.fr
  show wpAny (model X.prog X.w) X.A (richCompare .NotEq (.ref a) u) (EP X pins σ Q) X.xe s
  refine ne_K (tb := tb) (by have := hr.un; omega) hF I.ok.mod.kin J lk nf hne hob hm.at_ hm.fn ?_
  refine wpAny_mono (run_in1 F hr hg hb hx I (us := [.ref a, u]) (vs := [.ref a, y]) (.cons rfl (.cons ry .nil)) hsp) (fun r s' hq => ?_) fun _ _ x => x
  obtain ⟨z, H', I', rz, q, ez, hQ⟩ := hq
  subst ez
  cases rz
  exact ⟨q, rfl, .bl (!q), H', I', rfl, hQ⟩
theorem one_at {pins : List (Addr × Obj)} {σ : L2.St} {H : Hp} {s : Shared} {p : Addr} {x : V} (I : L2.Inv X pins σ H s) (h : H p = some (.lst [x])) : ∃ its n dd sl u, its.size = 1 ∧ s.heap.get? p = some (oneL its n dd sl) ∧ its[0]? = some u ∧ RelV x u := by
  obtain ⟨_, its, n, r, g⟩ := (show ObjOk X.prog X.w H s.heap p (.lst [x]) from I.hok p _ h)
  obtain ⟨u, rfl, ru⟩ := vals1 r
  exact ⟨#[u], n, _, _, u, rfl, g, rfl, ru⟩
theorem relV_ref {x : V} {a : Addr} (h : RelV x (.ref a)) : x = .ref a := by
  cases x with
  | ref b => cases h; rfl
  | int i => obtain ⟨t, q⟩ := (show ∃ t, Value.ref a = Value.int i t from h); cases q
  | str i => obtain ⟨t, q⟩ := (show ∃ t, Value.ref a = Value.str i t from h); cases q
  | flt i => obtain ⟨t, q⟩ := (show ∃ t, Value.ref a = Value.float i t from h); cases q
  | byt i => obtain ⟨t, q⟩ := (show ∃ t, Value.ref a = Value.bytes i t from h); cases q
  | _ => cases h
theorem op_ownIn (F : FnG X.prog X.w X.K X.mg X.base k f fd ps sp) (hr : Room (k + 1) X.A) (hg : X.A.guards = some []) (hm : Meth X.K C "__eq__" f) (hb : Binds X.K fd ps []) (hx : Passes (L2N.CX X.prog X.w) X E) :
    OpR X (compareOp .In) (fun x y H Q => ∃ p a dx fs, y = .ref p ∧ H p = some (.lst [.ref a]) ∧ H a = some (.ins C dx fs) ∧ AnyT X.K C H x ∧ x ≠ .ref a ∧ sp [.ref a, x] H (fun v H' => ∃ q, v = .bl q ∧ H' p = some (.lst [.ref a]) ∧ Q (.bl q) H') E) := by
  intro pins s σ H x y v u Q I rx ry d
  obtain ⟨p, a, dx, fs, rfl, hp, ha, hy, hne, hsp⟩ := d
  cases ry
  obtain ⟨mA, J, _⟩ := ins_get I.hok ha
  obtain ⟨od, J, _⟩ := J.look
  obtain ⟨tb, lk, nf⟩ := anyT_looks I rx hy
  obtain ⟨m, hF⟩ := I.fr
  obtain ⟨its, n, dd, sl, u, h1, h2, h3, h4⟩ := one_at I hp
  cases h4
  have hv : (Value.ref a == v) = false := by
    cases e : (Value.ref a == v) with
    | false => rfl
    | true =>
      have e2 := eq_of_beq e
      subst e2
      exact absurd (relV_ref rx) hne
  refine in_one h1 h3 h2 (eqBool_own hv ?_)
  have hr1 : Room k X.A.in1 := hr.in1
  refine PySem.W.cmp_K (op := .Eq) (tb := tb) hr1.units0 hF I.ok.mod.kin J lk nf hm.at_ hm.fn ?_
  refine wpAny_mono (run_in1 F hr hg hb hx I (us := [.ref a, v]) (vs := [.ref a, x]) (.cons rfl (.cons rx .nil)) hsp) (fun r s' hq => ?_) fun _ _ x => x
  obtain ⟨z, H', I', rz, q, ez, hp', hQ⟩ := hq
  subst ez
  cases rz
  obtain ⟨its', n', dd', sl', u', g1, g2, _, _⟩ := one_at I' hp'
  exact ⟨q, rfl, ⟨its', n', dd', sl', g1, g2⟩, .bl q, H', I', rfl, hQ⟩
end
end PL
end

section
set_option Elab.async false
set_option linter.all false
set_option maxRecDepth 100000
set_option maxHeartbeats 1000000
/-! PLX6: not in of a list display of None and an own object. -/
namespace PL
open PySem PySem.Spec PyProof.Rows L2
section
variable {prog : Program} {w : World} {A : Around} {E : Value → Shared → Prop} {s : Shared} {K : PySem.W.Frag} {x C L f : Addr} {h₀ : Heap} {m : Str → Option Value} {ox : Obj} {od : Option Obj} {b tb : Value}
/-- None == x, by the own == of x -/
theorem eqNone_K {Q : Value → Shared → Prop} (hu : A.units < cLine) (F0 : Fr h₀ L s.heap m) (X₀ : K.In h₀) (I : PySem.W.InstAt s.heap x ox C od) (hsub : PySem.W.subIn K (.ref C) (.type "NoneType") = some false)
    (he : PySem.W.findIn K (.ref C) "__eq__" = some (some (.ref f))) (hf : PySem.W.isFn K (.ref f) = true)
    (h : wpAny (model prog w) A (call (.ref f) [.ref x, .none]) (fun r s' => ∃ q : Bool, r = .bool q ∧ Q (.bool q) s') E s) : wpAny (model prog w) A (richCompare .Eq .none (.ref x)) Q E s := by
  have X := X₀.keeps F0.keep
  have hT : s.TypeIs .none "NoneType" := rfl
  have one : wpAny (model prog w) A (tryCompare (.ref x) "__eq__" .none) (fun r s' => ∃ v, r = some v ∧ Q v s') E s := by
    unfold tryCompare
    refine wpAny_bind (PySem.W.ifBound_K X I he hf (wpAny_mono h (fun v s' hv => ?_) fun _ _ e => e))
    obtain ⟨q, rfl, hq⟩ := hv
    exact wpAny_pure ⟨_, rfl, hq⟩
  have hne : (Value.type "NoneType" != Value.ref C) = true := rfl
  unfold richCompare
  simp only [hT.oneThing_none]
  refine wpAny_holding (wpAny_bind (wpAny_cRoomFor hu ?_))
  refine wpAny_bind (wpAny_typeOf hT (wpAny_bind (I.type.here ?_)))
  simp only [hne, if_true]
  refine wpAny_bind ((PySem.W.looks_subIn X hsub).here ?_)
  simp only [Bool.false_eq_true, if_false, Bool.not_false, if_true]
  refine wpAny_bind (m := tryCompare .none _ (.ref x)) (wpAny_tryCompare_declines hT F.slot_NoneType_eq (call_gives F.slot_NoneType_eq rfl F.entry_NoneType_eq (F.args_NoneType_eq_2 _ _) (PySem.SeqAt.NoneType___eq___none_ref_0 x) ⟨rfl, ?_⟩))
  refine wpAny_bind (wpAny_mono one (fun r s' z => ?_) fun _ _ e => e)
  obtain ⟨v, rfl, hq⟩ := z
  exact wpAny_pure hq
theorem eqBool_none {a : Addr} {Q : Bool → Shared → Prop} (h : wpAny (model prog w) A (richCompare .Eq .none (.ref a)) (fun r s' => ∃ q : Bool, r = .bool q ∧ Q q s') E s) : wpAny (model prog w) A (eqBool .none (.ref a)) Q E s := by
  unfold eqBool
  refine wpAny_holding ?_
  refine wpAny_ite_split (fun hab => absurd (eq_of_beq hab) nofun) (fun _ => ?_)
  refine wpAny_bind (wpAny_mono h (fun r s' hr => ?_) fun _ _ e => e)
  obtain ⟨q, rfl, hq⟩ := hr
  exact wpAny_truthy_bool hq
end
section
open AutoSeq1 (wpAny_loadPart')
open MeetsSeq MeetsSeq2 MeetsSeq3 SeqRoads2 SeqAt
variable {prog : Program} {w : World}
def TwoAt (l : Addr) (y : Value) (s : Shared) : Prop := ∃ its n dd sl, its.size = 2 ∧ its[0]? = some .none ∧ its[1]? = some y ∧ s.heap.get? l = some (oneL its n dd sl)
theorem two_end (l : Addr) (y x : Value) : MeetsIn prog w (Builtin.«list.__contains__.loop» ⟨[.ref l, x, rawInt ((2 : Nat) : Int)], []⟩) (fun A R s => TwoAt l y s ∧ R (.ok (.ret (.bool false))) s) := by
  intro A R s h
  obtain ⟨hp, g, d, tk, os⟩ := s; obtain ⟨⟨its, n, dd, sl, h2, h0, h1, hl⟩, h⟩ := h
  unfold oneL at hl
  wp_walk using wpAny_loadPart' hl
  have hi : its[((2 : Nat) : Int).toNat]? = none := by simp [h2]
  rw [hi]
  wp_walk
  exact h
def twoS (prog : Program) (w : World) (l : Addr) (y x : Value) : PySem.Spec := fun A R s => TwoAt l y s ∧
  wpAny (model prog w) A.in1 (eqBool y x) (fun b s' => TwoAt l y s' ∧ R (.ok (.ret (.bool b))) s') (fun e s' => R (.error e) s') s
theorem two_one (l : Addr) (y x : Value) : MeetsIn prog w (Builtin.«list.__contains__.loop» ⟨[.ref l, x, rawInt ((1 : Nat) : Int)], []⟩) (twoS prog w l y x) := by
  intro A R s h
  obtain ⟨hp, g, d, tk, os⟩ := s; obtain ⟨⟨its, n, dd, sl, h2, h0, h1, hl⟩, he⟩ := h
  unfold oneL at hl
  wp_walk using wpAny_loadPart' hl
  have hi : its[((1 : Nat) : Int).toNat]? = some y := h1
  rw [hi]
  refine wpAny_bind (wpAny_mono he (fun b s' hb => ?_) fun _ _ e => e)
  obtain ⟨hl', hr⟩ := hb
  cases b with
  | true =>
    wp_walk
    exact hr
  | false =>
    have hc : (((1 : Nat) : Int) + 1) = ((2 : Nat) : Int) := by rfl
    wp_walk
    rw [hc]
    exact ⟨plainId_quiet plain_contains_loop _, codeAny_builtin entry_contains_loop (by
      rw [Around.under_plainId plain_contains_loop _]
      exact two_end l y x A R s' ⟨hl', hr⟩)⟩
/-- None first: not it, then the other -/
def twoN (prog : Program) (w : World) (l : Addr) (y x : Value) : PySem.Spec := fun A R s => TwoAt l y s ∧
  wpAny (model prog w) A.in1 (eqBool .none x) (fun b s' => b = false ∧ TwoAt l y s' ∧ wpAny (model prog w) A.in1 (eqBool y x) (fun b s' => TwoAt l y s' ∧ R (.ok (.ret (.bool b))) s') (fun e s' => R (.error e) s') s') (fun e s' => R (.error e) s') s
theorem two_zero (l : Addr) (y x : Value) : MeetsIn prog w (Builtin.«list.__contains__.loop» ⟨[.ref l, x, rawInt ((0 : Nat) : Int)], []⟩) (twoN prog w l y x) := by
  intro A R s h
  obtain ⟨hp, g, d, tk, os⟩ := s; obtain ⟨⟨its, n, dd, sl, h2, h0, h1, hl⟩, he⟩ := h
  unfold oneL at hl
  wp_walk using wpAny_loadPart' hl
  have hi : its[((0 : Nat) : Int).toNat]? = some .none := h0
  rw [hi]
  refine wpAny_bind (wpAny_mono he (fun b s' hb => ?_) fun _ _ e => e)
  obtain ⟨rfl, hl', hr⟩ := hb
  have hc : (((0 : Nat) : Int) + 1) = ((1 : Nat) : Int) := by rfl
  wp_walk
  rw [hc]
  exact ⟨plainId_quiet plain_contains_loop _, codeAny_builtin entry_contains_loop (by
    rw [Around.under_plainId plain_contains_loop _]
    exact two_one l y x A R s' ⟨hl', hr⟩)⟩
theorem two_in (l : Addr) (y x : Value) : MeetsIn prog w (Builtin.«list.__contains__» ⟨[.ref l, x], []⟩) (twoN prog w l y x) := by
  intro A R s h
  obtain ⟨hp, g, d, tk, os⟩ := s; obtain ⟨ht, he⟩ := h
  have ht0 := ht
  obtain ⟨its, n, dd, sl, h2, h0, h1, hl⟩ := ht
  unfold oneL at hl
  wp_walk using wpAny_loadPart' hl
  exact ⟨plainId_quiet plain_contains_loop _, codeAny_builtin entry_contains_loop (by
    rw [Around.under_plainId plain_contains_loop _]
    exact two_zero l y x A R _ ⟨ht0, he⟩)⟩
variable {A : Around} {E : Value → Shared → Prop} {s : Shared}
theorem nin_two {l : Addr} {y x : Value} {Q : Value → Shared → Prop} (ht : TwoAt l y s)
    (h : wpAny (model prog w) A.in1 (eqBool .none x) (fun b s' => b = false ∧ TwoAt l y s' ∧ wpAny (model prog w) A.in1 (eqBool y x) (fun b s' => TwoAt l y s' ∧ Q (.bool (!b)) s') E s') E s) : wpAny (model prog w) A (compareOp .NotIn x (.ref l)) Q E s := by
  show wpAny _ A (do return .bool (!(← contains (.ref l) x))) Q E s
  have hT : s.TypeIs (.ref l) "list" := by
    obtain ⟨its, n, dd, sl, _, _, _, hl⟩ := ht
    exact ⟨_, hl, rfl⟩
  refine wpAny_bind (wpAny_contains_slot hT F.slot_list_contains (wpAny_mono (call_meetsIn F.slot_list_contains hT F.entry_list_contains (F.args_list_contains_2 _ _) (two_in l y x) (Q := fun v s' => ∃ b : Bool, v = .bool b ∧ Q (.bool (!b)) s') ⟨ht, ?_⟩) (fun v s' hv => ?_) fun _ _ e => e))
  · refine wpAny_mono h (fun b s' hb => ?_) fun _ _ e => e
    refine ⟨hb.1, hb.2.1, wpAny_mono hb.2.2 (fun b s' hb => ?_) fun _ _ e => e⟩
    first | exact ⟨hb.1, b, rfl, hb.2⟩ | exact ⟨hb.1, _, rfl, hb.2⟩
  · obtain ⟨b, rfl, hq⟩ := hv
    exact wpAny_truthy_bool (wpAny_pure hq)
end
section
variable {X : Cx} {k : Nat} {f C : Addr} {fd : FuncData} {ps : List Str} {sp : Sp} {E : XK}
theorem two_at {pins : List (Addr × Obj)} {σ : L2.St} {H : Hp} {s : Shared} {p a : Addr} (I : L2.Inv X pins σ H s) (h : H p = some (.lst [.non, .ref a])) : TwoAt p (.ref a) s := by
  obtain ⟨_, its, n, r, g⟩ := (show ObjOk X.prog X.w H s.heap p (.lst [.non, .ref a]) from I.hok p _ h)
  obtain ⟨u, v, rfl, ru, rv⟩ := vals2 r
  cases ru
  cases rv
  exact ⟨#[.none, .ref a], n, _, _, rfl, rfl, rfl, g⟩
theorem op_ownNin (F : FnG X.prog X.w X.K X.mg X.base k f fd ps sp) (hr : Room (k + 1) X.A) (hg : X.A.guards = some []) (hm : Meth X.K C "__eq__" f) (hsub : PySem.W.subIn X.K (.ref C) (.type "NoneType") = some false) (hb : Binds X.K fd ps []) (hx : Passes (L2N.CX X.prog X.w) X E) :
    OpR X (compareOp .NotIn) (fun x y H Q => ∃ p a b dx fs, x = .ref b ∧ y = .ref p ∧ H p = some (.lst [.non, .ref a]) ∧ H b = some (.ins C dx fs) ∧ b ≠ a ∧ sp [.ref b, .non] H (fun v H' => v = .bl false ∧ H' p = some (.lst [.non, .ref a]) ∧
      ∃ da ga db gb, H' a = some (.ins C da ga) ∧ H' b = some (.ins C db gb) ∧ sp [.ref a, .ref b] H' (fun v H'' => ∃ q, v = .bl q ∧ H'' p = some (.lst [.non, .ref a]) ∧ Q (.bl (!q)) H'') E) E) := by
  intro pins s σ H x y v u Q I rx ry d
  obtain ⟨p, a, b, dx, fs, rfl, rfl, hp, hbo, hne, hsp⟩ := d
  cases rx
  cases ry
  obtain ⟨mB, J, _⟩ := ins_get I.hok hbo
  obtain ⟨od, J, _⟩ := J.look
  obtain ⟨m, hF⟩ := I.fr
  have hr1 : Room k X.A.in1 := hr.in1
  refine nin_two (two_at I hp) (eqBool_none (eqNone_K hr1.units0 hF I.ok.mod.kin J hsub hm.at_ hm.fn ?_))
  refine wpAny_mono (run_in1 F hr hg hb hx I (us := [.ref b, .none]) (vs := [.ref b, .non]) (.cons rfl (.cons rfl .nil)) hsp) (fun r s' hq => ?_) fun _ _ x => x
  obtain ⟨z, H', I', rz, rfl, hp', da, ga, db, gb, ha', hb', hsp'⟩ := hq
  cases rz
  refine ⟨false, rfl, false, rfl, rfl, two_at I' hp', ?_⟩
  obtain ⟨mA, J2, _⟩ := ins_get I'.hok ha'
  obtain ⟨od2, J2, _⟩ := J2.look
  obtain ⟨tb, lk, nf⟩ := anyT_looks (X := X) (C := C) (y := .ref b) I' (show RelV (.ref b) (.ref b) from rfl) (.inl ⟨b, db, gb, rfl, hb'⟩)
  obtain ⟨m2, hF2⟩ := I'.fr
  have hv : (Value.ref a == Value.ref b) = false := by
    cases e : (Value.ref a == Value.ref b) with
    | false => rfl
    | true =>
      have e2 := eq_of_beq e
      cases e2
      exact absurd rfl hne
  refine eqBool_own hv ?_
  refine PySem.W.cmp_K (op := .Eq) (tb := tb) hr1.units0 hF2 I'.ok.mod.kin J2 lk nf hm.at_ hm.fn ?_
  refine wpAny_mono (run_in1 F hr hg hb hx I' (us := [.ref a, .ref b]) (vs := [.ref a, .ref b]) (.cons rfl (.cons rfl .nil)) hsp') (fun r s'' hq => ?_) fun _ _ x => x
  obtain ⟨z, H'', I'', rz, q, ez, hp'', hQ⟩ := hq
  subst ez
  cases rz
  exact ⟨q, rfl, two_at I'' hp'', .bl (!q), H'', I'', rfl, hQ⟩
end
end PL
end

section
set_option Elab.async false
set_option linter.all false
set_option maxRecDepth 100000
set_option maxHeartbeats 1000000
/-! PLK: targets, comprehensions. -/
namespace PL
open PySem PySem.Spec PyProof.Rows L2
section
variable {P : Pg} {G : Calls} {Z : ZX} {α β : Type} {R : Ma → Hp → α → β → Prop} {M : Ma} {S : Sto} {ρ : Env} {σ : L2.St} {H : Hp}
/-- the evaluator's first step -/
theorem tE.step {m : E} {f : D → Sto → Out α} {Q : β → Hp → Prop} {K : VK} (em : P.Emb M H S) (rn : Renv M H ρ σ) (h : Res P R M H ((ev G P.gi m ρ S).bind f) Q Z)
    (k : ∀ v H' M' S' d, Ext M H M' H' → P.Emb M' H' S' → Renv M' H' ρ σ → Rv M' H' d v → Res P R M' H' (f d S') Q Z → K v H') : tE P G Z m σ H K :=
  ⟨M, S, ρ, em, rn, (Res.bind h).mono fun v H' ⟨M', S', d, e, em', r, q⟩ => k v H' M' S' d e em' (rn.mono e) r q⟩
theorem tEs.step {ms : List E} {f : List D → Sto → Out α} {Q : β → Hp → Prop} {K : List V → Hp → Prop} (em : P.Emb M H S) (rn : Renv M H ρ σ) (h : Res P R M H ((evs G P.gi ms ρ S).bind f) Q Z)
    (k : ∀ vs H' M' S' ds, Ext M H M' H' → P.Emb M' H' S' → Renv M' H' ρ σ → Rvs M' H' ds vs → Res P R M' H' (f ds S') Q Z → K vs H') : tEs P G Z ms σ H K :=
  ⟨M, S, ρ, em, rn, (Res.bind h).mono fun v H' ⟨M', S', d, e, em', r, q⟩ => k v H' M' S' d e em' (rn.mono e) r q⟩
theorem tEo.step {m : Option E} {f : Option Int → Sto → Out α} {Q : β → Hp → Prop} {K : Option Int → Hp → Prop} (em : P.Emb M H S) (rn : Renv M H ρ σ) (h : Res P R M H ((evo G P.gi m ρ S).bind f) Q Z)
    (k : ∀ v H' M' S', Ext M H M' H' → P.Emb M' H' S' → Renv M' H' ρ σ → Res P R M' H' (f v S') Q Z → K v H') : tEo P G Z m σ H K :=
  ⟨M, S, ρ, em, rn, (Res.bind h).mono fun v H' ⟨M', S', d, e, em', r, q⟩ => by cases r; exact k v H' M' S' e em' (rn.mono e) q⟩
end
/-! ### targets -/
mutual
def tgN : Tg → List Nat
  | .name i => [i]
  | .tup ts => tgNs ts
def tgNs : List Tg → List Nat
  | [] => []
  | t :: ts => tgN t ++ tgNs ts
end
theorem set_wipe {σ : L2.St} {i : Nat} {x : Option V} : ∀ {vs : List Nat}, i ∈ vs → L2.wipe (σ.set i x) vs = L2.wipe σ vs
  | [], h => by cases h
  | v :: vs, h => by
    unfold L2.wipe
    by_cases e : i ∈ vs
    · rw [set_wipe e]
    · have hv : i = v := by
        rcases List.mem_cons.mp h with z | z
        · exact z
        · exact absurd z e
      subst hv
      have q : ∀ (vs : List Nat), i ∉ vs → (L2.wipe (σ.set i x) vs) = (L2.wipe σ vs).set i x := by
        intro vs
        induction vs with
        | nil => intro _; rfl
        | cons w ws ih =>
          intro hn
          have h1 : i ≠ w := fun z => hn (by simp [z])
          have h2 : i ∉ ws := fun z => hn (by simp [z])
          unfold L2.wipe
          rw [ih h2, List.set_comm _ _ h1]
      rw [q vs e, List.set_set]
/-- what may be stored at a target -/
def Rg (M : Ma) (H : Hp) (t : Tg) (d : D) (v : V) : Prop := match t with
  | .name _ => Rv M H d v
  | .tup _ => Rw M H d v
def tG (t : Tg) : TG := fun v σ H Q => ∃ M d ρ ρ', Rg M H t d v ∧ Renv M H ρ σ ∧ putT t d ρ = some ρ' ∧ ∀ σ', Renv M H ρ' σ' → (∀ vs, (∀ i ∈ tgN t, i ∈ vs) → L2.wipe σ' vs = L2.wipe σ vs) → Q σ' H
def tGs (ts : List Tg) : TGs := fun xs σ H Q => ∃ M ds ρ ρ', Rvs M H ds xs ∧ Renv M H ρ σ ∧ putTs ts ds ρ = some ρ' ∧ ∀ σ', Renv M H ρ' σ' → (∀ vs, (∀ i ∈ tgNs ts, i ∈ vs) → L2.wipe σ' vs = L2.wipe σ vs) → Q σ' H
theorem PG.imp {X : Cx} {e : Expr} {t t' : TG} (h : PG X e t) (i : ∀ v σ H Q, t' v σ H Q → t v σ H Q) : PG X e t' := ⟨fun pins s σ H v u Q I r q => h.run pins s σ H v u Q I r (i v σ H Q q)⟩
theorem PGs.imp {X : Cx} {e : List Expr} {t t' : TGs} (h : PGs X e t) (i : ∀ v σ H Q, t' v σ H Q → t v σ H Q) : PGs X e t' := ⟨fun pins s σ H v u Q I r q => h.run pins s σ H v u Q I r (i v σ H Q q)⟩
def locB (sc : Scope) (fn : Str → Bool) (x : Str) : Bool := match sc.names.lookup x with
  | some .local => true
  | some .cell => fn x
  | _ => false
mutual
def chkT : Tg → Ga → Expr → Bool
  | .name i, Γ, e => match e with
    | .Name x _ => decide (Γ.N[i]? = some x) && locB Γ.sc Γ.fn x
    | _ => false
  | .tup ts, Γ, e => match e with
    | .Tuple es _ _ => es.all (fun e => !isStar e) && chkTs ts Γ es
    | _ => false
def chkTs : List Tg → Ga → List Expr → Bool
  | [], _, es => es.isEmpty
  | t :: ts, Γ, es => match es with
    | e :: es => chkT t Γ e && chkTs ts Γ es
    | [] => false
end
theorem locB_ok {sc : Scope} {fn : Str → Bool} {x : Str} (h : locB sc fn x = true) : L2.Loc sc x ∧ (fn x = true ∨ sc.names.lookup x = some .local) := by
  unfold locB at h
  split at h
  · rename_i e; exact ⟨.inl e, .inr e⟩
  · rename_i e; exact ⟨.inr e, .inl h⟩
  · cases h
theorem assignEach_cons {e : Expr} {es : List Expr} {env : PySem.Env} (h : isStar e = false) : assignEach (e :: es) env = (false, assign e env) :: assignEach es env := by
  cases e <;> first | rfl | cases h
theorem assignEach_none {env : PySem.Env} : ∀ {es : List Expr}, es.all (fun e => !isStar e) = true → (assignEach es env).findIdx? (·.1) = none ∧ (assignEach es env).length = es.length
  | [], _ => ⟨rfl, rfl⟩
  | e :: es, h => by
    rw [List.all_cons, Bool.and_eq_true] at h
    obtain ⟨h1, h2⟩ := assignEach_none (env := env) h.2
    rw [assignEach_cons (by simpa using h.1)]
    refine ⟨?_, by simp [h2]⟩
    rw [List.findIdx?_cons, h1]
    rfl
theorem putTs_len : ∀ (ts : List Tg) (ds : List D) (ρ ρ' : Env), putTs ts ds ρ = some ρ' → ts.length = ds.length
  | [], [], _, _, _ => rfl
  | [], _ :: _, _, _, h => by cases h
  | _ :: _, [], _, _, h => by cases h
  | t :: ts, d :: ds, ρ, ρ', h => by
    simp only [putTs] at h
    split at h
    · rename_i ρ1 h1
      simp [putTs_len ts ds ρ1 ρ' h]
    · cases h
theorem chkTs_len : ∀ (ts : List Tg) (Γ : Ga) (es : List Expr), chkTs ts Γ es = true → ts.length = es.length
  | [], _, es, h => by
    cases es with
    | nil => rfl
    | cons _ _ => cases h
  | t :: ts, Γ, es, h => by
    cases es with
    | nil => cases h
    | cons e es =>
      simp only [chkTs, Bool.and_eq_true] at h
      simp [chkTs_len ts Γ es h.2]
section
variable {P : Pg} {Γ : Ga} {X : Cx}
mutual
theorem pg_ok (F : Fit P Γ X) (hh : Γ.hot = false) : ∀ (t : Tg) {e : Expr}, chkT t Γ e = true → PG X e (tG t)
  | .name i, e, h => by
    simp only [chkT] at h
    split at h
    · rename_i x p
      simp only [Bool.and_eq_true, decide_eq_true_eq] at h
      obtain ⟨l1, l2⟩ := locB_ok h.2
      refine PG.imp (pg_name (i := i) (by rw [F.N]; exact F.nd) (by rw [F.N]; exact h.1) (by rw [F.sc]; exact l1) (by rw [F.fn, F.sc]; exact l2)) fun v σ H Q ⟨M, d, ρ, ρ', r, rn, hp, k⟩ => ?_
      simp only [putT] at hp
      obtain ⟨c, hp⟩ := ifn hp
      cases hp
      exact k _ (rn.set i r) fun vs hv => set_wipe (hv i (by simp [tgN]))
    · cases h
  | .tup ts, e, h => by
    simp only [chkT] at h
    split at h
    · rename_i es k p
      simp only [Bool.and_eq_true] at h
      obtain ⟨a1, a2⟩ := assignEach_none (env := X.env) h.1
      refine PG.imp (pg_tup (n := es.length) (F.calm hh) (pgs_ok F hh ts h.1 h.2) a2 a1) fun v σ H Q ⟨M, d, ρ, ρ', r, rn, hp, k⟩ => ?_
      have hl := chkTs_len _ _ _ h.2
      have key : ∀ ds a vs, d = .tuple ds → v = .ref a → SqT X.K H a vs → Rvs M H ds vs → gTup X.K es.length (tGs ts) v σ H Q := by
        rintro ds a vs rfl rfl hq rv
        simp only [putT] at hp
        refine ⟨a, vs, rfl, hq, ?_, M, ds, ρ, ρ', rv, rn, hp, fun σ' r' w => k σ' r' fun us hu => w us (fun i hi => hu i (by simpa [tgN] using hi))⟩
        rw [← rv.length, ← putTs_len _ _ _ _ hp, hl]
      rcases r with r | ⟨T, ds, vs, rfl, rfl, hT, rv⟩
      · cases d with
        | tuple ds =>
          obtain ⟨a, vs, rfl, h1, n1, q1⟩ := r.tupI
          exact key ds a vs rfl rfl h1.sq q1
        | _ => simp only [putT] at hp; cases hp
      · exact key ds T vs rfl rfl (SqT.of hT) rv
    · cases h
theorem pgs_ok (F : Fit P Γ X) (hh : Γ.hot = false) : ∀ (ts : List Tg) {es : List Expr}, es.all (fun e => !isStar e) = true → chkTs ts Γ es = true → PGs X es (tGs ts)
  | [], es, hs, h => by
    cases es with
    | nil =>
      refine PGs.imp pgs_nil fun xs σ H Q ⟨M, ds, ρ, ρ', r, rn, hp, k⟩ => ?_
      cases ds with
      | nil =>
        cases hp
        cases r
        exact ⟨rfl, k σ rn fun _ _ => rfl⟩
      | cons _ _ => cases hp
    | cons _ _ => cases h
  | t :: ts, es, hs, h => by
    cases es with
    | nil => cases h
    | cons e es =>
      simp only [chkTs, Bool.and_eq_true] at h
      rw [List.all_cons, Bool.and_eq_true] at hs
      refine PGs.imp (pgs_cons (pg_ok F hh t h.1) (pgs_ok F hh ts hs.2 h.2) (by rw [assignEach_cons (by simpa using hs.1)]; rfl)) fun xs σ H Q ⟨M, ds, ρ, ρ', r, rn, hp, k⟩ => ?_
      cases ds with
      | nil => cases hp
      | cons d ds =>
        cases r with
        | @cons _ _ v vs r1 r2 =>
          simp only [putTs] at hp
          split at hp
          · rename_i ρ1 h1
            refine ⟨v, vs, rfl, M, d, ρ, ρ1, ?_, rn, h1, fun σ' q' w1 => ⟨M, ds, ρ1, ρ', r2, q', hp, fun σ2 q2 w2 => k σ2 q2 fun us hu => ?_⟩⟩
            · cases t with
              | name i => exact r1
              | tup _ => exact .inl r1
            · rw [w2 us fun i hi => hu i (by simp [tgNs, hi]), w1 us fun i hi => hu i (by simp [tgNs, hi])]
          · cases hp
end
end
end PL
end

section
set_option Elab.async false
set_option linter.all false
set_option maxRecDepth 100000
set_option maxHeartbeats 1000000
/-! PLX5: own objects compared with anything, by the evaluator. -/
namespace PL
open PySem PySem.Spec PyProof.Rows L2
theorem anyT_of {P : Pg} {M : Ma} {H : Hp} {S : Sto} {d : D} {v : V} {c : Str} {b : Bool} {K : PySem.W.Frag} (em : P.Emb M H S) (r : Rv M H d v) (h : isiD S d (.cls c) = some b) :
    AnyT K (P.CA c) H v ∧ ∀ i a, M.n[i]? = some a → asRef d ≠ some i → v ≠ .ref a := by
  have mem : ∀ (i : Nat) (a : Addr), M.n[i]? = some a → a ∈ M := fun i a e => .inl (List.mem_of_getElem? e)
  have ob : ∀ (t : String), t ∈ kinds → ∀ {a' : Addr}, a' ∉ M → TyX K H (.ref a') (.type t) → v = .ref a' → AnyT K (P.CA c) H v ∧ ∀ i a, M.n[i]? = some a → asRef d ≠ some i → v ≠ .ref a := fun t ht a' hn ty e => by
    subst e
    refine ⟨.inr ⟨t, ht, ty⟩, fun i a hi _ e => ?_⟩
    cases e
    exact hn (mem i _ hi)
  have im : ∀ (t : String), t ∈ kinds → TyX K H v (.type t) → (∀ a, v ≠ .ref a) → AnyT K (P.CA c) H v ∧ ∀ i a, M.n[i]? = some a → asRef d ≠ some i → v ≠ .ref a := fun t ht ty hv => ⟨.inr ⟨t, ht, ty⟩, fun i a _ _ => hv a⟩
  have rf_ : ∀ (j : Nat) (l : Addr), d = rf j → M.n[j]? = some l → v = .ref l → AnyT K (P.CA c) H v → AnyT K (P.CA c) H v ∧ ∀ i a, M.n[i]? = some a → asRef d ≠ some i → v ≠ .ref a := fun j l hd hj hv t => by
    subst hd hv
    refine ⟨t, fun i a hi hne e => ?_⟩
    cases e
    have h1 := List.getElem?_eq_some_iff.mp hi
    have h2 := List.getElem?_eq_some_iff.mp hj
    obtain ⟨p1, q1⟩ := h1
    obtain ⟨p2, q2⟩ := h2
    have : i = j := (List.getElem_inj em.nd).mp (q1.trans q2.symm)
    subst this
    exact hne rfl
  unfold isiD at h
  simp only at h
  split at h
  · rename_i p hp
    obtain ⟨c', fs⟩ := p
    split at h
    · rename_i hc
      have hc' : c' = c := hc
      subst hc'
      cases ea : asRef d with
      | none => rw [ea] at hp; cases hp
      | some i =>
        rw [ea] at hp
        have ed := asRef_some ea
        subst ed
        obtain ⟨l, dx, vfs, rfl, hi, g1, _⟩ := em.ins hp r
        have q := rf_ i l rfl hi rfl (.inl ⟨l, dx, vfs, rfl, g1⟩)
        rw [ea] at q
        exact q
    · cases h
  · cases e : isi0 S d .str with
    | none => rw [e] at h; cases h
    | some w =>
      rw [e] at h
      cases d with
      | none => cases r; exact im _ (by decide) (.base .non) (fun _ z => nomatch z)
      | bool x => cases r; exact im _ (by decide) (.base (.bl x)) (fun _ z => nomatch z)
      | int x => cases r; exact im _ (by decide) (.base (.int x)) (fun _ z => nomatch z)
      | str x => cases r; exact im _ (by decide) (.base (.str x)) (fun _ z => nomatch z)
      | tuple xs =>
        cases r with
        | tup t n rv =>
          obtain ⟨o, g1, g2⟩ := t
          exact ob _ (by decide) n (.fTuple g1) rfl
      | list xs =>
        cases r with
        | lst g n rv => exact ob _ (by decide) n (.base (.lst g)) rfl
      | dict kvs =>
        unfold isi0 at e
        simp only at e
        split at e
        · cases e2 : lstD S (.dict kvs) with
          | none => rw [e2] at e; cases e
          | some xs =>
            obtain ⟨a, vs, rfl, g1, _⟩ := em.lst e2 r
            rcases lstD_some e2 with z | ⟨i, z, _⟩
            · cases z
            · have hz : PyData.dict kvs = rf i := z
              rw [hz] at r
              obtain ⟨a', e', hm⟩ := r.refI
              cases e'
              exact rf_ i a hz hm rfl (.inr ⟨_, by decide, .base (.lst g1)⟩)
        · rename_i cc
          cases r with
          | scr _ _ => exact absurd rfl cc
          | ref _ => exact absurd rfl cc
          | exn _ => exact absurd rfl cc
          | exnA _ _ _ => exact absurd rfl cc
          | exnH _ _ _ => exact absurd rfl cc
          | exaH _ _ _ _ _ => exact absurd rfl cc
          | dct q g1 n => exact ob _ (by decide) n (.base (.dK g1)) rfl
section
variable {P : Pg} {G : Calls} {Z : ZX} {n : Bool} {c : Str} {u w : E}
theorem oeq_case {K : PySem.W.Frag} {σ : L2.St} {H : Hp} {Q : VK} (h : tE P G Z (.oeq n c u w) σ H Q) :
    tOp (fun x y H Q => ∃ a dx fs, x = .ref a ∧ H a = some (.ins (P.CA c) dx fs) ∧ AnyT K (P.CA c) H y ∧ spG P (G (c ++ "." ++ "__eq__")) [x, y] H (fun v H' => ∃ q, v = .bl q ∧ Q (.bl (n != q)) H') (EZ P Z)) (tE P G Z u) (tE P G Z w) σ H Q := by
  obtain ⟨M, S, ρ, em, rn, q⟩ := h
  simp only [ev] at q
  refine tE.step em rn q fun v H1 M1 S1 d e1 em1 rn1 r1 k => tE.step em1 rn1 k fun t H2 M2 S2 d2 e2 em2 rn2 r2 k2 => ?_
  have r1' := r1.mono e2
  unfold ownEq at k2
  split at k2
  · rename_i c' fs hi
    split at k2
    · rename_i hc
      obtain ⟨rfl, hb⟩ := hc
      obtain ⟨b, hb⟩ := Option.isSome_iff_exists.mp hb
      cases ea : asRef d with
      | none => rw [ea] at hi; cases hi
      | some i =>
        rw [ea, Option.bind_some] at hi
        have ed := asRef_some ea
        subst ed
        obtain ⟨l, dx, vfs, rfl, _, g1, _⟩ := em2.ins hi r1'
        refine ⟨l, dx, vfs, rfl, g1, (anyT_of em2 r2 hb).1, M2, S2, [rf i, d2], em2, .cons r1' (.cons r2 .nil), ?_⟩
        have q2 := Res.bind (R := Rv) k2
        refine Res.zimp (Res.mono q2 fun v H' ⟨M', S', d, e, em', rv, z⟩ => ?_) fun y S M' H' em' z c d' hxa => ⟨y, S, M', em', hxa, z⟩
        split at z
        · rename_i b' 
          cases rv
          exact ⟨_, rfl, z.ok em' (.bl _)⟩
        · exact z.elim
    · exact k2.elim
  · exact k2.elim
theorem oin_case {K : PySem.W.Frag} {σ : L2.St} {H : Hp} {Q : VK} (h : tE P G Z (.oin c u w) σ H Q) :
    tOp (fun x y H Q => ∃ p a dx fs, y = .ref p ∧ H p = some (.lst [.ref a]) ∧ H a = some (.ins (P.CA c) dx fs) ∧ AnyT K (P.CA c) H x ∧ x ≠ .ref a ∧ spG P (G (c ++ "." ++ "__eq__")) [.ref a, x] H (fun v H' => ∃ q, v = .bl q ∧ H' p = some (.lst [.ref a]) ∧ Q (.bl q) H') (EZ P Z)) (tE P G Z u) (tLst (tEs P G Z [w])) σ H Q := by
  obtain ⟨M, S, ρ, em, rn, q⟩ := h
  simp only [ev] at q
  refine tE.step em rn q fun v H1 M1 S1 d e1 em1 rn1 r1 k => ?_
  refine ⟨M1, S1, ρ, em1, rn1, ?_⟩
  simp only [evs]
  generalize ev G P.gi w ρ S1 = o at k
  cases o with
  | bad => exact k.elim
  | exc x S1 => exact k
  | ok d2 S2 =>
    intro M2 H2 vs e2 em2 rv
    obtain ⟨t, rfl, r2⟩ := rv.o1
    simp only [Out.bind_ok] at k
    refine ⟨by have := sizeLine; simp; decide, fun p hp => ?_⟩
    have e3 : Ext M2 H2 M2 (upd H2 p (.lst [t])) := Ext.alloc hp
    have em3 := em2.alloc (o := .lst [t]) hp
    have r1' := (r1.mono e2).mono e3
    have r2' := r2.mono e3
    have k2 := Res.ext k (e2.trans e3)
    have hpM : p ∉ M2 := em2.no hp
    split at k2
    · rename_i hne
      unfold ownEq at k2
      split at k2
      · rename_i c' fs hi
        split at k2
        · rename_i hc
          obtain ⟨rfl, hb⟩ := hc
          obtain ⟨b, hb⟩ := Option.isSome_iff_exists.mp hb
          cases ea : asRef d2 with
          | none => rw [ea] at hi; cases hi
          | some i =>
            rw [ea, Option.bind_some] at hi
            have ed := asRef_some ea
            subst ed
            obtain ⟨l, dx, vfs, rfl, hm, g1, _⟩ := em3.ins hi r2'
            obtain ⟨at1, at2⟩ := anyT_of (K := K) em3 r1' hb
            refine ⟨p, l, dx, vfs, rfl, upd_same, g1, at1, at2 i l hm (by rw [ea] at hne; exact hne), M2, S2, [rf i, d], em3, .cons r2' (.cons r1' .nil), ?_⟩
            have q2 := Res.bind (R := Rv) k2
            refine Res.zimp (Res.mono q2 fun v H' ⟨M', S', d, e, em', rv, z⟩ => ?_) fun y S M' H' em' z c d' hxa => ⟨y, S, M', em', hxa, z⟩
            split at z
            · rename_i b'
              cases rv
              refine ⟨_, rfl, e.keep p _ upd_same hpM (fun _ z => nomatch z), ?_⟩
              have z2 := z.ok em' (.bl _)
              simpa using z2
            · exact z.elim
        · exact k2.elim
      · exact k2.elim
    · exact k2.elim
theorem onin_case {σ : L2.St} {H : Hp} {Q : VK} (h : tE P G Z (.onin c u w) σ H Q) :
    tOp (fun x y H Q => ∃ p a b dx fs, x = .ref b ∧ y = .ref p ∧ H p = some (.lst [.non, .ref a]) ∧ H b = some (.ins (P.CA c) dx fs) ∧ b ≠ a ∧ spG P (G (c ++ "." ++ "__eq__")) [.ref b, .non] H (fun v H' => v = .bl false ∧ H' p = some (.lst [.non, .ref a]) ∧
      ∃ da ga db gb, H' a = some (.ins (P.CA c) da ga) ∧ H' b = some (.ins (P.CA c) db gb) ∧ spG P (G (c ++ "." ++ "__eq__")) [.ref a, .ref b] H' (fun v H'' => ∃ q, v = .bl q ∧ H'' p = some (.lst [.non, .ref a]) ∧ Q (.bl (!q)) H'') (EZ P Z)) (EZ P Z)) (tE P G Z u) (tLst (tEs P G Z [.non, w])) σ H Q := by
  obtain ⟨M, S, ρ, em, rn, q⟩ := h
  simp only [ev] at q
  refine tE.step em rn q fun v H1 M1 S1 d e1 em1 rn1 r1 k => ?_
  refine ⟨M1, S1, ρ, em1, rn1, ?_⟩
  have en : ev G P.gi .non ρ S1 = .ok .none S1 := by rw [ev]
  simp only [evs, en, Out.bind_ok]
  generalize ev G P.gi w ρ S1 = o at k
  cases o with
  | bad => exact k.elim
  | exc x S1 => exact k
  | ok d2 S2 =>
    intro M2 H2 vs e2 em2 rv
    obtain ⟨t, rfl, r2⟩ : ∃ t, vs = [.non, t] ∧ Rv M2 H2 d2 t := by
      cases rv with
      | cons r0 rv => cases rv with
        | cons r2 rv =>
          cases rv
          cases r0
          exact ⟨_, rfl, r2⟩
    simp only [Out.bind_ok] at k
    refine ⟨by have := sizeLine; simp; decide, fun p hp => ?_⟩
    have e3 : Ext M2 H2 M2 (upd H2 p (.lst [.non, t])) := Ext.alloc hp
    have em3 := em2.alloc (o := .lst [.non, t]) hp
    have r1' := (r1.mono e2).mono e3
    have r2' := r2.mono e3
    have k2 := Res.ext k (e2.trans e3)
    have hpM : p ∉ M2 := em2.no hp
    split at k2
    · rename_i hne
      unfold ninEq at k2
      split at k2
      · rename_i c' fs hi
        split at k2
        · rename_i hc
          obtain ⟨rfl, hy⟩ := hc
          obtain ⟨iy, ey⟩ := Option.isSome_iff_exists.mp hy
          have edy := asRef_some ey
          subst edy
          obtain ⟨a, rfl, hay⟩ := r2'.refI
          cases ea : asRef d with
          | none => rw [ea] at hi; cases hi
          | some i =>
            rw [ea, Option.bind_some] at hi
            have ed := asRef_some ea
            subst ed
            obtain ⟨l, dx, vfs, rfl, hm, g1, _⟩ := em3.ins hi r1'
            have hla : l ≠ a := fun e => by
              subst e
              obtain ⟨p1, q1⟩ := List.getElem?_eq_some_iff.mp hm
              obtain ⟨p2, q2⟩ := List.getElem?_eq_some_iff.mp hay
              have : i = iy := (List.getElem_inj em3.nd).mp (q1.trans q2.symm)
              subst this
              exact hne rfl
            refine ⟨p, a, l, dx, vfs, rfl, rfl, upd_same, g1, hla, M2, S2, [rf i, .none], em3, .cons r1' (.cons .non .nil), ?_⟩
            have q2 := Res.bind (R := Rv) k2
            refine Res.zimp (Res.mono q2 fun v H' ⟨M', S', d, e, em', rv, z⟩ => ?_) fun y S M' H' em' z c d' hxa => ⟨y, S, M', em', hxa, z⟩
            split at z
            · cases rv
              split at z
              · rename_i hx
                have rx2 := r1'.mono e
                have ry2 := r2'.mono e
                have ix : ∃ fs2, insD S' i = some (c', fs2) := by
                  unfold isiD at hx
                  simp only [asRef_rf, Option.bind_some] at hx
                  split at hx
                  · rename_i p2 hp2
                    obtain ⟨c2, fs2⟩ := p2
                    split at hx
                    · rename_i hc2
                      have hc2 : c2 = c' := hc2
                      subst hc2
                      exact ⟨_, hp2⟩
                    · cases hx
                  · cases hz : isi0 S' (rf i) .str with
                    | none => rw [hz] at hx; cases hx
                    | some b => rw [hz] at hx; cases hx
                obtain ⟨fs2, ix⟩ := ix
                obtain ⟨l2, dx2, vfs2, el, _, g2, _⟩ := em'.ins ix rx2
                cases el
                unfold ownEq at z
                rw [asRef_rf, Option.bind_some] at z
                split at z
                · rename_i c3 fs3 hi3
                  split at z
                  · rename_i hc3
                    obtain ⟨rfl, _⟩ := hc3
                    obtain ⟨l3, dx3, vfs3, el3, _, g3, _⟩ := em'.ins hi3 ry2
                    cases el3
                    have hp' := e.keep p _ upd_same hpM (fun _ z => nomatch z)
                    refine ⟨rfl, hp', dx3, vfs3, dx2, vfs2, g3, g2, M', S', [rf iy, rf i], em', .cons ry2 (.cons rx2 .nil), ?_⟩
                    have q4 := Res.bind (R := Rv) z
                    have hpM' : p ∉ M' := fun hm => by
                      obtain ⟨ps, z⟩ := e.new p hm hpM _ upd_same
                      cases z
                    refine Res.zimp (Res.mono q4 fun v H'' ⟨M'', S'', d, e', em'', rv, z⟩ => ?_) fun y S M' H' em' z c d' hxa => ⟨y, S, M', em', hxa, z⟩
                    split at z
                    · rename_i b'
                      cases rv
                      refine ⟨_, rfl, e'.keep p _ hp' hpM' (fun _ z => nomatch z), ?_⟩
                      have z2 := z.ok em'' (.bl _)
                      simpa using z2
                    · exact z.elim
                  · exact z.elim
                · exact z.elim
              · exact z.elim
            · exact z.elim
        · exact k2.elim
      · exact k2.elim
    · exact k2.elim
end
end PL
end

section
set_option Elab.async false
set_option linter.all false
set_option maxRecDepth 100000
set_option maxHeartbeats 1000000
/-! PLL: comprehensions by the evaluator. -/
namespace PL
open PySem PySem.Spec PyProof.Rows L2
def ZF : ZX := fun _ _ _ _ => False
section
variable {T : List (Addr × Str)} {CA : Str → Addr} {KF : (PySem.W.Frag × (Str → Option (Addr × Bool))) × Option (Addr × Str × Option Addr)} {M : Ma} {H : Hp} {S : Sto} {q : Addr}
theorem Ma.tell_no {M : Ma} {a q : Addr} (h : a ∉ M) (hq : q ∈ M.f) : a ∉ (M.del q).push q := fun z => by
  rcases z with z | z
  · rcases List.mem_append.mp z with z | z
    · exact h (.inl z)
    · exact Ma.ne_of h hq (List.mem_singleton.mp z)
  · exact h (.inr (List.mem_filter.mp z).1)
mutual
theorem Rv.tell (hq : q ∈ M.f) : ∀ {d : D} {v : V}, Rv M H d v → Rv ((M.del q).push q) H d v
  | _, _, .non => .non
  | _, _, .bl b => .bl b
  | _, _, .int i => .int i
  | _, _, .str x => .str x
  | _, _, .tup h m r => .tup h (Ma.tell_no m hq) (Rvs.tell hq r)
  | _, _, .lst h m r => .lst h (Ma.tell_no m hq) (Rvs.tell hq r)
  | _, _, .scr h r => .scr (h.sub rfl fun m => Ma.tell_no m hq) (Rvs.tell hq r)
  | _, _, .dct e h m => .dct e h (Ma.tell_no m hq)
  | _, _, .ref h => .ref (by
    show (M.n ++ [q])[_]? = _
    rw [List.getElem?_append_left (List.getElem?_eq_some_iff.mp h).1]
    exact h)
  | _, _, .exn h => .exn h
  | _, _, .exnA h k m => .exnA h k (Ma.tell_no m hq)
  | _, _, .exnH k h m => .exnH k h (Ma.tell_no m hq)
  | _, _, .exaH k h m h2 m2 => .exaH k h (Ma.tell_no m hq) h2 (Ma.tell_no m2 hq)
theorem Rvs.tell (hq : q ∈ M.f) : ∀ {ds : List D} {vs : List V}, Rvs M H ds vs → Rvs ((M.del q).push q) H ds vs
  | _, _, .nil => .nil
  | _, _, .cons r t => .cons (Rv.tell hq r) (Rvs.tell hq t)
end
theorem Emb.tell {ds : List D} {vs : List V} (e : Emb T CA KF M H S) (hf : q ∈ M.f) (hq : H q = some (.lst vs)) (r : Rvs M H ds vs) : Emb T CA KF ((M.del q).push q) H (S ++ [.lst ds]) := by
  have hn := (e.df q hf).2
  refine ⟨e.kf, ?_, ?_, fun a ha => ?_, fun i a u h1 h2 => ?_, e.tb⟩
  · show (M.n ++ [q]).length = _
    simp [e.len]
  · show (M.n ++ [q]).Nodup
    refine List.nodup_append.mpr ⟨e.nd, by simp, fun a ha b hb => ?_⟩
    rw [List.mem_singleton.mp hb]
    exact fun z => hn (z ▸ ha)
  · have h1 := List.mem_filter.mp ha
    refine ⟨(e.df a h1.1).1, fun z => ?_⟩
    rcases List.mem_append.mp z with z | z
    · exact (e.df a h1.1).2 z
    · have : a ≠ q := by simpa using h1.2
      exact this (List.mem_singleton.mp z)
  · change (M.n ++ [q])[i]? = some a at h1
    by_cases hi : i < M.n.length
    · rw [List.getElem?_append_left hi] at h1
      rw [List.getElem?_append_left (by rw [← e.len]; exact hi)] at h2
      have w := e.ob i a u h1 h2
      cases u with
      | lst ds => obtain ⟨vs, g1, g2⟩ := w; exact ⟨vs, g1, g2.tell hf⟩
      | ins c fs =>
        obtain ⟨dx, vfs, g1, g2, g3, g4⟩ := w
        exact ⟨dx, vfs, g1, g2, Ma.tell_no g3 hf, Paired.mapP g4 fun _ _ p => ⟨p.1, p.2.tell hf⟩⟩
    · have hl := (List.getElem?_eq_some_iff.mp h1).1
      simp at hl
      have hi' : i = M.n.length := by omega
      subst hi'
      simp at h1
      rw [e.len] at h2
      simp at h2
      subst h1 h2
      exact ⟨vs, hq, r.tell hf⟩
theorem Ext.tell {M' : Ma} {H' : Hp} (em : Emb T CA KF M H S) (e : Ext M H M' H') (hq : H q = none) : Ext M H ((M'.del q).push q) H' := by
  obtain ⟨N, hN⟩ := e.pre.1
  have w := Ext.outw em e hq
  refine ⟨⟨⟨⟨N ++ [q], ?_⟩, e.pre.2⟩, w.sub, e.keep, fun a h n u q' => ?_⟩, e.kf⟩
  · show M'.n ++ [q] = _
    rw [hN, List.append_assoc]
  · rcases h with h | h
    · rcases List.mem_append.mp h with h | h
      · exact e.new a (.inl h) n u q'
      · rw [List.mem_singleton.mp h, hq] at q'; cases q'
    · exact e.new a (.inr (List.mem_filter.mp h).1) n u q'
end
theorem wipe_wipe {σ : L2.St} {vs : List Nat} : ∀ us : List Nat, (∀ i ∈ us, i ∈ vs) → L2.wipe (L2.wipe σ us) vs = L2.wipe σ vs
  | [], _ => rfl
  | u :: us, h => by
    show L2.wipe ((L2.wipe σ us).set u none) vs = _
    rw [set_wipe (h u List.mem_cons_self)]
    exact wipe_wipe us fun i hi => h i (List.mem_cons_of_mem _ hi)
/-- the tests of a comprehension -/
def tC' (P : Pg) (G : Calls) (m : Option E) : TT := fun σ H Q => ∃ M S ρ, P.Emb M H S ∧ Renv M H ρ σ ∧ Res P Rv M H (evc G P.gi m ρ S) (fun v H' => ∃ b, v = .bl b ∧ Q b H') ZF
theorem PTs.imp {X : Cx} {e : List Expr} {t t' : TT} (h : PTs X e t) (i : ∀ σ H Q, t' σ H Q → t σ H Q) : PTs X e t' := ⟨fun pins s σ H Q I q => h.run pins s σ H Q I (i σ H Q q)⟩
theorem pts_ok0 {P : Pg} {G : Calls} {X : Cx} : PTs X [] (tC' P G none) := PTs.imp pts_nil fun σ H Q ⟨M, S, ρ, em, rn, h⟩ => by
  obtain ⟨b, e, q⟩ := Res.ok h em (.bl true)
  cases e
  exact q
theorem pts_ok1 {P : Pg} {G : Calls} {X : Cx} {e : Expr} {m : E} (h : PT X e (tT P G ZF m)) : PTs X [e] (tC' P G (some m)) := PTs.imp (pts_one h) fun σ H Q ⟨M, S, ρ, em, rn, h⟩ => ⟨M, S, ρ, em, rn, h⟩
theorem drop_get {α : Type} {l : List α} {i : Nat} {d : α} (h : l[i]? = some d) : l.drop i = d :: l.drop (i + 1) := by
  obtain ⟨h1, h2⟩ := List.getElem?_eq_some_iff.mp h
  rw [List.drop_eq_getElem_cons h1, h2]
section
variable {P : Pg} {Γ : Ga} {X : Cx} {G : Calls} {Z : ZX}
theorem comp_ok (F : Fit P Γ X) {r : Bool} {elt : E} {own : List Nat} {tg : Tg} {it : I} {cond : Option E} {x t itx : Expr} {ifs : List Expr} {scope : Scope} {pos : Pos} {own' : List (Str × Nat)} (ho : own'.map (·.2) = own) (htg : ∀ i ∈ tgN tg, i ∈ own)
    (hi : PI X t itx (tI P G Z it)) (ok : BlkOk X.N X.env.scope scope own')
    (hg : ∀ (s : Shared) (H : Hp) (C : Addr) (cl : List (Str × Addr)) (fp : List Addr), PG (X.blk s H scope (compEnvC scope cl C X.env) fp) t (tG tg)) (ht : ∀ (s : Shared) (H : Hp) (C : Addr) (cl : List (Str × Addr)) (fp : List Addr), PTs (X.blk s H scope (compEnvC scope cl C X.env) fp) ifs (tC' P G cond))
    (he : ∀ (s : Shared) (H : Hp) (C : Addr) (cl : List (Str × Addr)) (fp : List Addr), PE (X.blk s H scope (compEnvC scope cl C X.env) fp) x (tE P G ZF elt)) (σ : L2.St) (H : Hp) (Q : VK) (h : tE P G Z (.comp r elt own tg it cond) σ H Q) :
    tLc (tI P G Z it) (tG tg) (tC' P G cond) (tE P G ZF elt) (own'.map (·.2)) σ H Q := by
  obtain ⟨M, S, ρ, em, rn, h⟩ := h
  simp only [ev] at h
  rw [ho]
  refine ⟨M, S, ρ, em, rn, (Res.bind h).mono fun J H1 ⟨M1, S1, w, e1, em1, ⟨W, Y, walk, stand, yield⟩, k⟩ Da hD => ?_⟩
  split at k
  · exact k.elim
  rename_i hnp
  have rn1 := rn.mono e1
  -- the rest of the turns, as the evaluator has it
  let cont := fun (i : Nat) (acc : List D) (S' : Sto) => (compL w.ok (fun d => putT tg d (wipe ρ own)) (fun ρ S => evc G P.gi cond ρ S) (fun ρ S => ev G P.gi elt ρ S) (w.items.drop i) acc S').bind fun ws S1 => allocL r ws S1
  have hlen : ∀ acc S' i, Res P Rv M1 H1 (cont i acc S') Q Z → w.ok S' := fun acc S' i hc => by
    have hc : Res P Rv M1 H1 ((compL w.ok (fun d => putT tg d (wipe ρ own)) (fun ρ S => evc G P.gi cond ρ S) (fun ρ S => ev G P.gi elt ρ S) (w.items.drop i) acc S').bind fun ws S1 => allocL r ws S1) Q Z := hc
    cases e : w.items.drop i with
    | nil =>
      rw [e] at hc
      simp only [compL] at hc
      split at hc
      · assumption
      · exact hc.elim
    | cons d ds =>
      rw [e] at hc
      simp only [compL] at hc
      split at hc
      · assumption
      · exact hc.elim
  refine lc_it walk (Pv := fun i H' => ∃ M' S' acc accV, Ext M1 H1 M' H' ∧ P.Emb M' H' S' ∧ Da ∈ M'.f ∧ H' Da = some (.lst accV) ∧ Rvs M' H' acc accV ∧ Res P Rv M1 H1 (cont i acc S') Q Z)
    ⟨M1.add Da, S1, [], [], Ext.inn hD, em1.inn hD, List.mem_cons_self, upd_same, .nil, k⟩ (fun i H' hi ⟨M', S', acc, accV, e2, em2, hf, hd, rv, hc⟩ => stand M' H' S' e2 em2 (hlen acc S' i hc)) ?_ ?_
  · rintro i xv H' H'' hi ⟨M', S', acc, accV, e2, em2, hf, hd, rv, hc⟩ hy
    have hok := hlen acc S' i hc
    obtain ⟨d, hget, em3, e3, rw3, rv3⟩ := yield i M' H' S' xv H'' e2 em2 hok hy
    have hc : Res P Rv M1 H1 ((compL w.ok (fun d => putT tg d (wipe ρ own)) (fun ρ S => evc G P.gi cond ρ S) (fun ρ S => ev G P.gi elt ρ S) (w.items.drop i) acc S').bind fun ws S1 => allocL r ws S1) Q Z := hc
    rw [drop_get hget] at hc
    simp only [compL] at hc
    rw [if_pos hok] at hc
    cases hput : putT tg d (wipe ρ own) with
    | none => rw [hput] at hc; exact hc.elim
    | some ρ2 =>
      rw [hput] at hc
      simp only at hc
      have rg : Rg M' H'' tg d xv := by
        cases tg with
        | name j => exact rv3 (by simpa [isNm] using hnp)
        | tup ts => exact rw3
      refine ⟨M', d, wipe ρ own, ρ2, rg, ((rn1.mono e2).mono e3).wipe own, hput, fun σ2 rn2 hw => ⟨?_, ?_⟩⟩
      · rw [hw own htg]
        exact wipe_wipe own fun i hi => hi
      · refine ⟨M', S', ρ2, em3, rn2, ?_⟩
        cases hcond : evc G P.gi cond ρ2 S' with
        | bad => rw [hcond] at hc; exact hc.elim
        | exc y S3 => rw [hcond] at hc; exact hc.elim
        | ok b S3 =>
          rw [hcond] at hc
          intro M3 H3 bv e4 em4 rb
          cases b with
          | bool b =>
            cases rb
            refine ⟨b, rfl, ?_⟩
            have hd4 : H3 Da = some (.lst accV) := e4.kf _ _ (e3.kf _ _ hd hf fun _ z => nomatch z) hf (fun _ z => nomatch z)
            have hf3 : Da ∈ M3.f := e4.sub _ hf
            have e24 : Ext M1 H1 M3 H3 := e2.trans (e3.trans e4)
            have rv3 := (rv.mono e3).mono e4
            cases b with
            | false =>
              exact ⟨M3, S3, acc, accV, e24, em4, hf3, hd4, rv3, hc⟩
            | true =>
              refine ⟨M3, S3, ρ2, em4, rn2.mono e4, ?_⟩
              simp only at hc
              cases hel : ev G P.gi elt ρ2 S3 with
              | bad => rw [hel] at hc; exact hc.elim
              | exc y S5 => rw [hel] at hc; exact hc.elim
              | ok wd S5 =>
                rw [hel] at hc
                simp only at hc
                intro M5 H5 y e5 em5 r5
                split at hc
                · rename_i hl
                  have hd5 := e5.kf _ _ hd4 hf3 (fun _ z => nomatch z)
                  have hf5 := e5.sub _ hf3
                  have rv5 := rv3.mono e5
                  have e25 := e24.trans e5
                  have xw : ExtW M5 H5 M5 (upd H5 Da (.lst (accV ++ [y]))) := ExtW.mut (.inr hf5)
                  refine ⟨accV, hd5, by rw [← lim_eq, ← rv5.length]; exact hl, M5, S5, acc ++ [wd], accV ++ [y], e25.updN hD, em5.step hf5 hd5, hf5, upd_same, (rv5.append (.cons r5 .nil)).monoW xw, hc⟩
                · exact hc.elim
          | _ => exact hc.elim
  · rintro H' ⟨M', S', acc, accV, e2, em2, hf, hd, rv, hc⟩
    have hc : Res P Rv M1 H1 ((compL w.ok (fun d => putT tg d (wipe ρ own)) (fun ρ S => evc G P.gi cond ρ S) (fun ρ S => ev G P.gi elt ρ S) (w.items.drop w.items.length) acc S').bind fun ws S1 => allocL r ws S1) Q Z := hc
    have hok := hlen acc S' _ hc
    rw [List.drop_length] at hc
    simp only [compL] at hc
    rw [if_pos hok] at hc
    simp only [Out.bind_ok] at hc
    unfold allocL at hc
    have hn := (em2.df Da hf).2
    split at hc
    · cases r with
      | true =>
        rw [if_pos rfl] at hc
        refine hc ((M'.del Da).push Da) H' (.ref Da) (Ext.tell em1 e2 hD) (Emb.tell em2 hf hd rv) (.ref ?_)
        rw [← em2.len]
        show (M'.n ++ [Da])[M'.n.length]? = some Da
        simp
      | false =>
        rw [if_neg (by decide)] at hc
        refine hc (M'.del Da) H' (.ref Da) (Ext.outw em1 e2 hD) (em2.outw hf) (.lst hd ?_ rv.less)
        rintro (z | z)
        · exact hn z
        · have := (List.mem_filter.mp z).2
          simp at this
    · exact hc.elim
end
end PL
end

section
set_option Elab.async false
set_option linter.all false
set_option maxRecDepth 100000
set_option maxHeartbeats 1000000
/-! PLM: a text's expression is the evaluator's. -/
namespace PL
open PySem PySem.Spec PyProof.Rows L2
/-- an own class: its fields, its methods with their defaults -/
structure ClsG (P : Pg) (n : Nat) (G : Calls) (c : Str) (fs : List Str) (ms : List (Str × List Int)) : Prop where
  mg : P.mg c = some (.ref (P.CA c))
  kp : PySem.W.keepIn P.K (.ref (P.CA c)) = true
  cl : Cls P.K (P.CA c)
  noat : ∀ f ∈ fs, NoAttr P.K (P.CA c) f
  new_ : ∃ f fd ps, Mk P.K (P.CA c) f ∧ Binds P.K fd ps [] ∧ FnG P.prog P.w P.K P.mg P.base (4 * n + 1) f fd ps (spG P (G (c ++ ".__init__")))
  meth : ∀ m ds, ms.lookup m = some ds → ∃ f fd ps, Meth P.K (P.CA c) m f ∧ FnG P.prog P.w P.K P.mg P.base (4 * n + 1) f fd ps (spG P (G (c ++ "." ++ m))) ∧ ∀ j, j ≤ ds.length → ∃ us, Vals ((ds.drop j).map V.int) us ∧ Binds P.K fd ps us
/-- isinstance of own classes -/
structure IsG (P : Pg) (gt : Gt) : Prop where
  ty : ∀ c fs ms, gt.lookup c = some (.cls fs ms) → ∀ t ∈ (["NoneType", "bool", "int", "str", "tuple", "list", "dict"] : List String), PySem.W.kitOne P.K (.type t) (.ref (P.CA c)) = some false
  own : ∀ c fs ms, gt.lookup c = some (.cls fs ms) → ∀ (H : Hp) (l dx : Addr) (vfs : List (Str × V)), H l = some (.ins (P.CA c) dx vfs) → TyX P.K H (.ref l) (.ref (P.CA c))
  two : ∀ c fs ms, gt.lookup c = some (.cls fs ms) → PySem.W.kitOne P.K (.ref (P.CA c)) (.ref (P.CA c)) = some true
  ne : ∀ c fs ms, gt.lookup c = some (.cls fs ms) → (PySem.W.findIn P.K (.ref (P.CA c)) "__ne__" = some (some (.builtin "object.__ne__")) ∧ PySem.W.subIn P.K (.ref (P.CA c)) (.type "object") = some true) ∧ PySem.W.subIn P.K (.ref (P.CA c)) (.type "NoneType") = some false
/-- the exceptions' classes -/
structure ExG (P : Pg) (gt : Gt) : Prop where
  mg : ∀ c r, gt.lookup c = some (.exc r) → P.mg c = some (.ref (P.CA c)) ∧ c ∈ P.xs ∧ (r = true → c ∈ P.xr)
  ok : ∀ c ∈ P.xr, ExcC P.K (P.CA c)
  kit : ∀ c ∈ P.xr, ∀ d ∈ P.xs, PySem.W.kitOne P.K (.ref (P.CA c)) (.ref (P.CA d)) = some (xsub c d)
  val : ∀ c ∈ P.xr, PySem.W.kitOne P.K (.ref (P.CA c)) (.type "ValueError") = some true
  club : ∀ c ∈ P.xr, PySem.W.exmOne P.K (.ref (P.CA c)) (.ref (P.CA "ClubError")) = some true
  raise_ : ∀ c, gt.lookup c = some (.exc true) → PySem.W.excIn P.K (P.CA c) He.veBase "ValueError.__new__" = true ∧ PySem.W.keepIn P.K (.ref (P.CA c)) = true ∧ PySem.W.subIn P.K (.ref (P.CA c)) (.type "BaseException") = some true ∧ PySem.W.typeIn P.K (.ref (P.CA c)) = some (.type "type")
  mga : ∀ c, gt.lookup c = some .excA → P.mg c = some (.ref (P.CA c)) ∧ c ∈ P.xs ∧ c ∈ P.xr ∧ c ∈ P.xa
  at_ : ∀ c ∈ P.xa, XfC P.K (P.CA c) ∧ PySem.W.findIn P.K (.ref (P.CA c)) "at" = some none
  mka : ∀ c, gt.lookup c = some .excA → OexC P.K (P.CA c) ∧ ∃ fI fd ps, PySem.W.findIn P.K (.ref (P.CA c)) "__init__" = some (some (.ref fI)) ∧ PySem.W.typeIn P.K (.ref fI) = some (.type "function") ∧ FnOk P.prog P.w P.K P.mg P.base C8.CX0 1 fI fd ps (spA (P.CA c)) ∧ Binds P.K fd ps []
/-- what _law_said makes of the lambda's reading -/
def TTs (P : Pg) (G : Calls) (tl : XK → Hp → VK → Prop) (H : Hp) (Q : VK) : Prop :=
  tl (fun c d H' => ∃ x S' M', P.Emb M' H' S' ∧ P.XA x c d M' H' ∧ ∃ w T, G "_law_word" [exV x] [] = .ok (.str w) T ∧ ∀ H2, Ext M' H' M' H2 → P.Emb M' H2 S' → Q (.str w) H2) H
    fun v H' => rs P ZF (biD .repr) [v] H' Q
/-- the def that calls the lambda it gets -/
structure SaidG (P : Pg) (n : Nat) (G : Calls) (x : Str) : Prop where
  ex : ∃ (g : Addr) (fd : FuncData) (Ng : List Str) (av : Str) (params : Arguments) (bg : List Stmt) (sg : Scope), P.mg x = some (.ref g) ∧ FunD P.K x x params bg sg [] [] g fd ∧ Binds P.K fd [av] [] ∧ FnScope Ng [av] sg ∧ Ng[0]? = some av ∧ Vis sg av ∧
    (av == ("__debug__" : Str)) = false ∧ (av == ("__classdict__" : Str)) = false ∧
    ∀ (A : Around) (outer : List PySem.Env) (cdv : Value) (s : Shared) (H : Hp) (f c' : Addr) (q : Str) (Q : VK) (tl : XK → Hp → VK → Prop), Room (4 * n + 3) (A.deeper (envOfC x sg s.heap.objs.size g cdv)) → A.guards = some [] →
      (∀ (W : WX) (pn : List (Addr × Obj)) (xe : Value → Shared → Prop) (E : XK) (p1 p2 : Pos), L2N.Takes ((cxOf C8.CX0 P.prog P.w P.K P.mg P.base Ng x sg g cdv A outer s H C8.E0).tr pn xe) W → (∀ cls d σ' H', E cls d H' → W cls d σ' H') →
        PE ((cxOf C8.CX0 P.prog P.w P.K P.mg P.base Ng x sg g cdv A outer s H C8.E0).tr pn xe) (.Call (.Name av p1) [] [] p2) (fun σZ HZ Q => σZ[0]? = some (some (.ref f)) ∧ HZ c' = some (LamX.CodeO c' q) ∧ tl E HZ Q)) →
      H c' = some (LamX.CodeO c' q) → TTs P G tl H Q →
      ∃ t, PSs (cxOf C8.CX0 P.prog P.w P.K P.mg P.base Ng x sg g cdv A outer s H C8.E0).nox bg t ∧ t { nx := fun _ H' => Q .non H', rt := Q } (L2.start Ng [.ref f]) H
/-- the globals, the defs at n calls -/
structure Cg (P : Pg) (n : Nat) (G : Calls) (gt : Gt) : Prop where
  blt : ∀ x, gt.lookup x = some .blt → P.mg x = none
  int : ∀ x, gt.lookup x = some .int → ∃ i t, P.mg x = some (.int i t) ∧ P.gi x = some i
  str : ∀ x z, gt.lookup x = some (.str z) → ∃ t, P.mg x = some (.str z t)
  fn : ∀ x, gt.lookup x = some .fn → ∃ f fd ps, P.mg x = some (.ref f) ∧ PySem.W.keepIn P.K (.ref f) = true ∧ Binds P.K fd ps [] ∧ FnG P.prog P.w P.K P.mg P.base (4 * n + 1) f fd ps (spG P (G x))
  cls : ∀ x fs ms, gt.lookup x = some (.cls fs ms) → ClsG P n G x fs ms
  isg : IsG P gt
  exg : ExG P gt
  said : ∀ x, gt.lookup x = some .said → SaidG P n G x
  fnd : ∀ x ds, gt.lookup x = some (.fnD ds) → ∃ f fd ps, P.mg x = some (.ref f) ∧ PySem.W.keepIn P.K (.ref f) = true ∧ FnG P.prog P.w P.K P.mg P.base (4 * n + 1) f fd ps (spG P (G x)) ∧ ∀ j, j ≤ ds.length → ∃ us, Vals ((ds.drop j).map V.int) us ∧ Binds P.K fd ps us
def dbg (x : Str) : Bool := !(x == ("__debug__" : Str)) && !(x == ("__classdict__" : Str)) && !decide (x = "__name__")
def visB (sc : Scope) (x : Str) : Bool := match sc.names.lookup x with
  | some .local => true
  | some .cell => true
  | some .free => true
  | _ => false
def glB (gt : Gt) (sc : Scope) (x : Str) (k : Gk) : Bool := decide (sc.names.lookup x = some .globalImplicit) && decide (gt.lookup x = some k) && dbg x
def opIs : Op → Operator → Bool
  | .add, .Add => true
  | .sub, .Sub => true
  | .mul, .Mult => true
  | .fdiv, .FloorDiv => true
  | .mod, .Mod => true
  | .pow, .Pow => true
  | _, _ => false
theorem opIs_eq {o : Op} {q : Operator} (h : opIs o q = true) : q = opOf o := by
  cases o <;> cases q <;> first | rfl | cases h
def cmIs : Cm → CmpOp → Bool
  | .eq, .Eq => true
  | .ne, .NotEq => true
  | .lt, .Lt => true
  | .le, .LtE => true
  | .gt, .Gt => true
  | .in_, .In => true
  | .nin, .NotIn => true
  | _, _ => false
theorem cmIs_eq {o : Cm} {q : CmpOp} (h : cmIs o q = true) : q = cmOf o := by
  cases o <;> cases q <;> first | rfl | cases h
/-- built-ins that are served -/
def biName : Bi → Option (Str × Value)
  | .len => some ("len", .builtin "len")
  | .str => some ("str", .type "str")
  | .int => some ("int", .type "int")
  | .list _ => some ("list", .type "list")
  | .tuple => some ("tuple", .type "tuple")
  | .sorted _ => some ("sorted", .builtin "sorted")
  | .max2 => some ("max", .builtin "max")
  | .min2 => some ("min", .builtin "min")
  | .repr => some ("repr", .builtin "repr")
  | .min1 => some ("min", .builtin "min")
  | .abs => some ("abs", .builtin "abs")
  | .divmod => some ("divmod", .builtin "divmod")
  | .all => some ("all", .builtin "all")
  | .any => some ("any", .builtin "any")
  | .sum => some ("sum", .builtin "sum")
  | .sumT => some ("sum", .builtin "sum")
  | _ => none
def biIs (f : Bi) (x : Str) : Bool := match biName f with
  | some p => decide (x = p.1)
  | none => false
/-- served where an exception is handled, too -/
def hotBi : Bi → Bool
  | .len | .str | .int => true
  | _ => false
theorem cold_if {b c : Bool} (h : (if b = true then false else c) = true) : b = false ∧ c = true := by
  cases b
  · exact ⟨rfl, h⟩
  · cases h
def baseOk : Expr → Bool
  | .Call (.Name _ _) [] [] _ => false
  | _ => true
def isSlice : Expr → Bool
  | .Slice .. => true
  | _ => false
def isSet : Expr → Bool
  | .Set .. => true
  | _ => false
def Ga.blk (Γ : Ga) (scope : Scope) : Ga := ⟨Γ.N, relS scope Γ.sc, fun x => scope.names.lookup x == some .cell, false, Γ.sd, Γ.lam⟩
def Ga.lamb (Γ : Ga) (scope : Scope) : Ga := ⟨Γ.N, scope, fun _ => false, false, false, true⟩
def ownOf (N : List Str) (own : List Nat) : List (Str × Nat) := own.map fun i => (N.getD i "", i)
def dctB : List (Int × Int) → List (Option Expr) → List Expr → Bool
  | [], [], [] => true
  | [(i, j)], [some (.Constant (.int a) _ _)], [.Constant (.int b) _ _] => decide (a = i) && decide (b = j)
  | _, _, _ => false
/-- may stand as a test -/
def tst : E → Bool
  | .ite _ _ _ => false
  | .never => false
  | .and a b => tst a && tst b
  | .or a b => tst a && tst b
  | .not a => tst a
  | _ => true
def intLit : E → Option Int
  | .int i => some i
  | _ => none
def isDfl (ms : List E) (ds : List Int) : Bool := decide (ms.map intLit = (ds.drop (ds.length - ms.length)).map some)
def clsF (gt : Gt) (c f : Str) : Bool := match gt.lookup c with
  | some (.cls fs _) => decide (f ∈ fs)
  | _ => false
def clsM (gt : Gt) (c m : Str) : Option (List Int) := match gt.lookup c with
  | some (.cls _ ms) => ms.lookup m
  | _ => none
def isCls (gt : Gt) (c : Str) : Bool := match gt.lookup c with
  | some (.cls _ _) => true
  | _ => false
def chkV (i : Nat) (Γ : Ga) (e : Expr) : Bool := match e with
  | .Name x _ => decide (Γ.N[i]? = some x) && visB Γ.sc x && dbg x
  | _ => false
/-- x == y of two of a class with its own == -/
def ownB (gt : Gt) (n : Bool) (a b : E) (Γ : Ga) (x : Expr) (q : CmpOp) (y : Expr) : Bool := if Γ.hot = true then false else match n, a, b with
  | false, .ite (.isi (.var j) (.cls c)) (.meth (.var i) c' m [.var j']) .never, .bl true => decide (q = .Eq) && decide (m = "__eq__") && decide (c' = c) && decide (j' = j) && decide (clsM gt c m = some []) && !behindInMarks q y && chkV i Γ x && chkV j Γ y
  | _, _, _ => false
def glI (sc : Scope) (x : Str) : Bool := decide (sc.names.lookup x = some .globalImplicit) && dbg x
section
variable (gt : Gt)
mutual
def chk : E → Ga → Expr → Bool
  | .var i, Γ, e => chkV i Γ e
  | .int i, _, e => match e with
    | .Constant (.int j) _ _ => decide (i = j)
    | _ => false
  | .bl i, _, e => match e with
    | .Constant (.bool j) _ _ => decide (i = j)
    | _ => false
  | .non, _, e => match e with
    | .Constant .none _ _ => true
    | _ => false
  | .str i, _, e => match e with
    | .Constant (.str j) _ _ => decide (i = j)
    | _ => false
  | .gstr i z, Γ, e => match e with
    | .Name x _ => decide (i = x) && glB gt Γ.sc x (.str z)
    | _ => false
  | .gint i, Γ, e => match e with
    | .Name x _ => decide (i = x) && glB gt Γ.sc x .int
    | _ => false
  | .tup es, Γ, e => match e with
    | .Tuple xs _ _ => xs.all (fun e => !isStar e) && chks es Γ xs
    | _ => false
  | .lst _ es, Γ, e => match e with
    | .List xs _ => xs.all (fun e => !isStar e) && chks es Γ xs
    | _ => false
  | .op o a b, Γ, e => match e with
    | .BinOp x q y _ => opIs o q && chk a Γ x && chk b Γ y
    | _ => false
  | .cat a b, Γ, e => match e with
    | .BinOp x .Add y _ => chk a Γ x && chk b Γ y
    | _ => false
  | .rep a b, Γ, e => match e with
    | .BinOp x .Mult y _ => chk a Γ x && chk b Γ y
    | _ => false
  | .neg a, Γ, e => match e with
    | .UnaryOp .USub x _ => chk a Γ x
    | _ => false
  | .cm c a b, Γ, e => match e with
    | .Compare x [q] [y] _ => cmIs c q && !behindInMarks q y && chk a Γ x && chk b Γ y
    | _ => false
  | .ch c d a b w, Γ, e => match e with
    | .Compare x [q, r] [y, z] _ => cmIs c q && cmIs d r && !lastMarks [q, r] [y, z] && chk a Γ x && chk b Γ y && chk w Γ z
    | _ => false
  | .isN n a, Γ, e => match e with
    | .Compare x [q] [.Constant .none _ _] _ => (if n then decide (q = .IsNot) else decide (q = .Is)) && chk a Γ x
    | _ => false
  | .isB n a b, Γ, e => match e with
    | .Compare x [q] [y] _ => ((if n then decide (q = .IsNot) else decide (q = .Is)) && !behindInMarks q y && chk a Γ x && chk b Γ y) || ownB gt n a b Γ x q y
    | _ => false
  | .and a b, Γ, e => match e with
    | .BoolOp .And (x :: y :: r) p => chk a Γ x && (match r with
      | [] => chk b Γ y
      | z :: r => chk b Γ (.BoolOp .And (y :: z :: r) p))
    | _ => false
  | .or a b, Γ, e => match e with
    | .BoolOp .Or (x :: y :: r) p => chk a Γ x && (match r with
      | [] => chk b Γ y
      | z :: r => chk b Γ (.BoolOp .Or (y :: z :: r) p))
    | _ => false
  | .not a, Γ, e => match e with
    | .UnaryOp .Not x _ => chk a Γ x
    | _ => false
  | .ite c a b, Γ, e => match e with
    | .IfExp x y z _ => tst c && chk c Γ x && chk a Γ y && chk b Γ z
    | _ => false
  | .ix a b, Γ, e => match e with
    | .Subscript x y _ => !isSlice y && chk a Γ x && chk b Γ y
    | _ => false
  | .sl a lo hi, Γ, e => match e with
    | .Subscript x (.Slice l h none _) _ => chk a Γ x && chko lo Γ l && chko hi Γ h
    | _ => false
  | .rev a, Γ, e => match e with
    | .Subscript x (.Slice none none (some (.UnaryOp .USub (.Constant (.int 1) _ _) _)) _) _ => chk a Γ x
    | _ => false
  | .bi f es, Γ, e => match e with
    | .Call (.Name x _) (y :: ys) [] _ => biIs f x && (!Γ.hot || hotBi f) && glB gt Γ.sc x .blt && (y :: ys).all (fun e => !isStar e) && chks es Γ (y :: ys)
    | _ => false
  | .isi a t, Γ, e => match e with
    | .Call (.Name x _) [y, .Name z _] [] _ => match t with
      | .exc c => decide (x = "isinstance") && glB gt Γ.sc x .blt && decide (z = c) && (glB gt Γ.sc z (.exc true) || glB gt Γ.sc z (.exc false) || glB gt Γ.sc z .excA || (decide (z = "ValueError") && glB gt Γ.sc z .blt)) && !isStar y && chk a Γ y
      | .cls c => decide (x = "isinstance") && glB gt Γ.sc x .blt && decide (z = c) && glI Γ.sc z && isCls gt c && !isStar y && chk a Γ y
      | t => decide (x = "isinstance") && glB gt Γ.sc x .blt && decide (z = Str.ofString (tyName t)) && glB gt Γ.sc z .blt && !isStar y && chk a Γ y && decide (tyName t ≠ "")
    | _ => false
  | .call f es, Γ, e => if Γ.hot = true then false else match e with
    | .Call (.Name x _) ys [] _ => decide (f = x) && ys.all (fun e => !isStar e) && (match gt.lookup x with
      | some (.fnD ds) => glB gt Γ.sc x (.fnD ds) && chksD es Γ ys ds
      | _ => glB gt Γ.sc x .fn && chks es Γ ys)
    | _ => false
  | .fld o c f, Γ, e => match e with
    | .Attribute y n _ => decide (n = f) && baseOk y && clsF gt c f && chk o Γ y
    | _ => false
  | .meth o c m es, Γ, e => if Γ.hot = true then false else match e with
    | .Call (.Attribute y n apos) ys [] pos => decide (n = m) && baseOk y && (apos.endLine == pos.line) && ys.all (fun e => !isStar e) && decide (ys.length < 30) && chk o Γ y && (match clsM gt c m with
      | some ds => chksD es Γ ys ds
      | none => false)
    | _ => false
  | .new c es, Γ, e => if Γ.hot = true then false else match e with
    | .Call (.Name x _) ys [] _ => decide (c = x) && glI Γ.sc x && isCls gt c && ys.all (fun e => !isStar e) && chks es Γ ys
    | _ => false
  | .bm o m es, Γ, e => match e with
    | .Call (.Attribute y n apos) ys [] pos => decide (n = bmName m) && baseOk y && (apos.endLine == pos.line) && ys.all (fun e => !isStar e) && decide (ys.length < 30) && chk o Γ y && chks es Γ ys
    | _ => false
  | .comp _ elt own tg it cond, Γ, e => if Γ.hot = true then false else match e with
    | .ListComp x [⟨t, y, ifs, a⟩] scope _ => decide (a = 0) && blkC Γ.N Γ.sc scope (ownOf Γ.N own) && (tgN tg).all (fun i => decide (i ∈ own)) && !isSet y && chki it Γ t y && chkT tg (Γ.blk scope) t && chkc cond (Γ.blk scope) ifs && chk elt (Γ.blk scope) x
    | _ => false
  | .sset _ m, Γ, e => if Γ.hot = true then false else match e with
    | .Call (.Name x _) [.Call (.Name y _) [z] [] _] [] _ => decide (x = "sorted") && glB gt Γ.sc x .blt && decide (y = "set") && glB gt Γ.sc y .blt && !isStar z && chk m Γ z
    | _ => false
  | .own o c s, Γ, e => if Γ.hot = true then false else match e with
    | .Call (.Name x _) [y] [] _ => ((decide (s = "__len__") && decide (x = "len")) || (decide (s = "__repr__") && decide (x = "repr")) || (decide (s = "__str__") && decide (x = "str") && !Γ.lam)) && glB gt Γ.sc x .blt && !isStar y && decide (clsM gt c s = some []) && chk o Γ y
    | _ => false
  | .lset m, Γ, e => if Γ.hot = true then false else match e with
    | .Call (.Name x _) [.Call (.Name y _) [z] [] _] [] _ => decide (x = "len") && glB gt Γ.sc x .blt && decide (y = "set") && glB gt Γ.sc y .blt && !isStar z && chk m Γ z
    | _ => false
  | .oeq n c a b, Γ, e => if Γ.hot = true then false else match e with
    | .Compare x [q] [y] _ => (if n then decide (q = .NotEq) else decide (q = .Eq)) && !behindInMarks q y && decide (clsM gt c "__eq__" = some []) && chk a Γ x && chk b Γ y
    | _ => false
  | .oin c a b, Γ, e => if Γ.hot = true then false else match e with
    | .Compare x [.In] [.List [y] lp] _ => !isStar y && !behindInMarks .In (.List [y] lp) && decide (clsM gt c "__eq__" = some []) && chk a Γ x && chk b Γ y
    | _ => false
  | .onin c a b, Γ, e => if Γ.hot = true then false else match e with
    | .Compare x [.NotIn] [.List [.Constant .none k l, y] lp] _ => !isStar y && !behindInMarks .NotIn (.List [.Constant .none k l, y] lp) && decide (clsM gt c "__eq__" = some []) && chk a Γ x && chk b Γ y
    | _ => false
  | .tupR m, Γ, e => if Γ.hot = true then false else match e with
    | .Call (.Name x _) [.Call (.Name y _) [z] [] _] [] _ => decide (x = "tuple") && glB gt Γ.sc x .blt && decide (y = "range") && glB gt Γ.sc y .blt && !isStar z && chk m Γ z
    | _ => false
  | .xat m, Γ, e => match e with
    | .Attribute y n _ => decide (n = "at") && baseOk y && chk m Γ y
    | _ => false
  | .rpi m, Γ, e => match e with
    | .Call (.Name x _) [y] [] _ => decide (x = "repr") && glB gt Γ.sc x .blt && !isStar y && chk m Γ y
    | _ => false
  | .calA f es, Γ, e => if Γ.hot = true then false else match e with
    | .Call (.Name x _) ys [] _ => decide (f = x) && ys.all (fun e => !isStar e) && glB gt Γ.sc x .fn && chks es Γ ys
    | _ => false
  | .mkx c m, Γ, e => if Γ.hot = true then false else match e with
    | .Call (.Name x _) [y] [] _ => decide (c = x) && glB gt Γ.sc x (.exc true) && !isStar y && chk m Γ y
    | _ => false
  | .mkxA c m, Γ, e => if Γ.hot = true then false else match e with
    | .Call (.Name x _) [y] [] _ => decide (c = x) && glB gt Γ.sc x .excA && !isStar y && chk m Γ y
    | _ => false
  | .fmt m, Γ, e => match e with
    | .FormattedValue x (-1) none _ => chk m Γ x
    | _ => false
  | .fstr es, Γ, e => match e with
    | .JoinedStr (x :: y :: r) _ => chks es Γ (x :: y :: r)
    | _ => false
  | .dct kvs, _, e => match e with
    | .Dict ks vs _ => dctB kvs ks vs
    | _ => false
  | .said m, Γ, e => match e with
    | .Call (.Name x _) [.Lambda ⟨[], [], none, [], [], none, []⟩ body scope _] [] _ => Γ.sd && glB gt Γ.sc x .said && LamX.lamSB Γ.sc scope && decide (Γ.hot = false) && chk m (Γ.lamb scope) body
    | _ => false
  | .never, _, _ => true
  | _, _, _ => false
def chks : List E → Ga → List Expr → Bool
  | [], _, es => es.isEmpty
  | m :: ms, Γ, es => match es with
    | e :: es => chk m Γ e && chks ms Γ es
    | [] => false
def chksD : List E → Ga → List Expr → List Int → Bool
  | [], _, es, _ => es.isEmpty
  | m :: ms, Γ, es, ds => match es with
    | e :: es => chk m Γ e && chksD ms Γ es ds
    | [] => isDfl (m :: ms) ds
def chko : Option E → Ga → Option Expr → Bool
  | none, _, e => e.isNone
  | some m, Γ, e => match e with
    | some e => chk m Γ e
    | none => false
def chkc : Option E → Ga → List Expr → Bool
  | none, _, e => e.isEmpty
  | some m, Γ, e => match e with
    | [e] => tst m && chk m Γ e
    | _ => false
def chki : I → Ga → Expr → Expr → Bool
  | .seq m, Γ, _, e => chk m Γ e
  | .range3 a b c, Γ, _, e => if Γ.hot = true then false else match e with
    | .Call (.Name x _) [y, z, w] [] _ => decide (x = "range") && glB gt Γ.sc x .blt && !isStar y && !isStar z && !isStar w && chk a Γ y && chk b Γ z && chk c Γ w
    | _ => false
  | .range m, Γ, _, e => match e with
    | .Call (.Name x _) [y] [] _ => decide (x = "range") && glB gt Γ.sc x .blt && !isStar y && chk m Γ y
    | _ => false
  | .enum m, Γ, t, e => match t, e with
    | .Tuple _ _ _, .Call (.Name x _) [y] [] _ => decide (x = "enumerate") && glB gt Γ.sc x .blt && !isStar y && chk m Γ y
    | _, _ => false
  | .zip m k, Γ, t, e => match t, e with
    | .Tuple _ _ _, .Call (.Name x _) [y, z] [] _ => decide (x = "zip") && glB gt Γ.sc x .blt && !isStar y && !isStar z && chk m Γ y && chk k Γ z
    | _, _ => false
end
end
theorem dbg_ok {x : Str} (h : dbg x = true) : (x == ("__debug__" : Str)) = false ∧ (x == ("__classdict__" : Str)) = false ∧ x ≠ "__name__" := by
  unfold dbg at h
  simp only [Bool.and_eq_true, Bool.not_eq_true', decide_eq_false_iff_not] at h
  exact ⟨h.1.1, h.1.2, h.2⟩
theorem visB_ok {sc : Scope} {x : Str} (h : visB sc x = true) : Vis sc x := by
  unfold visB at h
  split at h
  · rename_i e; exact .inl e
  · rename_i e; exact .inr (.inl e)
  · rename_i e; exact .inr (.inr e)
  · cases h
theorem glB_ok {gt : Gt} {sc : Scope} {x : Str} {k : Gk} (h : glB gt sc x k = true) : sc.names.lookup x = some .globalImplicit ∧ gt.lookup x = some k ∧ dbg x = true := by
  unfold glB at h
  simp only [Bool.and_eq_true, decide_eq_true_eq] at h
  exact ⟨h.1.1, h.1.2, h.2⟩
theorem glI_ok {sc : Scope} {x : Str} (h : glI sc x = true) : sc.names.lookup x = some .globalImplicit ∧ dbg x = true := by
  unfold glI at h
  simp only [Bool.and_eq_true, decide_eq_true_eq] at h
  exact h
theorem isCls_ok {gt : Gt} {c : Str} (h : isCls gt c = true) : ∃ fs ms, gt.lookup c = some (.cls fs ms) := by
  unfold isCls at h
  split at h
  · rename_i e; exact ⟨_, _, e⟩
  · cases h
theorem clsF_ok {gt : Gt} {c f : Str} (h : clsF gt c f = true) : ∃ fs ms, gt.lookup c = some (.cls fs ms) ∧ f ∈ fs := by
  unfold clsF at h
  split at h
  · rename_i e; exact ⟨_, _, e, of_decide_eq_true h⟩
  · cases h
theorem clsM_ok {gt : Gt} {c m : Str} {ds : List Int} (h : clsM gt c m = some ds) : ∃ fs ms, gt.lookup c = some (.cls fs ms) ∧ ms.lookup m = some ds := by
  unfold clsM at h
  split at h
  · rename_i e; exact ⟨_, _, e, h⟩
  · cases h
/-- a def in which lambdas are made -/
structure LamAt (P : Pg) (n : Nat) (X : Cx) : Prop where
  room : Room (4 * n + 4) X.A
  ex : ∃ c p, X.env.code = .ref c ∧ LamX.TabB P.base P.mg c p ∧ (p, X.env.qual ++ "<lambda>") ∈ P.T ∧ ∀ q ∈ P.T, q.1 = p → q.2 = X.env.qual ++ "<lambda>"
/-- the exception in hand -/
structure HxAt (P : Pg) (X : Cx) : Prop where
  ex : ∃ (p : Addr × Obj) (c : Str), P.hx = some (p.1, c, p.2.dict) ∧ p ∈ X.pn ∧ p.2.cls = .ref (P.CA c) ∧ (p.2.dict ≠ none → c ∈ P.xa) ∧ (∃ vs, p.2.data = .fields vs) ∧ c ∈ P.xr
/-- where an expression stands -/
structure At (P : Pg) (n : Nat) (Z : ZX) (Γ : Ga) (X : Cx) : Prop where
  F : Fit P Γ X
  room : Γ.hot = false → Room (4 * n + 2) X.A
  tk : L2N.Takes X (fun c d _ H => EZ P Z c d H)
  sd : Γ.sd = true → LamAt P n X
  hx : Γ.hot = true → HxAt P X
  room4 : Γ.lam = false → Γ.hot = false → Room (4 * n + 4) X.A
theorem At.gl {P : Pg} {n : Nat} {Z : ZX} {Γ : Ga} {X : Cx} (a : At P n Z Γ X) {x : Str} (h : Γ.sc.names.lookup x = some .globalImplicit) : Gl X x := by
  show X.env.scope.names.lookup x = _
  rw [a.F.sc]; exact h
theorem At.blk {P : Pg} {n : Nat} {Z : ZX} {Γ : Ga} {X : Cx} (a : At P n Z Γ X) (hh : Γ.hot = false) {scope : Scope} (hk : scope.kind = .function) (s : Shared) (H : Hp) (C : Addr) (cl : List (Str × Addr)) (fp : List Addr) :
    At P n ZF (Γ.blk scope) (X.blk s H scope (compEnvC scope cl C X.env) fp) := by
  refine ⟨⟨a.F.prog, a.F.w, a.F.K, a.F.mg, a.F.base, a.F.N, a.F.nd, ?_, hk, rfl, fun _ => a.F.calm hh, a.F.guards, fun _ => a.F.hd hh, a.F.units, fun _ => a.F.hx0 hh⟩, fun _ => a.room hh, ?_, (fun z => ⟨(a.sd z).room, (a.sd z).ex⟩), (fun z => nomatch z), fun z _ => a.room4 z hh⟩
  · show relS scope X.env.scope = relS scope Γ.sc
    rw [a.F.sc]
  · rintro u s' ⟨_, _, _, _, _, _, _, _, _, _, _, _, _, _, _, _, w⟩
    obtain ⟨_, _, _, _, _, w⟩ := w
    exact w.elim
theorem At.passes {P : Pg} {n : Nat} {Z : ZX} {Γ : Ga} {X : Cx} (a : At P n Z Γ X) : Passes (L2N.CX X.prog X.w) X (EZ P Z) := L2N.passes_call a.tk fun _ _ _ _ h => h
end PL
end

section
set_option Elab.async false
set_option linter.all false
set_option maxRecDepth 100000
set_option maxHeartbeats 1000000
/-! PLN: the expressions' theorem. -/
namespace PL
open PySem PySem.Spec PyProof.Rows L2
theorem base_ok {o : Expr} {n : Str} {env : PySem.Env} {whole : Sem Value} (h : baseOk o = true) : attributeBase o n env whole = whole := by
  unfold attributeBase
  split
  · cases h
  · rfl
theorem plainIx_ok {b : Expr} (h : isSlice b = false) : PlainIx b := by
  intro o i
  cases b <;> first | rfl | cases h
theorem noSet {e : Expr} {env : PySem.Env} (h : isSet e = false) : ∀ x, foldedSetIterable e env x = pure x := by
  intro x
  cases e <;> first | rfl | cases h
theorem rv_non {M : Ma} {H : Hp} {d : D} {v : V} (r : Rv M H d v) : decide (v = .non) = (match d with | .none => true | _ => false) := by
  cases r <;> first | rfl | simp
section
variable {P : Pg} {Γ : Ga} {X : Cx} {G : Calls} {Z : ZX} {n : Nat}
theorem bi_rule (F : Fit P Γ X) (f : Bi) (x : Str) (h : biIs f x = true) (hq : (!Γ.hot || hotBi f) = true) : x ≠ "__name__" ∧
    ((∃ id, bootBuiltins x = some (.builtin id) ∧ CallR X (.builtin id) (rs P Z (biD f))) ∨ ∃ T, bootBuiltins x = some (.type T) ∧ CallR X (.type T) (rs P Z (biD f))) := by
  unfold biIs at h
  cases f with
  | len => cases of_decide_eq_true h; exact ⟨by decide, .inl ⟨_, boot_len, b_len F⟩⟩
  | str => cases of_decide_eq_true h; exact ⟨by decide, .inr ⟨_, by decide +kernel, b_str⟩⟩
  | int => cases of_decide_eq_true h; exact ⟨by decide, .inr ⟨_, by decide +kernel, b_int⟩⟩
  | list r => cases of_decide_eq_true h; exact ⟨by decide, .inr ⟨_, by decide +kernel, b_list r⟩⟩
  | tuple => cases of_decide_eq_true h; exact ⟨by decide, .inr ⟨_, by decide +kernel, b_tuple⟩⟩
  | sorted r => cases of_decide_eq_true h; exact ⟨by decide, .inl ⟨_, by decide +kernel, b_sorted F r⟩⟩
  | max2 => cases of_decide_eq_true h; exact ⟨by decide, .inl ⟨_, by decide +kernel, b_max2 (F.calm (by simpa [hotBi] using hq))⟩⟩
  | min2 => cases of_decide_eq_true h; exact ⟨by decide, .inl ⟨_, by decide +kernel, b_min2 (F.calm (by simpa [hotBi] using hq))⟩⟩
  | min1 => cases of_decide_eq_true h; exact ⟨by decide, .inl ⟨_, by decide +kernel, b_min (F.calm (by simpa [hotBi] using hq)) F⟩⟩
  | repr => cases of_decide_eq_true h; exact ⟨by decide, .inl ⟨_, by decide +kernel, b_repr F⟩⟩
  | abs => cases of_decide_eq_true h; exact ⟨by decide, .inl ⟨_, by decide +kernel, b_abs⟩⟩
  | divmod => cases of_decide_eq_true h; exact ⟨by decide, .inl ⟨_, by decide +kernel, b_divmod⟩⟩
  | all => cases of_decide_eq_true h; exact ⟨by decide, .inl ⟨_, by decide +kernel, b_all (F.calm (by simpa [hotBi] using hq))⟩⟩
  | any => cases of_decide_eq_true h; exact ⟨by decide, .inl ⟨_, by decide +kernel, b_any (F.calm (by simpa [hotBi] using hq))⟩⟩
  | sum => cases of_decide_eq_true h; exact ⟨by decide, .inl ⟨_, by decide +kernel, b_sum (F.calm (by simpa [hotBi] using hq))⟩⟩
  | sumT => cases of_decide_eq_true h; exact ⟨by decide, .inl ⟨_, by decide +kernel, b_sumT (F.calm (by simpa [hotBi] using hq))⟩⟩
  | _ => cases h
theorem ty_boot (t : Ty) (h : tyName t ≠ "") : bootBuiltins (Str.ofString (tyName t)) = some (.type (tyName t)) ∧ Str.ofString (tyName t) ≠ "__name__" := by
  cases t with
  | cls c => exact absurd rfl h
  | exc c => exact absurd rfl h
  | _ => exact ⟨by decide +kernel, by decide⟩
/-- a display of a tuple -/
theorem pe_tupM {es : List E} {xs : List Expr} {k : Nat} {pos : Pos} (h : PA X xs (tEs P G Z es)) : PE X (.Tuple xs k pos) (tE P G Z (.tup es)) := by
  refine ⟨fun pins s σ H Q I ⟨M, S, ρ, em, rn, q⟩ => ?_⟩
  simp only [ev] at q
  refine wpAny_Tuple_spliced (thn (h.run pos pins s σ H _ I ⟨M, S, ρ, em, rn, Res.bind q⟩) fun us s1 ⟨vs, H1, I1, r, M1, S1, ds, e1, em1, rv, k⟩ => ?_)
  split at k
  · rename_i hl
    have hz : vs.length ≤ sizeLine := by rw [← rv.length, ← lim_eq]; exact hl
    exact ⟨by rw [← r.length]; exact hz, .ref s1.heap.objs.size, _, newTup (t' := s1.toks) I1 r hz, rfl, k.tuple Ext.refl em1 rv (I1.hok.fresh (Nat.le_refl _)) rfl⟩
  · exact k.elim
theorem pe_lstM {es : List E} {xs : List Expr} {b : Bool} {pos : Pos} (h : PA X xs (tEs P G Z es)) : PE X (.List xs pos) (tE P G Z (.lst b es)) := by
  refine PE.imp (pe_lst h) fun σ H Q ⟨M, S, ρ, em, rn, q⟩ => ?_
  simp only [ev] at q
  refine tEs.step em rn q fun vs H' M' S' ds e em' rn' rv k => ?_
  obtain ⟨hl, k⟩ := Res.alloc k
  exact ⟨by rw [← rv.length, ← lim_eq]; exact hl, fun p hp => k M' H' p vs Ext.refl em' rv hp⟩
theorem pe_bmM (F : Fit P Γ X) {o : E} {m : Bm} {es : List E} {y : Expr} {ys : List Expr} {apos pos : Pos} (ho : PE X y (tE P G Z o)) (ha : PA X ys (tEs P G Z es)) (hes : ys = [] → es = []) (hb : baseOk y = true)
    (hline : (apos.endLine == pos.line) = true) (hst : ys.all (fun e => !isStar e) = true) (hl : ys.length < 30) : PE X (.Call (.Attribute y (bmName m) apos) ys [] pos) (tE P G Z (.bm o m es)) := by
  refine ⟨fun pins s σ H Q I ⟨M, S, ρ, em, rn, q⟩ => ?_⟩
  simp only [ev] at q
  cases ys with
  | nil =>
    refine wpAny_Call_method0_late (base_ok hb) hline (thn (ho.run pins s σ H _ I ⟨M, S, ρ, em, rn, Res.bind q⟩) fun v s1 ⟨x, H1, I1, r1, M1, S1, d, e1, em1, rd, k⟩ => ?_)
    split at k
    · rename_i c
      obtain ⟨hk, hT, hd⟩ := kd_on em1 I1 rd r1 c
      obtain ⟨id, pa, slot, ty, hm⟩ := m_all (Z := Z) F (kdX d) m hk
      rw [hes rfl] at k
      simp only [evs, Out.bind_ok] at k
      exact ⟨_, id, pa, slot, ty, hT, hd, Calls.callWith_builtin rfl (PySem.evalArgs_none (hm pins s1 σ H1 x [] v [] Q I1 r1 .nil ⟨M1, S1, d, [], rfl, em1, rd, .nil, k⟩))⟩
    · exact k.elim
  | cons z zs =>
    have hfew : ((backTo pos (starEach (z :: zs) X.env)).all (fun x => !x.1) && (backToKw pos (keywordEach [] X.env)).all (fun x => x.1.isSome)
        && decide ((z :: zs).length + ([] : List Keyword).length + (if ([] : List Keyword).isEmpty then 0 else 1) < 30)) = true := by
      rw [star_all hst]
      simp only [Bool.true_and, Bool.and_eq_true, decide_eq_true_eq]
      exact ⟨rfl, by simpa using hl⟩
    rw [List.all_cons, Bool.and_eq_true] at hst
    refine wpAny_Call_method_late (base_ok hb) hfew hline rfl (thn (ho.run pins s σ H _ I ⟨M, S, ρ, em, rn, Res.bind q⟩) fun v s1 ⟨x, H1, I1, r1, M1, S1, d, e1, em1, rd, k⟩ => ?_)
    split at k
    · rename_i c
      obtain ⟨hk, hT, hd⟩ := kd_on em1 I1 rd r1 c
      obtain ⟨id, pa, slot, ty, hm⟩ := m_all (Z := Z) F (kdX d) m hk
      refine ⟨_, id, pa, slot, ty, hT, hd, ?_⟩
      have hA := ha.run pos pins s1 σ H1 _ I1 ⟨M1, S1, ρ, em1, rn.mono e1, Res.bind k⟩
      have hs1 := starEach_cons (es := zs) (env := X.env) (show isStar z = false by simpa using hst.1)
      rw [hs1] at hA ⊢
      refine Calls.callWith_builtin (by show (false || (backTo pos (starEach zs X.env)).any (·.1)) = false; rw [star_none hst.2] <;> rfl) (Calls.evalArgs_plain ?_)
      exact thn hA fun us s2 ⟨vs, H2, I2, r2, M2, S2, ds, e2, em2, rv, k2⟩ => hm pins s2 σ H2 x vs v us Q I2 r1 r2 ⟨M2, S2, d, ds, rfl, em2, rd.mono e2, rv, k2⟩
    · exact k.elim
end
theorem pw_of {X : Cx} {op : BoolOp} {vs : List Expr} {p : Pos} {t : TT} (h : PT X (.BoolOp op vs p) t) : PW X (.BoolOp op vs p) t := ⟨fun _ pins s σ H Q I q => h.run pins s σ H Q I q⟩
end PL
end

section
set_option Elab.async false
set_option linter.all false
set_option maxRecDepth 100000
set_option maxHeartbeats 2000000
/-! PLY: a def that calls the lambda it got and tells what came of it. -/
namespace PL
open PySem PySem.Spec PyProof.Rows L2
/-- displays of dicts of whole numbers -/
theorem dct_ok {P : Pg} {G : Calls} {X : Cx} {Z : ZX} {kvs : List (Int × Int)} {ks : List (Option Expr)} {vs : List Expr} {pos : Pos} (h : dctB kvs ks vs = true) : PE X (.Dict ks vs pos) (tE P G Z (.dct kvs)) := by
  unfold dctB at h
  split at h
  · refine PE.imp pe_dnewK fun σ H Q ⟨M, S, ρ, em, rn, q⟩ p hp => ?_
    simp only [ev] at q
    exact q M _ _ (Ext.alloc hp) (em.alloc hp) (.dct (ks := []) rfl upd_same (em.no hp))
  · rename_i i j a x1 x2 b x3 x4
    simp only [Bool.and_eq_true, decide_eq_true_eq] at h
    obtain ⟨rfl, rfl⟩ := h
    refine PE.imp (pe_disp (pps_cons pe_int pe_int pps_nil) rfl rfl (by simp) (by simp)) fun σ H Q ⟨M, S, ρ, em, rn, q⟩ p hp => ?_
    simp only [ev] at q
    refine ⟨upd_same, [(.inl a, .int b)], rfl, by simp, ?_⟩
    have e : upd (upd H p (.dK [])) p (.dK (mergeK [] [(.inl a, V.int b)])) = upd H p (.dK [(.inl a, .int b)]) := by
      funext z
      unfold upd
      split <;> rfl
    rw [e]
    exact q M _ _ (Ext.alloc hp) (em.alloc hp) (.dct (ks := [(a, b)]) rfl upd_same (em.no hp))
  · cases h
/-- isinstance of the exception in hand -/
theorem call_isP {X : Cx} {p : Addr × Obj} {D : Addr} (C : ExcC X.K D) (hp : p ∈ X.pn) (hc : p.2.cls = .ref D) (hd : p.2.dict = none) (hf : ∃ vs, p.2.data = .fields vs) : CallR X (.builtin "isinstance") (rIsE X.K D p.1) := by
  intro pins s σ H xs us Q I r ⟨c, cv, b, ex, hcv, kt, q⟩
  subst ex
  obtain ⟨u1, u2, rfl, r1, r2⟩ := vals2 r
  cases r1
  cases hcv _ r2
  have g := (I.pin p (List.mem_append_left _ hp)).1
  have J : PySem.W.InstAt s.heap p.1 p.2 D none := by
    obtain ⟨b, oc, od, oda, osl⟩ := p
    obtain ⟨vs, hv⟩ := hf
    dsimp only at hc hd hv
    subst hc hd hv
    exact ⟨g, rfl, rfl, trivial⟩
  exact PySem.W.kia_one (PySem.W.handS_kitx_exc C.hg C.hk C.hs C.hd C.ha C.hn C.ht C.hm) I.kIn J kt (fun z => nomatch z) fun tk => ⟨.bl b, H, I.tok tk, rfl, q⟩
/-- the lambda's body, exceptions told with their context None -/
abbrev lamX (X : Cx) (A : Around) (outer : List PySem.Env) (s : Shared) (H : Hp) (E : XK) (scope : Scope) (f c' : Addr) : Cx :=
  (LamX.lamCx X A outer s H E scope f c').wish fun e s' => wpAny (model X.prog X.w) (A.deeper (LamX.lamEnv X scope s.heap.objs.size f c')) (leaving (LamX.lamEnv X scope s.heap.objs.size f c') e) (fun _ s'' => L2N.CX X.prog X.w outer H s E e s'') (fun e' s'' => L2N.CX X.prog X.w outer H s E e' s'') s'
theorem Emb.extN {P : Pg} {M : Ma} {H H1 : Hp} {S : Sto} (em : P.Emb M H S) (e : LamX.ExtN H H1) (t : LamX.Tabs P.T H1) : Ext M H M H1 ∧ P.Emb M H1 S := by
  have x : Ext M H M H1 := ⟨⟨⟨⟨[], by simp⟩, rfl⟩, fun _ h => h, fun a o h _ n => e a o h n, fun _ h n => absurd h n⟩, fun a o h _ n => e a o h n⟩
  refine ⟨x, em.kf, em.len, em.nd, fun a ha => ⟨x.df (em.df a ha).1 ha, (em.df a ha).2⟩, fun i a o h1 h2 => ?_, t⟩
  have r := em.ob i a o h1 h2
  obtain ⟨u, q, nt⟩ := r.some
  exact r.mono x ((e a u q nt).trans q.symm)
section
variable {P : Pg} {G : Calls} {n : Nat} {Γ : Ga} {X : Cx} {Z : ZX}
/-- where the lambda's body stands -/
theorem lam_at (hh : Γ.hot = false) (a : At P n Z Γ X) {A : Around} {outer : List PySem.Env} {s : Shared} {H : Hp} {E : XK} {scope : Scope} {f c' : Addr} (L : LamX.LamS X.env.scope scope) (hg : A.guards = some []) (hr : Room (4 * n + 2) (A.deeper (LamX.lamEnv X scope s.heap.objs.size f c'))) :
    At P n (zOf P E) (Γ.lamb scope) (lamX X A outer s H E scope f c') := by
  have tk0 : L2N.Takes (lamX X A outer s H E scope f c') (fun c d _ H => E c d H) := L2N.takes_of rfl rfl rfl rfl
  exact ⟨⟨a.F.prog, a.F.w, a.F.K, a.F.mg, a.F.base, a.F.N, a.F.nd, rfl, L.kind, rfl, fun _ => rfl, hg, fun _ => hr.hd, by have := hr.un; show (A.deeper (LamX.lamEnv X scope s.heap.objs.size f c')).units + 150 < cLine; omega, fun _ => a.F.hx0 hh⟩, fun _ => hr,
    tk0.imp fun c d σ H ⟨y, S', M', em, hx, z⟩ => z c d hx, (fun z => nomatch z), (fun z => nomatch z), (fun z => nomatch z)⟩
theorem pe_actN {pins : List (Addr × Obj)} {σ : L2.St} {H : Hp} {s : Shared} {Ng : List Str} {qg : Str} {sg : Scope} {g f c' : Addr} {cdg pm ctv : Value} {params : Arguments} {body : Expr} {scope : Scope} {k i : Nat} {av : Str} {pn : List (Addr × Obj)} {xe : Value → Shared → Prop} {W : WX} {E : XK} {tb : TE} {p1 p2 : Pos}
    (I : L2.Inv X pins σ H s) (L : LamX.LamS X.env.scope scope) (hf : s.heap.get? f = some (PySem.W.kla_obj "<lambda>" (X.env.qual ++ "<lambda>") params body scope (cloFrom X.env.cells scope.names []) pm c' ctv)) (hfn : H f = none) (hfr : f ∉ frs X.stack)
    (hbind : bindArgs (PySem.W.kla_fn "<lambda>" (X.env.qual ++ "<lambda>") params body scope (cloFrom X.env.cells scope.names []) pm (.ref c') ctv) ⟨[], []⟩ = pure [])
    (tk : L2N.Takes ((cxOf C8.CX0 X.prog X.w X.K X.mg X.base Ng qg sg g cdg X.A X.stack s H C8.E0).tr pn xe) W) (hW : ∀ cls d σ' H', E cls d H' → W cls d σ' H') (hr : Room (k + 1) (X.A.deeper (envOfC qg sg s.heap.objs.size g cdg)))
    (hbody2 : ∀ (A : Around) (outer : List PySem.Env) (s : Shared) (H : Hp), A.guards = X.A.guards → Room k (A.deeper (LamX.lamEnv X scope s.heap.objs.size f c')) → PE (lamX X A outer s H E scope f c') body tb)
    (hN : Ng[i]? = some av) (hv : Vis sg av) (hd : (av == ("__debug__" : Str)) = false) (hcd : (av == ("__classdict__" : Str)) = false) :
    PE ((cxOf C8.CX0 X.prog X.w X.K X.mg X.base Ng qg sg g cdg X.A X.stack s H C8.E0).tr pn xe) (.Call (.Name av p1) [] [] p2)
      (fun σZ HZ Q => σZ[i]? = some (some (.ref f)) ∧ HZ c' = some (LamX.CodeO c' (X.env.qual ++ "<lambda>")) ∧ tb σ HZ Q) := by
  refine ⟨fun pinsZ sZ σZ HZ Q IZ ⟨hs, hc, ht⟩ => ?_⟩
  refine wpAny_Call_Name_kw (thn ((pe_var (pos := p1) (i := i) hN hv hd hcd).run pinsZ sZ σZ HZ (fun v H1 => v = .ref f ∧ H1 = HZ) IZ ⟨.ref f, hs, rfl, rfl⟩) fun u s1 ⟨v, H1, I1, r1, ev, eH⟩ => ?_)
  subst ev
  subst eH
  cases (show u = Value.ref f from r1)
  have un : Un (frs X.stack) [] H H1 s.heap s1.heap := I1.base
  have of1 := un.keep f _ hf hfn hfr (fun z => by cases z)
  obtain ⟨⟨oc, vs, t, g1, g2, g3⟩, _, _⟩ := I1.hok c' _ hc
  have rc : codeAny (model X.prog X.w) (X.A.deeper (envOfC qg sg s.heap.objs.size g cdg)) (.call (.ref f) ⟨[], []⟩) (CR (L2N.CX X.prog X.w) (envOfC qg sg s.heap.objs.size g cdg :: X.stack) X.prog X.w H1 s1 Q E) s1 := by
    refine PySem.W.kla_callFunE hr.depth of1 rfl L.co L.gen rfl ⟨c', oc, vs, t, rfl, g1, g2, g3⟩ ?_
    rw [hbind]
    refine wpAny_pure (wpAny_newFunctionEnv (fun y hy => (L.own y hy).2) (fun y hy => by cases hy) (fun h₁ hns hsb => ⟨I1.nolimit.fresh _ hsb, ?_⟩) L.kind)
    have kp : ∀ b o, s1.heap.get? b = some o → h₁.get? b = some o := fun b o e => hsb.extBut b o (Nat.ne_of_lt (Heap.lt_size e)) (Heap.get?_push_of_some _ e)
    have J0 := LamX.lam_start2 (E := E) (f := f) (c' := c') (tk := s1.toks + ([] : List (Str × Value)).length) I L I1.env0 hr.hd un hns kp
    have J : L2.Inv (lamX X (X.A.deeper (envOfC qg sg s.heap.objs.size g cdg)) (envOfC qg sg s.heap.objs.size g cdg :: X.stack) s1 H1 E scope f c') [] σ H1 { s1 with heap := h₁, toks := s1.toks + ([] : List (Str × Value)).length } := J0.wish _
    refine PySem.W.kla_codeExpr (wpAny_mono ((hbody2 (X.A.deeper (envOfC qg sg s.heap.objs.size g cdg)) (envOfC qg sg s.heap.objs.size g cdg :: X.stack) s1 H1 rfl (hr.deeper _)).run [] _ _ H1 Q J ht) (fun v s' ⟨w', H', J', rv, q⟩ => ⟨w', H', J'.os, J'.bare, J'.base, J'.hok, rv, q⟩) fun e s' hq => hq)
  have hx : Passes (L2N.CX X.prog X.w) ((cxOf C8.CX0 X.prog X.w X.K X.mg X.base Ng qg sg g cdg X.A X.stack s H C8.E0).tr pn xe) E := L2N.passes_call tk fun cls d σ' H' h => hW cls d σ' H' h
  refine PySem.W.callWith_F0 ⟨_, _, _, _, of1⟩ (wpAny_call (codeAny_mono rc fun r s' hq => ?_))
  cases r with
  | error e => exact hx pinsZ σZ H1 s1 e s' I1 hq
  | ok fl =>
    cases fl with
    | ret u => exact I1.after hq
    | next => exact False.elim hq
    | brk => exact False.elim hq
    | cont => exact False.elim hq
/-- g(lambda: m) -/
theorem pe_saidM (hh : Γ.hot = false) (a : At P n Z Γ X) (sd : Γ.sd = true) {x : Str} (SG : SaidG P n G x) {m : E} {body : Expr} {scope : Scope} {px lpos pos : Pos} (hgl : Gl X x) (hdb : (x == ("__debug__" : Str)) = false) (L : LamX.LamS X.env.scope scope)
    (hbody : ∀ {Z' : ZX} {Y : Cx}, At P n Z' (Γ.lamb scope) Y → PE Y body (tE P G Z' m)) :
    PE X (.Call (.Name x px) [.Lambda ⟨[], [], none, [], [], none, []⟩ body scope lpos] [] pos) (tE P G Z (.said m)) := by
  obtain ⟨g, fd, Ng, av, params, bg, sg, m1, fu, hb, Sg, hN, hv, d1, d2, gives⟩ := SG.ex
  have LA := a.sd sd
  obtain ⟨c, p, hcode, TB, hmT, hu⟩ := LA.ex
  rw [← a.F.base, ← a.F.mg] at TB
  obtain ⟨oc, od, dV, kV, doc, pm, an, cdv, ct, osl, rfl, lk, hcd, _, _⟩ := fu.ex
  refine ⟨fun pins s σ H Q I ⟨M, S, ρ, em, rn, q⟩ => ?_⟩
  simp only [ev] at q
  refine wpAny_Call_Name_kw (ld_glob I hgl (by rw [a.F.mg]; exact m1) ?_ hdb)
  refine PySem.W.callWith_K (h₀ := X.base) I.ok.mod.kin (by rw [a.F.K]; exact fu.kp) ?_ (by rfl) (by rfl)
  show wpAny _ _ (spliced ((false, eval (.Lambda ⟨[], [], none, [], [], none, []⟩ body scope lpos) X.env) :: backTo pos (starEach [] X.env))) _ _ s
  refine Calls.spliced_cons (LamX.lam_make2 (T := P.T) I TB hcode hmT hu em.tb (by rfl) (L.has I.ok) fun f c' pm' ctv H1 s' I1 eN T1 hf hfn hfr hco => ?_)
  refine Calls.spliced_nil ⟨I1.kIn, ?_⟩
  obtain ⟨x1, em1⟩ := em.extN eN T1
  have rc : codeAny (model X.prog X.w) X.A (.call (.ref g) ⟨[.ref f], []⟩) (CR C8.CX0 X.stack X.prog X.w H1 s' Q C8.E0) s' := by
    have lk' := lk
    rw [← a.F.K] at lk'
    refine LamX.run_ofS (N := Ng) (ps := [av]) (us := [.ref f]) (vs := [.ref f]) lk' (by rw [a.F.K]; exact hcd) Sg LA.room I1.env0 ?_ (.cons rfl .nil) rfl fun hr' => ?_
    · have b := hb s' [.ref f] (by rw [← a.F.K]; exact I1.kIn) rfl
      exact b
    · have gv := gives X.A X.stack cdv s' H1 f c' (X.env.qual ++ "<lambda>") Q (fun E' H' Q' => tE P G (zOf P E') m σ H' Q') hr' a.F.guards
      rw [← a.F.prog, ← a.F.w, ← a.F.K, ← a.F.mg, ← a.F.base] at gv
      have tt : TTs P G (fun E' H' Q' => tE P G (zOf P E') m σ H' Q') H1 Q := by
        refine ⟨M, S, ρ, em1, rn.mono x1, ?_⟩
        revert q
        cases ev G P.gi m ρ S with
        | ok y S1 =>
          intro q M' H' v e em' rv
          obtain ⟨w, hw, k⟩ := q.oret
          refine ⟨M', S1, [y], em', .cons rv .nil, ?_⟩
          show Res P Rv M' H' (oret (reprD S1 y) S1) Q ZF
          rw [hw]
          exact k.ext (x1.trans e)
        | exc y S1 =>
          intro q M' H' e em' c d hx
          dsimp only at q
          split at q
          · rename_i w T hw
            exact ⟨y, S1, M', em', hx, w, T, hw, fun H2 e2 em2 => q M' H2 (.str w) ((x1.trans e).trans e2) em2 (.str w)⟩
          · exact q.elim
        | bad => exact fun q => q
      obtain ⟨t, ht, hq⟩ := gv (fun W pn xe E p1 p2 tk hW => pe_actN (i := 0) (k := 4 * n + 2) I1 L hf hfn hfr (by rfl) tk hW hr' (fun A outer s H hg2 hr2 => hbody (lam_at hh a L (hg2.trans a.F.guards) hr2)) hN hv d1 d2) hco tt
      exact ⟨t, ht.nox, hq⟩
  refine wpAny_call (codeAny_mono rc fun r s2 hq => ?_)
  cases r with
  | error e => exact (show False from hq).elim
  | ok fl =>
    cases fl with
    | ret u => exact I1.after hq
    | next => exact False.elim hq
    | brk => exact False.elim hq
    | cont => exact False.elim hq
end
end PL
end

section
set_option Elab.async false
set_option linter.all false
set_option maxRecDepth 100000
set_option maxHeartbeats 1000000
/-! PLX7: an exception of a class of one's own held as a value: made, asked for its class, its place read. -/
namespace PL
open PySem PySem.Spec PyProof.Rows L2
/-- at a: an exception of the class at D, its dict, if any, with the place -/
def Made (H : Hp) (a D : Addr) : Option (Addr × Int) → Prop
  | none => H a = some (ExO (.ref D) a)
  | some (dx, i) => H a = some (exo a D (some dx)) ∧ H dx = some (exd dx [(("at" : Str), V.int i)])
section
variable {X : Cx} {D a : Addr} {m : Option (Addr × Int)}
theorem Made.inst {pins : List (Addr × Obj)} {σ : L2.St} {H : Hp} {s : Shared} (I : L2.Inv X pins σ H s) (h : Made H a D m) : ∃ (oe : Obj) (od : Option Obj), W.InstAt s.heap a oe D od := by
  cases m with
  | none =>
    have x : ObjOk X.prog X.w H s.heap a (ExO (.ref D) a) := I.hok a _ h
    obtain ⟨⟨oe, vs, g, ⟨hc, hd⟩, hv, _⟩, _⟩ := x
    refine ⟨oe, none, g, hc, by unfold W.notCls; rw [hv] <;> rfl, ?_⟩
    obtain ⟨oc, odd, oda, osl⟩ := oe
    dsimp only at hd
    subst hd
    exact trivial
  | some p =>
    obtain ⟨dx, i⟩ := p
    obtain ⟨t1, ho⟩ := exo_at I.hok h.1
    obtain ⟨mA, hns, hr⟩ := exd_at I.hok h.2
    obtain ⟨od, hod, hl⟩ := lookIn_ns hns
    exact ⟨_, some od, ho, rfl, rfl, hod⟩
theorem Made.instD {pins : List (Addr × Obj)} {σ : L2.St} {H : Hp} {s : Shared} {dx : Addr} {i : Int} (I : L2.Inv X pins σ H s) (h : Made H a D (some (dx, i))) : ∃ (oe od : Obj) (mA : Str → Option Value), W.InstAt s.heap a oe D (some od) ∧ (∀ f, W.lookIn f od = some (mA f)) ∧ ∀ f, RelO (([(("at" : Str), V.int i)] : List (Str × V)).lookup f) (mA f) := by
  obtain ⟨t1, ho⟩ := exo_at I.hok h.1
  obtain ⟨mA, hns, hr⟩ := exd_at I.hok h.2
  obtain ⟨od, hod, hl⟩ := lookIn_ns hns
  exact ⟨_, od, mA, ⟨ho, rfl, rfl, hod⟩, hl, hr⟩
/-- isinstance of it -/
def rIsM (K : W.Frag) : List V → Hp → VK → Prop := fun xs H Q => ∃ a D m, Made H a D m ∧ ExcC K D ∧ rIsE K D a xs H Q
theorem call_isM : CallR X (.builtin "isinstance") (rIsM X.K) := by
  intro pins s σ H xs us Q I r h
  obtain ⟨a, D, m, hm, C, c, cv, b, ex, hcv, kt, q⟩ := h
  subst ex
  obtain ⟨u1, u2, rfl, r1, r2⟩ := vals2 r
  cases r1
  cases hcv _ r2
  obtain ⟨oe, od, J⟩ := hm.inst I
  have hcl : (W.clsIn X.K D).isSome = true := by
    obtain ⟨cd, h, _⟩ := W.any_some C.hd
    rw [h]
    rfl
  exact W.kia_one (W.kitx_exc hcl C.hg C.hk C.hs C.ha C.hn C.ht C.hm) I.kIn J kt (fun z => nomatch z) fun tk => ⟨.bl b, H, I.tok tk, rfl, q⟩
theorem CallR.or {f : Value} {r1 r2 : List V → Hp → VK → Prop} (h1 : CallR X f r1) (h2 : CallR X f r2) : CallR X f (fun xs H Q => r1 xs H Q ∨ r2 xs H Q) := by
  intro pins s σ H xs us Q I r h
  rcases h with h | h
  · exact h1 pins s σ H xs us Q I r h
  · exact h2 pins s σ H xs us Q I r h
end
section
variable {X : Cx} {e : Expr} {te : TE} {p pos : Pos}
/-- its place -/
def tXm (K : W.Frag) (te : TE) : TE := fun σ H Q => te σ H fun x H1 => ∃ a D dx i, x = .ref a ∧ Made H1 a D (some (dx, i)) ∧ XfC K D ∧ W.findIn K (.ref D) "at" = some none ∧ Q (.int i) H1
theorem pe_xam (he : PE X e te) (hb : attributeBase e "at" X.env (eval e X.env) = eval e X.env) : PE X (.Attribute e "at" pos) (tXm X.K te) := by
  constructor
  intro pins s σ H Q I h
  refine attr_of hb (thn (he.run pins s σ H _ I h) fun u s1 hh => ?_)
  obtain ⟨x, H1, I1, rx, a, D, dx, i, ex, hm, T, hno, q⟩ := hh
  subst ex
  obtain rfl : u = Value.ref a := rx
  obtain ⟨oe, od, mA, J, hl, hr⟩ := hm.instD I1
  obtain ⟨u, hu, ru⟩ := RelO.some_of (v := V.int i) (o := mA "at") (by have := hr "at"; simpa [List.lookup] using this)
  exact HandSPX.exc_get I1.kIn J T.ga T.gg T.exC (W.findObj_own T.hdC hno rfl (by rw [hl, hu])) (handed_of ru) ⟨_, H1, I1.tok _, ru, q⟩
/-- both at once: the exception in hand, or one that was made -/
theorem PE.orE {t1 t2 : TE} (h1 : PE X e t1) (h2 : PE X e t2) : PE X e (fun σ H Q => t1 σ H Q ∨ t2 σ H Q) := ⟨fun pins s σ H Q I h => by
  rcases h with h | h
  · exact h1.run pins s σ H Q I h
  · exact h2.run pins s σ H Q I h⟩
/-- C(e), a class without an __init__ of its own -/
theorem pe_mkx {C : Addr} {bmB : List Value} {B newId initId : String} {x : Str} (F : ExcBaseFacts B newId initId bmB) (q : W.excIn X.K C bmB newId = true) (gC : X.mg x = some (.ref C)) (kC : W.keepIn X.K (.ref C) = true) (hg : Gl X x)
    (he : PE X e te) (hs : isStar e = false) (hdb : (x == ("__debug__" : Str)) = false) :
    PE X (.Call (.Name x p) [e] [] pos) (fun σ H Q => te σ H fun _ H1 => ∀ a, H1 a = none → Q (.ref a) (upd H1 a (ExO (.ref C) a))) :=
  pe_exc1 F q gC kC hg he (starEach_cons hs) hdb
end
section
variable {X : Cx} {C fI : Addr} {fd : FuncData} {ps : List Str} {x : Str} {e : Expr} {te : TE} {p pos : Pos}
/-- C(e): the place is kept -/
def tMkV (C : Addr) (te : TE) : TE := fun σ H Q => te σ H fun v H1 => ∃ i : Int, v = .int i ∧ ∀ a dx, H1 a = none → H1 dx = none → dx ≠ a → Q (.ref a) (upd (upd H1 dx (exd dx [(("at" : Str), .int i)])) a (exo a C (some dx)))
theorem pe_mkxA (T : OexC X.K C) (iC : W.findIn X.K (.ref C) "__init__" = some (some (.ref fI))) (tI : W.typeIn X.K (.ref fI) = some (.type "function")) (F1 : FnOk X.prog X.w X.K X.mg X.base C8.CX0 1 fI fd ps (spA C)) (hr : Room 2 X.A) (hb : Binds X.K fd ps [])
    (hg : Gl X x) (hm : X.mg x = some (.ref C)) (he : PE X e te) (hs : isStar e = false) (hdb : (x == ("__debug__" : Str)) = false) : PE X (.Call (.Name x p) [e] [] pos) (tMkV C te) := by
  constructor
  intro pins s σ H Q I h
  obtain ⟨nm, q, N, bs, bm, sn, sub, ab, col, dd, k0, k1, k2, k3, k5, hC, hbm⟩ := T.cls
  refine wpAny_Call_Name_kw (ld_glob I hg hm ?_ hdb)
  refine W.callWith_K (h₀ := X.base) I.ok.mod.kin T.kC (args_cons (thn (he.run pins s σ H _ I h) fun u s1 z => args_nil ?_) (starEach_cons hs)) (starEach_cons hs) rfl
  obtain ⟨v, H1, I1, r1, i, ev, q1⟩ := z
  subst ev
  refine ⟨I1.kIn, ?_⟩
  show wpAny _ _ (call (.ref C) [u]) _ _ _
  obtain ⟨hp, g, dr, tk, os⟩ := s1
  have hsz : hp.objs.size ≤ hp.objs.size + 1 := Nat.le_succ _
  have hn : H1 (hp.objs.size + 1) = none := I1.hok.fresh hsz
  have kk : ∀ b o, hp.get? b = some o → ((hp.push (W.kdv_tup [u])).push (HandSPX.excO C hp.objs.size)).get? b = some o := fun b o e => Heap.get?_push_of_some _ (Heap.get?_push_of_some _ e)
  have hget : ((hp.push (W.kdv_tup [u])).push (HandSPX.excO C hp.objs.size)).get? (hp.objs.size + 1) = some (HandSPX.excO C hp.objs.size) := by heap_get
  have I2 : Inv X pins σ (upd H1 (hp.objs.size + 1) (exo (hp.objs.size + 1) C none)) ⟨(hp.push (W.kdv_tup [u])).push (HandSPX.excO C hp.objs.size), g, dr, tk, os⟩ :=
    I1.laid (t' := tk) kk hsz (exo_ok hget)
  have r2 : Vals [V.ref (hp.objs.size + 1), .int i] [Value.ref (hp.objs.size + 1), u] := .cons rfl (.cons r1 .nil)
  have hq : spA C [V.ref (hp.objs.size + 1), .int i] (upd H1 (hp.objs.size + 1) (exo (hp.objs.size + 1) C none)) (fun v H2 => v = .non ∧ Q (.ref (hp.objs.size + 1)) H2) (fun _ _ _ => False) := by
    refine ⟨_, i, rfl, upd_same, fun dx n1 n2 => ⟨rfl, ?_⟩⟩
    rw [upd_ne n2] at n1
    have e3 : upd (upd (upd H1 (hp.objs.size + 1) (exo (hp.objs.size + 1) C none)) dx (exd dx [(("at" : Str), .int i)])) (hp.objs.size + 1) (exo (hp.objs.size + 1) C (some dx)) = upd (upd H1 dx (exd dx [(("at" : Str), .int i)])) (hp.objs.size + 1) (exo (hp.objs.size + 1) C (some dx)) := by
      funext b
      by_cases hc : b = hp.objs.size + 1
      · subst hc
        rw [upd_same, upd_same]
      · rw [upd_ne hc, upd_ne hc]
        by_cases hb : b = dx
        · subst hb
          rw [upd_same, upd_same]
        · rw [upd_ne hb, upd_ne hb, upd_ne hc]
    rw [e3]
    exact q1 _ dx hn n1 n2
  have hl : [Value.ref (hp.objs.size + 1), u].length = ps.length := F1.len _ _ _ _ hq
  have hb2 := hb ⟨(hp.push (W.kdv_tup [u])).push (HandSPX.excO C hp.objs.size), g, dr, tk, os⟩ [.ref (hp.objs.size + 1), u] I2.kIn (by rw [List.append_nil]; exact hl)
  rw [List.append_nil] at hb2
  refine wpAny_call (HandSPX.call_own F.excBase_ValueError (fun Y => HandSPX.refsVE_contains Y bm hbm) (I1.kIn _ _ hC) (W.looks_findIn I1.kIn iC) (fun self => W.bind_fn I1.kIn self tI) (by show 1 ≤ sizeLine; rw [sizeLine_eq]; omega)
    (codeAny_mono (F1.run _ X.stack _ _ ⟨[.ref (hp.objs.size + 1), u], []⟩ [.ref (hp.objs.size + 1), u] _ _ (fun _ _ _ => False) (hr.make C [u] []) (I2.env0.make C [u] []) hb2 r2 hq) fun r s' hq' => ?_))
  cases r with
  | error er => exact hq'.elim
  | ok fl =>
    cases fl with
    | ret u =>
      obtain ⟨v, H', I3, rv, ev, q3⟩ := I2.after hq'
      subst ev
      exact ⟨rv, ⟨V.ref (hp.objs.size + 1), H', I3, rfl, q3⟩⟩
    | next => exact False.elim hq'
    | brk => exact False.elim hq'
    | cont => exact False.elim hq'
end
section
variable {X : Cx} {D dd : Addr} {p : Addr × Obj}
theorem pe_xatB {e : Expr} {te : TE} {pos : Pos} (T : XfC X.K D) (hno : W.findIn X.K (.ref D) "at" = some none) (hp : p ∈ X.pn) (hc : p.2.cls = .ref D) (hd : p.2.dict = some dd) (hf : ∃ vs, p.2.data = .fields vs) (he : PE X e te) (hb : attributeBase e "at" X.env (eval e X.env) = eval e X.env) :
    PE X (.Attribute e "at" pos) (fun σ H Q => te σ H fun x H1 => (x = .ref p.1 ∧ ∃ fs v, H1 dd = some (.xd fs) ∧ fs.lookup ("at" : Str) = some v ∧ Q v H1) ∨ ∃ a D dx i, x = .ref a ∧ Made H1 a D (some (dx, i)) ∧ XfC X.K D ∧ W.findIn X.K (.ref D) "at" = some none ∧ Q (.int i) H1) := by
  constructor
  intro pins s σ H Q I h
  refine attr_of hb (thn (he.run pins s σ H _ I h) fun u s1 hh => ?_)
  obtain ⟨x, H1, I1, rx, hh⟩ := hh
  rcases hh with ⟨ex, fs, v, ea, l, q⟩ | ⟨a, D', dx, i, ex, hm, T', hno', q⟩
  · subst ex
    obtain rfl : u = Value.ref p.1 := rx
    obtain ⟨od, mA, J, hl, hr⟩ := inst_xd I1 hp hc hd hf ea
    obtain ⟨u, hu, ru⟩ := RelO.some_of (v := v) (o := mA "at") (by rw [← l]; exact hr "at")
    exact HandSPX.exc_get I1.kIn J T.ga T.gg T.exC (W.findObj_own T.hdC hno rfl (by rw [hl, hu])) (handed_of ru) ⟨v, H1, I1.tok _, ru, q⟩
  · subst ex
    obtain rfl : u = Value.ref a := rx
    obtain ⟨oe, od, mA, J, hl, hr⟩ := hm.instD I1
    obtain ⟨u, hu, ru⟩ := RelO.some_of (v := V.int i) (o := mA "at") (by have := hr "at"; simpa [List.lookup] using this)
    exact HandSPX.exc_get I1.kIn J T'.ga T'.gg T'.exC (W.findObj_own T'.hdC hno' rfl (by rw [hl, hu])) (handed_of ru) ⟨_, H1, I1.tok _, ru, q⟩
end
theorem exc_cases {P : Pg} {M1 : Ma} {H1 : Hp} {S1 : Sto} {d w : D} {v : V} {z : Str} (em1 : P.Emb M1 H1 S1) (r1 : Rv M1 H1 d v) (hw : (isiD S1 d (.exc z)).map PyData.bool = some w) :
    ∃ c b, v = .ref b ∧ w = .bool (xsub c z) ∧ ((∃ dd, P.hx = some (b, c, dd) ∧ ∀ x, dd = some x → ∃ fs, H1 x = some (.xd fs)) ∨ (c ∈ P.xr ∧ ∃ m, Made H1 b (P.CA c) m)) := by
  simp only [isiD] at hw
  cases hd2 : asEx d with
  | none => rw [hd2] at hw; cases hw
  | some c' =>
    rw [hd2] at hw
    cases hw
    rcases asEx_some hd2 with ed | ⟨i, ed⟩
    · subst ed
      obtain ⟨b, rfl, hb⟩ := r1.exnI
      refine ⟨c', b, rfl, rfl, ?_⟩
      rw [em1.kf] at hb
      rcases hb with hb | ⟨C, f, hk, ha⟩
      · exact .inl ⟨none, hb, fun x z => nomatch z⟩
      · obtain ⟨hr, rfl, _⟩ := Pg.cx_some hk
        exact .inr ⟨hr, none, ha⟩
    · subst ed
      obtain ⟨b, rfl, hb⟩ := r1.exaI
      refine ⟨c', b, rfl, rfl, ?_⟩
      rw [em1.kf] at hb
      rcases hb with ⟨dd, hb, hx⟩ | ⟨C, dx, hk, ha, hd⟩
      · exact .inl ⟨some dd, hb, fun x z => by cases z; exact ⟨_, hx⟩⟩
      · obtain ⟨hr, rfl, _⟩ := Pg.cx_some hk
        exact .inr ⟨hr, some (dx, i), ha, hd⟩
/-! ### a def called where nothing is told -/
theorem Ma.alone_mem {M : Ma} {a : Addr} (h : a ∈ (⟨[], M.n ++ M.f, M.k⟩ : Ma)) : a ∈ M := by
  rcases h with z | z
  · cases z
  · exact List.mem_append.mp z
section
variable {M M' : Ma} {H : Hp}
mutual
theorem Rv.sub0 (hs : ∀ a, a ∈ M' → a ∈ M) (hk : M'.k = M.k) : ∀ {d : D} {v : V}, Rv M H d v → refB 0 d = true → Rv M' H d v
  | _, _, .non, _ => .non
  | _, _, .bl b, _ => .bl b
  | _, _, .int i, _ => .int i
  | _, _, .str x, _ => .str x
  | _, _, .tup h n r, p => .tup h (fun z => n (hs _ z)) (Rvs.sub0 hs hk r (by simpa only [refB] using p))
  | _, _, .lst h n r, p => .lst h (fun z => n (hs _ z)) (Rvs.sub0 hs hk r (by simpa only [refB] using p))
  | _, _, .scr h r, p => .scr (h.sub hk fun m z => m (hs _ z)) (Rvs.sub0 hs hk r (by unfold refB at p; exact p))
  | _, _, .dct q h n, p => .dct q h (fun z => n (hs _ z))
  | _, _, @Rv.ref _ _ i a h, p => by
    unfold refB at p
    exact absurd (of_decide_eq_true p) (Nat.not_lt_zero _)
  | _, _, .exn h, p => .exn (by rw [hk]; exact h)
  | _, _, .exnA h q n, p => .exnA (by rw [hk]; exact h) q (fun z => n (hs _ z))
  | _, _, .exnH k h n, p => .exnH (by rw [hk]; exact k) h (fun z => n (hs _ z))
  | _, _, .exaH k h n h2 n2, p => .exaH (by rw [hk]; exact k) h (fun z => n (hs _ z)) h2 (fun z => n2 (hs _ z))
theorem Rvs.sub0 (hs : ∀ a, a ∈ M' → a ∈ M) (hk : M'.k = M.k) : ∀ {ds : List D} {vs : List V}, Rvs M H ds vs → refBs 0 ds = true → Rvs M' H ds vs
  | _, _, .nil, _ => .nil
  | _, _, .cons r t, p => by
    simp only [refBs, Bool.and_eq_true] at p
    exact .cons (Rv.sub0 hs hk r p.1) (Rvs.sub0 hs hk t p.2)
end
end
section
variable {T : List (Addr × Str)} {CA : Str → Addr} {KF : (PySem.W.Frag × (Str → Option (Addr × Bool))) × Option (Addr × Str × Option Addr)} {M M' : Ma} {H H' : Hp} {S S' : Sto} {d : D} {v : V}
theorem Emb.alone (em : Emb T CA KF M H S) : Emb T CA KF ⟨[], M.n ++ M.f, M.k⟩ H [] := by
  refine ⟨em.kf, rfl, List.nodup_nil, fun b hb => ⟨?_, fun z => by cases z⟩, fun i b o h => by simp at h, em.tb⟩
  rcases List.mem_append.mp hb with z | z
  · obtain ⟨_, _, _, _, q⟩ := em.has z
    exact q.some
  · exact (em.df b z).1
theorem alone_ok (em : Emb T CA KF M H S) (e : Ext ⟨[], M.n ++ M.f, M.k⟩ H M' H') (em' : Emb T CA KF M' H' S') (r : Rv M' H' d v) (hd : refB 0 d = true) : ∃ M2, Ext M H M2 H' ∧ Emb T CA KF M2 H' S ∧ Rv M2 H' d v := by
  have up : ∀ a, a ∈ M.n ∨ a ∈ M.f → a ∈ M'.f := fun a h => e.sub a (List.mem_append.mpr h)
  have ne : ∀ a, a ∈ M.f → a ∉ M.n := fun a h => (em.df a h).2
  let M2 : Ma := ⟨M.n, M'.f.filter (fun a => decide (a ∉ M.n)), M.k⟩
  have m2 : ∀ a, a ∈ M2 → a ∈ M' := fun a h => by
    rcases h with z | z
    · exact .inr (up a (.inl z))
    · exact .inr (List.mem_filter.mp z).1
  have mm : ∀ a, a ∉ M → a ∉ (⟨[], M.n ++ M.f, M.k⟩ : Ma) := fun a h z => h (Ma.alone_mem z)
  have x : Ext M H M2 H' := by
    refine ⟨⟨⟨⟨[], by simp [M2]⟩, rfl⟩, fun a h => List.mem_filter.mpr ⟨up a (.inr h), by simpa using ne a h⟩, fun a o h n t => e.keep a o h (mm a n) t, fun a h n => e.new a (m2 a h) (mm a n)⟩, fun a o h n t => e.kf a o h (List.mem_append_right _ n) t⟩
  have hk' : M'.k = M.k := e.pre.2
  refine ⟨M2, x, ⟨em.kf, em.len, em.nd, fun a ha => ?_, fun i a o h1 h2 => ?_, em'.tb⟩, r.sub0 m2 hk'.symm hd⟩
  · have h1 := List.mem_filter.mp ha
    exact ⟨(em'.df a h1.1).1, by simpa using h1.2⟩
  · have w := em.ob i a o h1 h2
    obtain ⟨u, q, nt⟩ := w.some
    exact w.mono x ((e.kf a u q (List.mem_append_left _ (List.mem_of_getElem? h1)) nt).trans q.symm)
end
end PL
end

section
set_option Elab.async false
set_option linter.all false
set_option maxRecDepth 100000
set_option maxHeartbeats 2000000
/-! PLO: the expressions' theorem, all in one. -/
namespace PL
open PySem PySem.Spec PyProof.Rows L2
section
variable {P : Pg} {G : Calls} {n : Nat} {gt : Gt}
theorem tT_of {Z : ZX} {m : E} {σ : L2.St} {H : Hp} {Q : Bool → Hp → Prop} (h : tT P G Z m σ H Q) : tE P G Z m σ H fun v H' => ∃ b, v = .bl b ∧ Q b H' := h
theorem isT {X : Cx} {m : E} {Z : ZX} {e : Expr} (h : PE X e (tE P G Z m)) (he : ∀ whole, isTrue e X.env whole = (do let v ← whole; standAt e.pos; holding [v] (truthy v))) : PT X e (tT P G Z m) :=
  PT.imp (pt_val h he) fun σ H Q q => q
theorem both {X : Cx} {m : E} {Z : ZX} {e : Expr} (h : PE X e (tE P G Z m)) (he : ∀ whole, isTrue e X.env whole = (do let v ← whole; standAt e.pos; holding [v] (truthy v))) : PE X e (tE P G Z m) ∧ (tst m = true → PT X e (tT P G Z m)) := ⟨h, fun _ => isT h he⟩
theorem Out.bind_assoc {α β γ : Type} (r : Out α) (f : α → Sto → Out β) (g : β → Sto → Out γ) : (r.bind f).bind g = r.bind fun a S => (f a S).bind g := by cases r <;> rfl
theorem tst_cmp {X : Cx} {m : E} {Z : ZX} {t : TE} {e : Expr} (h : PT X e (tTest t)) (i : ∀ σ H Q, tE P G Z m σ H Q → t σ H Q) : PT X e (tT P G Z m) := PT.imp h fun σ H Q q => i σ H _ q
theorem vals_n {M : Ma} {H : Hp} {d : D} {v : V} (r : Rv M H d v) {b : Bool} (h : d = .bool b) : v = .bl b := by
  subst h; cases r; rfl
theorem pa_one {X : Cx} {Z : ZX} {m : E} {e : Expr} (h : PE X e (tE P G Z m)) (hs : isStar e = false) : PA X [e] (tEs P G Z [m]) :=
  PA.imp (pa_cons h pa_nil (starEach_cons hs)) fun σ H Q ⟨M, S, ρ, em, rn, q⟩ => by
    simp only [evs] at q
    exact tE.step em rn q fun v H1 M1 S1 d e1 em1 rn1 r1 k => k.ok em1 (.cons r1 .nil)
theorem pa_two {X : Cx} {Z : ZX} {m k : E} {e f : Expr} (h : PE X e (tE P G Z m)) (h2 : PE X f (tE P G Z k)) (hs : isStar e = false) (hs2 : isStar f = false) : PA X [e, f] (tEs P G Z [m, k]) :=
  PA.imp (pa_cons h (pa_cons h2 pa_nil (starEach_cons hs2)) (starEach_cons hs)) fun σ H Q ⟨M, S, ρ, em, rn, q⟩ => by
    simp only [evs] at q
    refine tE.step em rn q fun v H1 M1 S1 d e1 em1 rn1 r1 k => ?_
    rw [Out.bind_assoc] at k
    exact tE.step em1 rn1 k fun u H2 M2 S2 w e2 em2 rn2 r2 k2 => k2.ok em2 (.cons (r1.mono e2) (.cons r2 .nil))
theorem pa_three {X : Cx} {Z : ZX} {m k l : E} {e f g : Expr} (h : PE X e (tE P G Z m)) (h2 : PE X f (tE P G Z k)) (h3 : PE X g (tE P G Z l)) (hs : isStar e = false) (hs2 : isStar f = false) (hs3 : isStar g = false) : PA X [e, f, g] (tEs P G Z [m, k, l]) :=
  PA.imp (pa_cons h (pa_cons h2 (pa_cons h3 pa_nil (starEach_cons hs3)) (starEach_cons hs2)) (starEach_cons hs)) fun σ H Q ⟨M, S, ρ, em, rn, q⟩ => by
    simp only [evs] at q
    refine tE.step em rn q fun v H1 M1 S1 d e1 em1 rn1 r1 k => ?_
    rw [Out.bind_assoc] at k
    refine tE.step em1 rn1 k fun u H2 M2 S2 w e2 em2 rn2 r2 k2 => ?_
    simp only [Out.bind_assoc] at k2
    exact tE.step em2 rn2 k2 fun t H3 M3 S3 z e3 em3 rn3 r3 k3 => k3.ok em3 (.cons (r1.mono (e2.trans e3)) (.cons (r2.mono e3) (.cons r3 .nil)))
theorem meth_case {Z : ZX} {M : Ma} {H : Hp} {Q : VK} {c m : Str} {d : D} {S : Sto} {ρ : Env} {es : List E}
    (k : Res P Rv M H (match (asRef d).bind (insD S) with
      | some (c', fs) => if c' = c ∧ fs.lookup m = none then (evs G P.gi es ρ S).bind fun ws S => G (c ++ "." ++ m) (d :: ws) S else .bad
      | none => .bad) Q Z) : ∃ i fs, d = rf i ∧ insD S i = some (c, fs) ∧ fs.lookup m = none ∧ Res P Rv M H ((evs G P.gi es ρ S).bind fun ws S => G (c ++ "." ++ m) (d :: ws) S) Q Z := by
  split at k
  · rename_i c' fs hi
    split at k
    · rename_i hc
      obtain ⟨h1, h2⟩ := hc
      subst h1
      cases ea : asRef d with
      | none => rw [ea] at hi; cases hi
      | some i =>
        rw [ea] at hi
        exact ⟨i, fs, asRef_some ea, hi, h2, k⟩
    · exact k.elim
  · exact k.elim
theorem ownR_len {d : D} {v : V} {M : Ma} {H : Hp} (h : ownR "__len__" d = true) (r : Rv M H d v) : ∃ n : Int, v = .int n ∧ 0 ≤ n ∧ n < 2 ^ 63 := by
  cases d with
  | int n =>
    simp only [ownR, Bool.and_eq_true, decide_eq_true_eq] at h
    cases r
    exact ⟨n, rfl, h.2.1, h.2.2⟩
  | str x =>
    simp only [ownR, decide_eq_true_eq] at h
    exact absurd h (by decide +kernel)
  | _ => simp [ownR] at h
theorem ownR_str {d : D} {v : V} {M : Ma} {H : Hp} (h : ownR "__repr__" d = true) (r : Rv M H d v) : ∃ c : Str, v = .str c := by
  cases d with
  | int n =>
    simp only [ownR, Bool.and_eq_true, decide_eq_true_eq] at h
    exact absurd h.1 (by decide +kernel)
  | str x =>
    cases r
    exact ⟨x, rfl⟩
  | _ => simp [ownR] at h
theorem ownR_txt {d : D} {v : V} {M : Ma} {H : Hp} (h : ownR "__str__" d = true) (r : Rv M H d v) : ∃ c : Str, v = .str c := by
  cases d with
  | int n =>
    simp only [ownR, Bool.and_eq_true, decide_eq_true_eq] at h
    exact absurd h.1 (by decide +kernel)
  | str x =>
    cases r
    exact ⟨x, rfl⟩
  | _ => simp [ownR] at h
theorem own_is {Z : ZX} {o : E} {c s : Str} {good : V → Prop} (hg : ∀ d v M H, ownR s d = true → Rv M H d v → good v) {σ : L2.St} {H : Hp} {Q : VK} (h : tE P G Z (.own o c s) σ H Q) :
    tOwn (P.CA c) (spG P (G (c ++ "." ++ s))) (EZ P Z) good (tE P G Z o) σ H Q := by
  obtain ⟨M, S, ρ, em, rn, q⟩ := h
  simp only [ev] at q
  refine tE.step em rn q fun v H1 M1 S1 d e1 em1 rn1 r1 k => ?_
  split at k
  · rename_i c' fs' hi
    split at k
    · rename_i hc
      subst hc
      cases ea : asRef d with
      | none => rw [ea] at hi; cases hi
      | some i =>
        rw [ea] at hi
        have ed := asRef_some ea
        subst ed
        obtain ⟨l, dx, vfs, rfl, g0, g1, g2, g3, g4⟩ := em1.ins hi r1
        refine ⟨l, dx, vfs, rfl, g1, ?_⟩
        refine ⟨M1, S1, [rf i], em1, .cons r1 .nil, ?_⟩
        have k2 := Res.bind (R := Rv) k
        refine (k2.zimp fun x S M' H' em' z c d hx => ⟨x, S, M', em', hx, z⟩).mono fun w H2 ⟨M2, S2, d2, e2, em2, rv2, k3⟩ => ?_
        split at k3
        · rename_i hr
          exact ⟨hg _ _ _ _ hr rv2, k3.ok em2 rv2⟩
        · exact k3.elim
    · exact k.elim
  · exact k.elim
theorem var_ok {i : Nat} {Γ : Ga} {X : Cx} {Z : ZX} {e : Expr} (h : chkV i Γ e = true) (a : At P n Z Γ X) : PE X e (tE P G Z (.var i)) ∧ (tst (.var i) = true → PT X e (tT P G Z (.var i))) := by
    unfold chkV at h
    split at h
    · rename_i x p
      simp only [Bool.and_eq_true, decide_eq_true_eq] at h
      obtain ⟨d1, d2, d3⟩ := dbg_ok h.2
      refine both ?_ (by intro _; rfl)
      exact PE.imp (pe_var (i := i) (by rw [a.F.N]; exact h.1.1) (by rw [a.F.sc]; exact visB_ok h.1.2) d1 d2) fun σ H Q ⟨M, S, ρ, em, rn, q⟩ => by
        simp only [ev] at q
        split at q
        · rename_i d hd
          obtain ⟨v, h1, h2⟩ := rn.at_ i d hd
          exact ⟨v, h1, q.ok em h2⟩
        · exact q.elim
    · cases h

theorem own_case {Z : ZX} {i j : Nat} {c : Str} {σ : L2.St} {H : Hp} {Q : VK} (h : tE P G Z (.isB false (.ite (.isi (.var j) (.cls c)) (.meth (.var i) c "__eq__" [.var j]) .never) (.bl true)) σ H Q) :
    tOp (fun x y H Q => ∃ a b dx dy fs gs, x = .ref a ∧ y = .ref b ∧ H a = some (.ins (P.CA c) dx fs) ∧ H b = some (.ins (P.CA c) dy gs) ∧ spG P (G (c ++ "." ++ "__eq__")) [x, y] H (fun v H' => ∃ q, v = .bl q ∧ Q (.bl q) H') (EZ P Z)) (tE P G Z (.var i)) (tE P G Z (.var j)) σ H Q := by
  obtain ⟨M, S, ρ, em, rn, q⟩ := h
  have hj : ∃ dj, ρ[j]? = some (some dj) := by
    cases e : ρ[j]? with
    | none => simp only [ev, e, Out.bind_bad] at q; exact q.elim
    | some o =>
      cases o with
      | none => simp only [ev, e, Out.bind_bad] at q; exact q.elim
      | some dj => exact ⟨dj, rfl⟩
  obtain ⟨dj, hj⟩ := hj
  simp only [ev, hj, Out.bind_ok] at q
  have hb : isiD S dj (.cls c) = some true := by
    cases e : isiD S dj (.cls c) with
    | none => rw [e] at q; exact q.elim
    | some b =>
      rw [e] at q
      cases b with
      | true => rfl
      | false => exact q.elim
  rw [hb] at q
  simp only [Option.map_some, oret_some, Out.bind_ok] at q
  have hi : ∃ di, ρ[i]? = some (some di) := by
    cases e : ρ[i]? with
    | none => simp only [e, Out.bind_bad] at q; exact q.elim
    | some o =>
      cases o with
      | none => simp only [e, Out.bind_bad] at q; exact q.elim
      | some dj => exact ⟨dj, rfl⟩
  obtain ⟨di, hi⟩ := hi
  simp only [hi, Out.bind_ok] at q
  have hins : ∃ k fs, di = rf k ∧ insD S k = some (c, fs) ∧ fs.lookup ("__eq__" : Str) = none := by
    cases ea : asRef di with
    | none => rw [ea] at q; exact q.elim
    | some k =>
      rw [ea] at q
      cases e2 : insD S k with
      | none => simp only [Option.bind_some, e2] at q; exact q.elim
      | some p =>
        obtain ⟨c', fs⟩ := p
        simp only [Option.bind_some, e2] at q
        split at q
        · rename_i hc
          obtain ⟨h1, h2⟩ := hc
          subst h1
          exact ⟨k, fs, asRef_some ea, e2, h2⟩
        · exact q.elim
  obtain ⟨k, fs, rfl, hk, hl⟩ := hins
  have hjn : ∃ k2 fs2, dj = rf k2 ∧ insD S k2 = some (c, fs2) := by
    unfold isiD at hb
    simp only at hb
    split at hb
    · rename_i p hp
      obtain ⟨c', fs2⟩ := p
      split at hb
      · rename_i hc
        have hc' : c' = c := hc
        subst hc'
        cases ea : asRef dj with
        | none => rw [ea] at hp; cases hp
        | some k2 =>
          rw [ea] at hp
          exact ⟨k2, fs2, asRef_some ea, hp⟩
      · cases hb
    · cases e : isi0 S dj .str with
      | none => rw [e] at hb; cases hb
      | some w => rw [e] at hb; cases hb
  obtain ⟨k2, fs2, rfl, hk2⟩ := hjn
  simp only [asRef_rf, Option.bind_some, hk, hl, and_self, if_true, evs, ev, hj, Out.bind_ok] at q
  refine ⟨M, S, ρ, em, rn, ?_⟩
  simp only [ev, hi]
  intro M1 H1 v e1 em1 r1
  refine ⟨M1, S, ρ, em1, rn.mono e1, ?_⟩
  simp only [ev, hj]
  intro M2 H2 u e2 em2 r2
  have r1' := r1.mono e2
  obtain ⟨a, dx, vfs, rfl, _, g1, _⟩ := em2.ins hk r1'
  obtain ⟨b, dy, wfs, rfl, _, g2, _⟩ := em2.ins hk2 r2
  refine ⟨a, b, dx, dy, vfs, wfs, rfl, rfl, g1, g2, M2, S, [rf k, rf k2], em2, .cons r1' (.cons r2 .nil), ?_⟩
  have q2 := (Res.bind (R := Rv) (Res.ext q (e1.trans e2)))
  refine Res.zimp (Res.mono q2 fun v H' ⟨M', S', d, e, em', rv, z⟩ => ?_) fun y S M' H' em' z c' d' hxa => ⟨y, S, M', em', hxa, z⟩
  split at z
  · rename_i p1 p2 heq
    cases heq
    cases rv
    refine ⟨_, rfl, ?_⟩
    have := z.ok em' (.bl _)
    simpa using this
  · exact z.elim
theorem new_case {Z : ZX} {M1 : Ma} {H1 : Hp} {S1 : Sto} {Q : VK} {c : Str} {ds : List D} {vs : List V} {x dx : Addr} (em1 : P.Emb M1 H1 S1) (r1 : Rvs M1 H1 ds vs)
    (k : Res P Rv M1 H1 ((G (c ++ ".__init__") (rf S1.length :: ds) (S1 ++ [.ins c []])).bind fun r S1' => (match r with
      | .none => .ok (rf S1.length) S1'
      | _ => .bad)) Q Z) (hx : H1 x = none) (hdx : H1 dx = none) (hne : dx ≠ x) :
    spG P (G (c ++ ".__init__")) (.ref x :: vs) (upd (upd H1 dx (.own x)) x (.ins (P.CA c) dx [])) (fun v H2 => v = .non ∧ Q (.ref x) H2) (EZ P Z) := by
  have x1 : Ext M1 H1 M1 (upd H1 dx (.own x)) := Ext.alloc hdx
  have hx2 : upd H1 dx (.own x) x = none := by rw [upd_ne (Ne.symm hne)]; exact hx
  have x2 : Ext M1 (upd H1 dx (.own x)) (M1.push x) (upd (upd H1 dx (.own x)) x (.ins (P.CA c) dx [])) := Ext.allocM hx2
  have em2 : P.Emb M1 (upd H1 dx (.own x)) S1 := em1.alloc hdx
  have hdM : dx ∉ M1 := em1.no hdx
  have hdM2 : dx ∉ M1.push x := fun z => by
    rcases z with z | z
    · rcases List.mem_append.mp z with z | z
      · exact hdM (.inl z)
      · exact hne (List.mem_singleton.mp z)
    · exact hdM (.inr z)
  have em3 : P.Emb (M1.push x) (upd (upd H1 dx (.own x)) x (.ins (P.CA c) dx [])) (S1 ++ [.ins c []]) := em2.allocM hx2 ⟨dx, [], upd_same, by rw [upd_ne hne, upd_same], hdM2, .nil⟩
  have rx : Rv (M1.push x) (upd (upd H1 dx (.own x)) x (.ins (P.CA c) dx [])) (rf S1.length) (.ref x) := by
    refine .ref ?_
    rw [← em1.len]
    show (M1.n ++ [x])[M1.n.length]? = some x
    simp
  refine ⟨M1.push x, S1 ++ [.ins c []], rf S1.length :: ds, em3, .cons rx ((r1.mono x1).mono x2), ?_⟩
  have k' := Res.bind (R := Rv) (Res.ext k (x1.trans x2))
  refine Res.zimp (Res.mono k' fun v H' ⟨M', S', d, e, em, rv, q⟩ => ?_) fun y S M' H' em' z c' d' hxa => ⟨y, S, M', em', hxa, z⟩
  split at q
  · cases rv
    exact ⟨rfl, q.ok em (rx.mono e)⟩
  · exact q.elim
def tEsD (P : Pg) (G : Calls) (Z : ZX) (es : List E) (js : List Int) : TA := fun σ H Q => tEs P G Z es σ H fun vs H' => ∀ ws, vs = ws ++ js.map V.int → Q ws H'
theorem evs_ints {ρ : Env} {S : Sto} {gi : Str → Option Int} : ∀ (ms : List E) (js : List Int), ms.map intLit = js.map some → evs G gi ms ρ S = .ok (js.map .int) S
  | [], [], _ => by simp only [evs, List.map_nil]
  | [], _ :: _, h => by simp at h
  | _ :: _, [], h => by simp at h
  | m :: ms, j :: js, h => by
    simp only [List.map_cons, List.cons.injEq] at h
    obtain ⟨h1, h2⟩ := h
    cases m with
    | int i =>
      cases h1
      simp only [evs, ev, Out.bind_ok, evs_ints ms js h2, List.map_cons]
    | _ => cases h1
theorem own_ok (C : Cg P n G gt) {g : Bool} {u w : E} {Γ : Ga} {X : Cx} {Z : ZX} {x y : Expr} {q : CmpOp} {pos : Pos} (h : ownB gt g u w Γ x q y = true) (a : At P n Z Γ X) :
    PE X (.Compare x [q] [y] pos) (tE P G Z (.isB g u w)) ∧ (tst (.isB g u w) = true → PT X (.Compare x [q] [y] pos) (tT P G Z (.isB g u w))) := by
  unfold ownB at h
  have hh := (cold_if h).1
  replace h := (cold_if h).2
  split at h
  · simp only [Bool.and_eq_true, decide_eq_true_eq, Bool.not_eq_true'] at h
    obtain ⟨⟨⟨⟨⟨⟨⟨h1, h2⟩, h2a⟩, h2b⟩, h3⟩, h4⟩, h5⟩, h6⟩ := h
    subst h1 h2 h2a h2b
    obtain ⟨fs, ms, hc, hms⟩ := clsM_ok h3
    have CC := C.cls _ _ _ hc
    obtain ⟨fa, fd, ps, m1, m2, m3⟩ := CC.meth _ _ hms
    obtain ⟨us, vus, bi⟩ := m3 0 (Nat.le_refl _)
    cases vus
    rw [← a.F.prog, ← a.F.w, ← a.F.K, ← a.F.mg, ← a.F.base] at m2
    have px := (var_ok (G := G) h5 a).1
    have py := (var_ok (G := G) h6 a).1
    have op := op_ownEq (E := EZ P Z) m2 ((a.room hh).mono (by omega)) a.F.guards (by rw [a.F.K]; exact m1) (by rw [a.F.K]; exact bi) a.passes
    exact ⟨PE.imp (pe_cmpR op px py h4) fun σ H Q q => own_case q, fun _ => tst_cmp (pt_cmpR op px py h4) fun σ H Q q => own_case q⟩
  · cases h
theorem isi_blt (C : Cg P n G gt) {t : Ty} {Γ : Ga} {X : Cx} {Z : ZX} {m : E} {y : Expr} {px pz' pos : Pos} (a : At P n Z Γ X) (h2 : glB gt Γ.sc "isinstance" .blt = true) (h4 : glB gt Γ.sc (Str.ofString (tyName t)) .blt = true) (h5 : isStar y = false) (h7 : tyName t ≠ "") (h6 : PE X y (tE P G Z m)) :
    PE X (.Call (.Name "isinstance" px) [y, .Name (Str.ofString (tyName t)) pz'] [] pos) (tE P G Z (.isi m t)) ∧ (tst (.isi m t) = true → PT X (.Call (.Name "isinstance" px) [y, .Name (Str.ofString (tyName t)) pz'] [] pos) (tT P G Z (.isi m t))) := by
  obtain ⟨g1, g2, g3⟩ := glB_ok h2
  obtain ⟨k1, k2, k3⟩ := glB_ok h4
  obtain ⟨b1, b2⟩ := ty_boot t h7
  have pz : ∀ p, PE X (.Name (Str.ofString (tyName t)) p) (tC (.ty (tyName t))) := fun p => pe_bltn (a.gl k1) (by rw [a.F.mg]; exact C.blt _ k2) b1 rfl b2 (dbg_ok k3).1
  refine both ?_ (by intro _; rfl)
  exact PE.imp (pe_callB call_isi (a.gl g1) (by rw [a.F.mg]; exact C.blt _ g2) (by decide +kernel) (pa_cons h6 (pa_cons (pz _) pa_nil) (starEach_cons h5)) (by decide) (dbg_ok g3).1 (starEach_cons h5) rfl) fun σ H Q ⟨M, S, ρ, em, rn, q⟩ => by
    simp only [ev] at q
    refine tE.step em rn q fun v H1 M1 S1 d e1 em1 rn1 r1 k => ?_
    obtain ⟨w, hw, k⟩ := k.oret
    cases hb : isiD S1 d t with
    | none => rw [hb] at hw; cases hw
    | some b =>
      rw [hb] at hw
      cases hw
      obtain ⟨T, ty, kt⟩ := isi_val (K := X.K) em1 r1 h7 hb
      exact ⟨v, .ty (tyName t), T, .type (tyName t), b, rfl, .ty _, ty, kt, k.ok em1 (.bl b)⟩
theorem tJs_of {Z : ZX} : ∀ (ms : List E) (acc : Str) {M : Ma} {H : Hp} {S : Sto} {ρ : Env} {σ : L2.St} {Q : VK}, P.Emb M H S → Renv M H ρ σ → Res P Rv M H (evf G P.gi ms acc ρ S) Q Z → tJs (ms.map (tE P G Z)) acc σ H fun out H1 => Q (.str out) H1
  | [], acc, M, H, S, ρ, σ, Q, em, rn, q => by
    simp only [evf] at q
    exact q.ok em (.str _)
  | m :: ms, acc, M, H, S, ρ, σ, Q, em, rn, q => by
    simp only [evf] at q
    show tE P G Z m σ H _
    refine tE.step em rn q fun v H1 M1 S1 d e1 em1 rn1 r1 k => ?_
    split at k
    · rename_i y
      split at k
      · rename_i hl
        cases r1
        exact ⟨y, rfl, hl, tJs_of ms _ em1 rn1 k⟩
      · exact k.elim
    · exact k.elim
mutual
theorem pe_ok (C : Cg P n G gt) : ∀ (m : E) {Γ : Ga} {X : Cx} {Z : ZX} {e : Expr}, chk gt m Γ e = true → At P n Z Γ X → PE X e (tE P G Z m) ∧ (tst m = true → PT X e (tT P G Z m))
  | .var i, Γ, X, Z, e, h, a => by
    simp only [chk] at h
    exact var_ok h a
  | .int i, Γ, X, Z, e, h, a => by
    simp only [chk] at h
    split at h
    · cases of_decide_eq_true h
      refine both ?_ (by intro _; rfl)
      exact PE.imp pe_int fun σ H Q ⟨M, S, ρ, em, rn, q⟩ => by simp only [ev] at q; exact q.ok em (.int i)
    · cases h
  | .bl i, Γ, X, Z, e, h, a => by
    simp only [chk] at h
    split at h
    · cases of_decide_eq_true h
      refine both ?_ (by intro _; rfl)
      exact PE.imp pe_bl fun σ H Q ⟨M, S, ρ, em, rn, q⟩ => by simp only [ev] at q; exact q.ok em (.bl i)
    · cases h
  | .non, Γ, X, Z, e, h, a => by
    simp only [chk] at h
    split at h
    · refine both ?_ (by intro _; rfl)
      exact PE.imp pe_non fun σ H Q ⟨M, S, ρ, em, rn, q⟩ => by simp only [ev] at q; exact q.ok em .non
    · cases h
  | .str i, Γ, X, Z, e, h, a => by
    simp only [chk] at h
    split at h
    · cases of_decide_eq_true h
      refine both ?_ (by intro _; rfl)
      exact PE.imp pe_str fun σ H Q ⟨M, S, ρ, em, rn, q⟩ => by simp only [ev] at q; exact q.ok em (.str i)
    · cases h
  | .gstr i w, Γ, X, Z, e, h, a => by
    simp only [chk] at h
    split at h
    · rename_i x p
      simp only [Bool.and_eq_true, decide_eq_true_eq] at h
      obtain ⟨rfl, h⟩ := h
      obtain ⟨g1, g2, g3⟩ := glB_ok h
      obtain ⟨t, m1⟩ := C.str i w g2
      refine both ?_ (by intro _; rfl)
      exact PE.imp (pe_glob (a.gl g1) (v := .str w) (by rw [a.F.mg]; exact m1) ⟨t, rfl⟩ (dbg_ok g3).1) fun σ H Q ⟨M, S, ρ, em, rn, q⟩ => by
        simp only [ev] at q; exact q.ok em (.str w)
    · cases h
  | .gint i, Γ, X, Z, e, h, a => by
    simp only [chk] at h
    split at h
    · rename_i x p
      simp only [Bool.and_eq_true, decide_eq_true_eq] at h
      obtain ⟨rfl, h⟩ := h
      obtain ⟨g1, g2, g3⟩ := glB_ok h
      obtain ⟨k, t, m1, m2⟩ := C.int i g2
      refine both ?_ (by intro _; rfl)
      exact PE.imp (pe_glob (a.gl g1) (v := .int k) (by rw [a.F.mg]; exact m1) ⟨t, rfl⟩ (dbg_ok g3).1) fun σ H Q ⟨M, S, ρ, em, rn, q⟩ => by
        simp only [ev, m2] at q; exact q.ok em (.int k)
    · cases h
  | .tup es, Γ, X, Z, e, h, a => by
    simp only [chk] at h
    split at h
    · simp only [Bool.and_eq_true] at h
      exact both (pe_tupM (pa_ok C es h.1 h.2 a)) (by intro _; rfl)
    · cases h
  | .lst b es, Γ, X, Z, e, h, a => by
    simp only [chk] at h
    split at h
    · simp only [Bool.and_eq_true] at h
      exact both (pe_lstM (b := b) (pa_ok C es h.1 h.2 a)) (by intro _; rfl)
    · cases h
  | .op o x y, Γ, X, Z, e, h, a => by
    simp only [chk] at h
    split at h
    · simp only [Bool.and_eq_true] at h
      obtain ⟨⟨h1, h2⟩, h3⟩ := h
      have e1 := opIs_eq h1
      subst e1
      refine both ?_ (by intro _; rfl)
      exact PE.imp (pe_op (o_op (P := P) (Z := Z) o) (pe_ok C x h2 a).1 (pe_ok C y h3 a).1) fun σ H Q ⟨M, S, ρ, em, rn, q⟩ => by
        simp only [ev] at q
        exact tE.step em rn q fun v H1 M1 S1 d e1 em1 rn1 r1 k => tE.step em1 rn1 k fun u H2 M2 S2 w e2 em2 rn2 r2 k2 => ⟨M2, S2, d, w, em2, r1.mono e2, r2, k2⟩
    · cases h
  | .cat x y, Γ, X, Z, e, h, a => by
    simp only [chk] at h
    split at h
    · simp only [Bool.and_eq_true] at h
      obtain ⟨h2, h3⟩ := h
      refine both ?_ (by intro _; rfl)
      exact PE.imp (pe_op (o_cat (P := P) (Z := Z)) (pe_ok C x h2 a).1 (pe_ok C y h3 a).1) fun σ H Q ⟨M, S, ρ, em, rn, q⟩ => by
        simp only [ev] at q
        exact tE.step em rn q fun v H1 M1 S1 d e1 em1 rn1 r1 k => tE.step em1 rn1 k fun u H2 M2 S2 w e2 em2 rn2 r2 k2 => ⟨M2, S2, d, w, em2, r1.mono e2, r2, k2⟩
    · cases h
  | .rep x y, Γ, X, Z, e, h, a => by
    simp only [chk] at h
    split at h
    · simp only [Bool.and_eq_true] at h
      obtain ⟨h2, h3⟩ := h
      refine both ?_ (by intro _; rfl)
      exact PE.imp (pe_op (o_rep (P := P) (Z := Z)) (pe_ok C x h2 a).1 (pe_ok C y h3 a).1) fun σ H Q ⟨M, S, ρ, em, rn, q⟩ => by
        simp only [ev] at q
        exact tE.step em rn q fun v H1 M1 S1 d e1 em1 rn1 r1 k => tE.step em1 rn1 k fun u H2 M2 S2 w e2 em2 rn2 r2 k2 => ⟨M2, S2, d, w, em2, r1.mono e2, r2, k2⟩
    · cases h
  | .neg x, Γ, X, Z, e, h, a => by
    simp only [chk] at h
    split at h
    · refine both ?_ (by intro _; rfl)
      exact PE.imp (pe_un un_neg (pe_ok C x h a).1) fun σ H Q ⟨M, S, ρ, em, rn, q⟩ => by
        simp only [ev] at q
        refine tE.step em rn q fun v H1 M1 S1 d e1 em1 rn1 r1 k => ?_
        split at k
        · cases r1
          exact ⟨_, rfl, k.ok em1 (.int _)⟩
        · exact k.elim
    · cases h
  | .cm c x y, Γ, X, Z, e, h, a => by
    simp only [chk] at h
    split at h
    · simp only [Bool.and_eq_true, Bool.not_eq_true'] at h
      obtain ⟨⟨⟨h1, h2⟩, h3⟩, h4⟩ := h
      have e1 := cmIs_eq h1
      subst e1
      have i : ∀ σ H Q, tE P G Z (.cm c x y) σ H Q → tOp (r2 P Z fun x y S => oret ((cmD S c x y).map .bool) S) (tE P G Z x) (tE P G Z y) σ H Q := fun σ H Q ⟨M, S, ρ, em, rn, q⟩ => by
        simp only [ev] at q
        exact tE.step em rn q fun v H1 M1 S1 d e1 em1 rn1 r1 k => tE.step em1 rn1 k fun u H2 M2 S2 w e2 em2 rn2 r2 k2 => ⟨M2, S2, d, w, em2, r1.mono e2, r2, k2⟩
      exact ⟨PE.imp (pe_cmpR (o_cm (Z := Z) a.F c) (pe_ok C x h3 a).1 (pe_ok C y h4 a).1 h2) i, fun _ => tst_cmp (pt_cmpR (o_cm (Z := Z) a.F c) (pe_ok C x h3 a).1 (pe_ok C y h4 a).1 h2) i⟩
    · cases h
  | .ch c c' x y z, Γ, X, Z, e, h, a => by
    simp only [chk] at h
    split at h
    · simp only [Bool.and_eq_true, Bool.not_eq_true'] at h
      obtain ⟨⟨⟨⟨⟨h1, h2⟩, h3⟩, h4⟩, h5⟩, h6⟩ := h
      have e1 := cmIs_eq h1
      have e2 := cmIs_eq h2
      subst e1 e2
      have i : ∀ σ H Q, tE P G Z (.ch c c' x y z) σ H Q → tChain (r2 P Z fun x y S => oret ((cmD S c x y).map .bool) S) (r2 P Z fun x y S => oret ((cmD S c' x y).map .bool) S) (tE P G Z x) (tE P G Z y) (tE P G Z z) σ H Q := fun σ H Q ⟨M, S, ρ, em, rn, q⟩ => by
        simp only [ev] at q
        refine tE.step em rn q fun v H1 M1 S1 d e1 em1 rn1 r1 k => tE.step em1 rn1 k fun u H2 M2 S2 w e2 em2 rn2 r2 k2 => ⟨M2, S2, d, w, em2, r1.mono e2, r2, ?_⟩
        show Res P Rv M2 H2 (oret ((cmD S2 c d w).map .bool) S2) _ Z
        split at k2
        · rename_i hc
          rw [hc]
          intro M3 H3 b e3 em3 rb
          cases rb
          refine ⟨true, rfl, ?_⟩
          rw [if_pos rfl]
          exact tE.step em3 (rn2.mono e3) (k2.ext e3) fun t H4 M4 S4 o e4 em4 rn4 r4 k4 => ⟨M4, S4, w, o, em4, (r2.mono e3).mono e4, r4, k4⟩
        · rename_i hc
          rw [hc]
          intro M3 H3 b e3 em3 rb
          cases rb
          refine ⟨false, rfl, ?_⟩
          rw [if_neg (by decide)]
          exact k2.okE e3 em3 (.bl false)
        · exact k2.elim
      exact ⟨PE.imp (pe_chain (o_cm (Z := Z) a.F c) (o_cm (Z := Z) a.F c') (pe_ok C x h4 a).1 (pe_ok C y h5 a).1 (pe_ok C z h6 a).1 h3) i,
        fun _ => tst_cmp (pt_chain (o_cm (Z := Z) a.F c) (o_cm (Z := Z) a.F c') (pe_ok C x h4 a).1 (pe_ok C y h5 a).1 (pe_ok C z h6 a).1 h3) i⟩
    · cases h
  | .isN g x, Γ, X, Z, e, h, a => by
    simp only [chk] at h
    split at h
    · simp only [Bool.and_eq_true] at h
      obtain ⟨h1, h2⟩ := h
      have px := (pe_ok C x h2 a).1
      cases g with
      | true =>
        have e1 := of_decide_eq_true h1
        subst e1
        have i : ∀ σ H Q, tE P G Z (.isN true x) σ H Q → tOp (fun x y H Q => y = .non ∧ Q (.bl (!decide (x = .non))) H) (tE P G Z x) (tC .non) σ H Q := fun σ H Q ⟨M, S, ρ, em, rn, q⟩ => by
          simp only [ev] at q
          refine tE.step em rn q fun v H1 M1 S1 d e1 em1 rn1 r1 k => ⟨rfl, ?_⟩
          rw [rv_non r1]
          cases d <;> exact k.ok em1 (.bl _)
        exact ⟨PE.imp (pe_cmpR op_notN px pe_non rfl) i, fun _ => tst_cmp (pt_cmpR op_notN px pe_non rfl) i⟩
      | false =>
        have e1 := of_decide_eq_true h1
        subst e1
        have i : ∀ σ H Q, tE P G Z (.isN false x) σ H Q → tOp (fun x y H Q => y = .non ∧ Q (.bl (decide (x = .non))) H) (tE P G Z x) (tC .non) σ H Q := fun σ H Q ⟨M, S, ρ, em, rn, q⟩ => by
          simp only [ev] at q
          refine tE.step em rn q fun v H1 M1 S1 d e1 em1 rn1 r1 k => ⟨rfl, ?_⟩
          rw [rv_non r1]
          cases d <;> exact k.ok em1 (.bl _)
        exact ⟨PE.imp (pe_cmpR op_isN px pe_non rfl) i, fun _ => tst_cmp (pt_cmpR op_isN px pe_non rfl) i⟩
    · cases h
  | .isB g x y, Γ, X, Z, e, h, a => by
    simp only [chk] at h
    split at h
    · rcases (Bool.or_eq_true _ _).mp h with h | h
      case inr => exact own_ok C h a
      simp only [Bool.and_eq_true, Bool.not_eq_true'] at h
      obtain ⟨⟨⟨h1, h2⟩, h3⟩, h4⟩ := h
      have px := (pe_ok C x h3 a).1
      have py := (pe_ok C y h4 a).1
      cases g with
      | true =>
        have e1 := of_decide_eq_true h1
        subst e1
        have i : ∀ σ H Q, tE P G Z (.isB true x y) σ H Q → tOp rNotB (tE P G Z x) (tE P G Z y) σ H Q := fun σ H Q ⟨M, S, ρ, em, rn, q⟩ => by
          simp only [ev] at q
          refine tE.step em rn q fun v H1 M1 S1 d e1 em1 rn1 r1 k => tE.step em1 rn1 k fun u H2 M2 S2 w e2 em2 rn2 r2 k2 => ?_
          split at k2
          · rename_i p q
            cases r1
            cases r2
            have eb : (true != (p == q)) = !decide (p = q) := by cases p <;> cases q <;> rfl
            rw [eb] at k2
            exact ⟨_, _, rfl, rfl, k2.ok em2 (.bl _)⟩
          · exact k2.elim
        exact ⟨PE.imp (pe_cmpR op_notBl px py h2) i, fun _ => tst_cmp (pt_cmpR op_notBl px py h2) i⟩
      | false =>
        have e1 := of_decide_eq_true h1
        subst e1
        have i : ∀ σ H Q, tE P G Z (.isB false x y) σ H Q → tOp rIsB (tE P G Z x) (tE P G Z y) σ H Q := fun σ H Q ⟨M, S, ρ, em, rn, q⟩ => by
          simp only [ev] at q
          refine tE.step em rn q fun v H1 M1 S1 d e1 em1 rn1 r1 k => tE.step em1 rn1 k fun u H2 M2 S2 w e2 em2 rn2 r2 k2 => ?_
          split at k2
          · rename_i p q
            cases r1
            cases r2
            have eb : (false != (p == q)) = decide (p = q) := by cases p <;> cases q <;> rfl
            rw [eb] at k2
            exact ⟨_, _, rfl, rfl, k2.ok em2 (.bl _)⟩
          · exact k2.elim
        exact ⟨PE.imp (pe_cmpR op_isBl px py h2) i, fun _ => tst_cmp (pt_cmpR op_isBl px py h2) i⟩
    · cases h
  | .and x y, Γ, X, Z, e, h, a => by
    simp only [chk] at h
    split at h
    · rename_i u v r p
      simp only [Bool.and_eq_true] at h
      obtain ⟨h1, h2⟩ := h
      have px := pe_ok C x h1 a
      have iv : ∀ σ H Q, tE P G Z (.and x y) σ H Q → tAndV (tE P G Z x) (tE P G Z y) σ H Q := fun σ H Q ⟨M, S, ρ, em, rn, q⟩ => by
        simp only [ev] at q
        refine tE.step em rn q fun v H1 M1 S1 d e1 em1 rn1 r1 k => ?_
        split at k
        · cases r1
          exact ⟨true, rfl, by (try dsimp only); rw [if_pos rfl]; exact ⟨M1, S1, ρ, em1, rn1, k⟩⟩
        · cases r1
          exact ⟨false, rfl, by (try dsimp only); rw [if_neg (by decide)]; exact k.ok em1 (.bl false)⟩
        · exact k.elim
      have it : ∀ σ H Q, tT P G Z (.and x y) σ H Q → tAnd (tT P G Z x) (tT P G Z y) σ H Q := fun σ H Q ⟨M, S, ρ, em, rn, q⟩ => by
        simp only [ev] at q
        refine tE.step em rn q fun v H1 M1 S1 d e1 em1 rn1 r1 k => ?_
        split at k
        · cases r1
          exact ⟨true, rfl, by (try dsimp only); rw [if_pos rfl]; exact ⟨M1, S1, ρ, em1, rn1, k⟩⟩
        · cases r1
          obtain ⟨b, eb, qb⟩ := k.ok em1 (.bl false)
          cases eb
          exact ⟨false, rfl, by (try dsimp only); rw [if_neg (by decide)]; exact qb⟩
        · exact k.elim
      cases r with
      | nil =>
        have py := pe_ok C y h2 a
        refine ⟨PE.imp (pe_and px.1 (pe_one py.1)) iv, fun ht => ?_⟩
        simp only [tst, Bool.and_eq_true] at ht
        exact PT.imp (pw_and (px.2 ht.1) (pw_and1 (py.2 ht.2))).pt it
      | cons z r =>
        have py := pe_ok C y h2 a
        refine ⟨PE.imp (pe_and px.1 py.1) iv, fun ht => ?_⟩
        simp only [tst, Bool.and_eq_true] at ht
        exact PT.imp (pw_and (px.2 ht.1) (pw_of (py.2 ht.2))).pt it
    · cases h
  | .or x y, Γ, X, Z, e, h, a => by
    simp only [chk] at h
    split at h
    · rename_i u v r p
      simp only [Bool.and_eq_true] at h
      obtain ⟨h1, h2⟩ := h
      have px := pe_ok C x h1 a
      have iv : ∀ σ H Q, tE P G Z (.or x y) σ H Q → tOrV (tE P G Z x) (tE P G Z y) σ H Q := fun σ H Q ⟨M, S, ρ, em, rn, q⟩ => by
        simp only [ev] at q
        refine tE.step em rn q fun v H1 M1 S1 d e1 em1 rn1 r1 k => ?_
        split at k
        · cases r1
          exact ⟨true, rfl, by (try dsimp only); rw [if_pos rfl]; exact k.ok em1 (.bl true)⟩
        · cases r1
          exact ⟨false, rfl, by (try dsimp only); rw [if_neg (by decide)]; exact ⟨M1, S1, ρ, em1, rn1, k⟩⟩
        · exact k.elim
      have it : ∀ σ H Q, tT P G Z (.or x y) σ H Q → tOr (tT P G Z x) (tT P G Z y) σ H Q := fun σ H Q ⟨M, S, ρ, em, rn, q⟩ => by
        simp only [ev] at q
        refine tE.step em rn q fun v H1 M1 S1 d e1 em1 rn1 r1 k => ?_
        split at k
        · cases r1
          obtain ⟨b, eb, qb⟩ := k.ok em1 (.bl true)
          cases eb
          exact ⟨true, rfl, by (try dsimp only); rw [if_pos rfl]; exact qb⟩
        · cases r1
          exact ⟨false, rfl, by (try dsimp only); rw [if_neg (by decide)]; exact ⟨M1, S1, ρ, em1, rn1, k⟩⟩
        · exact k.elim
      cases r with
      | nil =>
        have py := pe_ok C y h2 a
        refine ⟨PE.imp (pe_or px.1 (pe_one py.1)) iv, fun ht => ?_⟩
        simp only [tst, Bool.and_eq_true] at ht
        exact PT.imp (pw_or (px.2 ht.1) (pw_or1 (py.2 ht.2))).pt it
      | cons z r =>
        have py := pe_ok C y h2 a
        refine ⟨PE.imp (pe_or px.1 py.1) iv, fun ht => ?_⟩
        simp only [tst, Bool.and_eq_true] at ht
        exact PT.imp (pw_or (px.2 ht.1) (pw_of (py.2 ht.2))).pt it
    · cases h
  | .not x, Γ, X, Z, e, h, a => by
    simp only [chk] at h
    split at h
    · have px := pe_ok C x h a
      refine ⟨PE.imp (pe_not px.1) fun σ H Q ⟨M, S, ρ, em, rn, q⟩ => ?_, fun ht => PT.imp (pt_not (px.2 (by simpa [tst] using ht))) fun σ H Q ⟨M, S, ρ, em, rn, q⟩ => ?_⟩
      · simp only [ev] at q
        refine tE.step em rn q fun v H1 M1 S1 d e1 em1 rn1 r1 k => ?_
        split at k
        · cases r1
          exact ⟨_, rfl, k.ok em1 (.bl _)⟩
        · exact k.elim
      · simp only [ev] at q
        refine tE.step em rn q fun v H1 M1 S1 d e1 em1 rn1 r1 k => ?_
        split at k
        · cases r1
          obtain ⟨b, eb, qb⟩ := k.ok em1 (.bl _)
          cases eb
          exact ⟨_, rfl, qb⟩
        · exact k.elim
    · cases h
  | .ite c x y, Γ, X, Z, e, h, a => by
    simp only [chk] at h
    split at h
    · simp only [Bool.and_eq_true] at h
      obtain ⟨⟨⟨h1, h2⟩, h3⟩, h4⟩ := h
      refine ⟨PE.imp (pe_ifExp ((pe_ok C c h2 a).2 h1) (pe_ok C x h3 a).1 (pe_ok C y h4 a).1) fun σ H Q ⟨M, S, ρ, em, rn, q⟩ => ?_, fun ht => by simp [tst] at ht⟩
      simp only [ev] at q
      refine tE.step em rn q fun v H1 M1 S1 d e1 em1 rn1 r1 k => ?_
      split at k
      · cases r1
        exact ⟨true, rfl, by (try dsimp only); rw [if_pos rfl]; exact ⟨M1, S1, ρ, em1, rn1, k⟩⟩
      · cases r1
        exact ⟨false, rfl, by (try dsimp only); rw [if_neg (by decide)]; exact ⟨M1, S1, ρ, em1, rn1, k⟩⟩
      · exact k.elim
    · cases h
  | .ix x y, Γ, X, Z, e, h, a => by
    simp only [chk] at h
    split at h
    · simp only [Bool.and_eq_true, Bool.not_eq_true'] at h
      refine both ?_ (by intro _; rfl)
      exact PE.imp (pe_ix (o_ix (P := P) (Z := Z) a.F) (pe_ok C x h.1.2 a).1 (pe_ok C y h.2 a).1 (plainIx_ok h.1.1)) fun σ H Q ⟨M, S, ρ, em, rn, q⟩ => by
        simp only [ev] at q
        exact tE.step em rn q fun v H1 M1 S1 d e1 em1 rn1 r1 k => tE.step em1 rn1 k fun u H2 M2 S2 w e2 em2 rn2 r2 k2 => ⟨M2, S2, d, w, em2, r1.mono e2, r2, k2⟩
    · cases h
  | .sl x lo hi, Γ, X, Z, e, h, a => by
    simp only [chk] at h
    split at h
    · simp only [Bool.and_eq_true] at h
      refine both ?_ (by intro _; rfl)
      exact PE.imp (pe_slice (o_sl (P := P) (Z := Z)) (pe_ok C x h.1.1 a).1 (po_ok C lo h.1.2 a) (po_ok C hi h.2 a)) fun σ H Q ⟨M, S, ρ, em, rn, q⟩ => by
        simp only [ev] at q
        exact tE.step em rn q fun v H1 M1 S1 d e1 em1 rn1 r1 k => tEo.step em1 rn1 k fun u H2 M2 S2 e2 em2 rn2 k2 => tEo.step em2 rn2 k2 fun w H3 M3 S3 e3 em3 rn3 k3 => ⟨M3, S3, d, em3, (r1.mono e2).mono e3, k3⟩
    · cases h
  | .rev x, Γ, X, Z, e, h, a => by
    simp only [chk] at h
    split at h
    · refine both ?_ (by intro _; rfl)
      exact PE.imp (pe_rev (pe_ok C x h a).1) fun σ H Q ⟨M, S, ρ, em, rn, q⟩ => by
        simp only [ev] at q
        refine tE.step em rn q fun v H1 M1 S1 d e1 em1 rn1 r1 k => ?_
        obtain ⟨w, ho, hk⟩ := k.oret
        unfold revD at ho
        split at ho
        · cases ho
          obtain ⟨l, vs, rfl, h1, n1, q1⟩ := r1.tupI
          exact ⟨l, vs, rfl, .inr ⟨h1.sq, fun p o hp ho => hk.tuple Ext.refl em1 q1.reverse hp ho⟩⟩
        · cases e : lstD S1 d with
          | none => rw [e] at ho; cases ho
          | some xs =>
            rw [e] at ho
            cases ho
            obtain ⟨l, vs, rfl, h1, q1⟩ := em1.lst e r1
            refine ⟨l, vs, rfl, .inl ⟨SqL.of h1, fun p hp => ?_⟩⟩
            have x := Ext.alloc (M := M1) (o := .lst vs.reverse) hp
            exact hk.okE x (em1.alloc hp) (.lst upd_same (em1.no hp) (q1.reverse.mono x))
    · cases h
  | .bi f es, Γ, X, Z, e, h, a => by
    simp only [chk] at h
    split at h
    · rename_i x _ y ys _
      simp only [Bool.and_eq_true] at h
      obtain ⟨⟨⟨⟨h1, hq⟩, h2⟩, h3⟩, h4⟩ := h
      obtain ⟨g1, g2, g3⟩ := glB_ok h2
      obtain ⟨hn, hr⟩ := bi_rule (P := P) (Z := Z) a.F f x h1 hq
      have ha := pa_ok C es h3 h4 a
      have hs := h3
      rw [List.all_cons, Bool.and_eq_true] at hs
      have hmg : X.mg x = none := by rw [a.F.mg]; exact C.blt x g2
      have i : ∀ σ H Q, tE P G Z (.bi f es) σ H Q → tCB (rs P Z (biD f)) (tEs P G Z es) σ H Q := fun σ H Q ⟨M, S, ρ, em, rn, q⟩ => by
        simp only [ev] at q
        exact tEs.step em rn q fun vs H1 M1 S1 ds e1 em1 rn1 r1 k => ⟨M1, S1, ds, em1, r1, k⟩
      rcases hr with ⟨id, hb, hc⟩ | ⟨T, hb, hc⟩
      · refine both ?_ (by intro _; rfl)
        exact PE.imp (pe_callB hc (a.gl g1) hmg hb ha hn (dbg_ok g3).1 (starEach_cons (by simpa using hs.1)) (star_none hs.2)) i
      · refine both ?_ (by intro _; rfl)
        exact PE.imp (pe_callTy hc (a.gl g1) hmg hb ha hn (dbg_ok g3).1 (starEach_cons (by simpa using hs.1)) (star_none hs.2)) i
    · cases h
  | .isi m t, Γ, X, Z, e, h, a => by
    simp only [chk] at h
    split at h
    · rename_i x _ y z _ _
      cases t with
      | exc c =>
        simp only [Bool.and_eq_true, decide_eq_true_eq, Bool.not_eq_true'] at h
        obtain ⟨⟨⟨⟨⟨h1, h2⟩, h3⟩, h4⟩, h5⟩, h6⟩ := h
        subst h1 h3
        obtain ⟨g1, g2, g3⟩ := glB_ok h2
        have key : ∃ (cv : V) (u : Value), (∀ p, PE X (.Name z p) (tC cv)) ∧ (∀ w, RelV cv w → w = u) ∧ ∀ c ∈ P.xr, PySem.W.kitOne X.K (.ref (P.CA c)) u = some (xsub c z) := by
          rw [Bool.or_eq_true, Bool.or_eq_true, Bool.or_eq_true] at h4
          have own : ∀ r, glB gt Γ.sc z (.exc r) = true → ∃ (cv : V) (u : Value), (∀ p, PE X (.Name z p) (tC cv)) ∧ (∀ w, RelV cv w → w = u) ∧ ∀ c ∈ P.xr, PySem.W.kitOne X.K (.ref (P.CA c)) u = some (xsub c z) := fun r h => by
            obtain ⟨k1, k2, k3⟩ := glB_ok h
            obtain ⟨q1, q2, _⟩ := C.exg.mg z r k2
            exact ⟨.ref (P.CA z), .ref (P.CA z), fun p => pe_glob (a.gl k1) (by rw [a.F.mg]; exact q1) rfl (dbg_ok k3).1, fun w h => h, fun c hr => by rw [a.F.K]; exact C.exg.kit c hr z q2⟩
          rcases h4 with ((h4 | h4) | h4) | h4
          · exact own _ h4
          · exact own _ h4
          · obtain ⟨k1, k2, k3⟩ := glB_ok h4
            obtain ⟨q1, q2, _⟩ := C.exg.mga z k2
            exact ⟨.ref (P.CA z), .ref (P.CA z), fun p => pe_glob (a.gl k1) (by rw [a.F.mg]; exact q1) rfl (dbg_ok k3).1, fun w h => h, fun c hr => by rw [a.F.K]; exact C.exg.kit c hr z q2⟩
          · rw [Bool.and_eq_true, decide_eq_true_eq] at h4
            obtain ⟨ez, h4⟩ := h4
            subst ez
            obtain ⟨k1, k2, k3⟩ := glB_ok h4
            refine ⟨.ty "ValueError", .type "ValueError", fun p => pe_bltn (a.gl k1) (by rw [a.F.mg]; exact C.blt _ k2) (by decide +kernel) rfl (by decide) (dbg_ok k3).1, fun w h => h, fun c hr => ?_⟩
            rw [a.F.K, C.exg.val c hr]
            unfold xsub
            simp
        obtain ⟨cv, u, pz, huu, kt⟩ := key
        have hpa := fun pp => pa_cons (pe_ok C m h6 a (Z := Z)).1 (pa_cons (pz pp) pa_nil) (starEach_cons h5)
        have EC : ∀ c ∈ P.xr, ExcC X.K (P.CA c) := fun c hr => by rw [a.F.K]; exact C.exg.ok c hr
        refine both ?_ (by intro _; rfl)
        cases hh : Γ.hot with
        | false =>
          exact PE.imp (pe_callB call_isM (a.gl g1) (by rw [a.F.mg]; exact C.blt _ g2) (by decide +kernel) (hpa _) (by decide) (dbg_ok g3).1 (starEach_cons h5) rfl) fun σ H Q ⟨M, S, ρ, em, rn, q⟩ => by
            simp only [ev] at q
            refine tE.step em rn q fun v H1 M1 S1 d e1 em1 rn1 r1 k => ?_
            obtain ⟨w, hw, k⟩ := k.oret
            obtain ⟨c', b, rfl, rfl, hb⟩ := exc_cases em1 r1 hw
            rcases hb with ⟨dd, hb, _⟩ | ⟨hr, m, hm⟩
            · rw [a.F.hx0 hh] at hb
              cases hb
            · exact ⟨b, P.CA c', m, hm, EC c' hr, cv, u, _, rfl, huu, kt c' hr, k.ok em1 (.bl _)⟩
        | true =>
          obtain ⟨p, c, hx, hp, hc, hda, hf, hr0⟩ := (a.hx hh).ex
          cases hd : p.2.dict with
          | none =>
            exact PE.imp (pe_callB (CallR.or (call_isP (EC c hr0) hp hc hd hf) call_isM) (a.gl g1) (by rw [a.F.mg]; exact C.blt _ g2) (by decide +kernel) (hpa _) (by decide) (dbg_ok g3).1 (starEach_cons h5) rfl) fun σ H Q ⟨M, S, ρ, em, rn, q⟩ => by
              simp only [ev] at q
              refine tE.step em rn q fun v H1 M1 S1 d e1 em1 rn1 r1 k => ?_
              obtain ⟨w, hw, k⟩ := k.oret
              obtain ⟨c', b, rfl, rfl, hb⟩ := exc_cases em1 r1 hw
              rcases hb with ⟨dd, hb, _⟩ | ⟨hr, m, hm⟩
              · rw [hx] at hb
                cases hb
                exact .inl ⟨cv, u, _, rfl, huu, kt c hr0, k.ok em1 (.bl _)⟩
              · exact .inr ⟨b, P.CA c', m, hm, EC c' hr, cv, u, _, rfl, huu, kt c' hr, k.ok em1 (.bl _)⟩
          | some dd =>
            exact PE.imp (pe_callB (CallR.or (call_isD (EC c hr0) hp hc hd hf) call_isM) (a.gl g1) (by rw [a.F.mg]; exact C.blt _ g2) (by decide +kernel) (hpa _) (by decide) (dbg_ok g3).1 (starEach_cons h5) rfl) fun σ H Q ⟨M, S, ρ, em, rn, q⟩ => by
              simp only [ev] at q
              refine tE.step em rn q fun v H1 M1 S1 d e1 em1 rn1 r1 k => ?_
              obtain ⟨w, hw, k⟩ := k.oret
              obtain ⟨c', b, rfl, rfl, hb⟩ := exc_cases em1 r1 hw
              rcases hb with ⟨dd', hb, hxd⟩ | ⟨hr, m, hm⟩
              · rw [hx, hd] at hb
                cases hb
                obtain ⟨fs, hfs⟩ := hxd dd rfl
                exact .inl ⟨⟨fs, hfs⟩, cv, u, _, rfl, huu, kt c hr0, k.ok em1 (.bl _)⟩
              · exact .inr ⟨b, P.CA c', m, hm, EC c' hr, cv, u, _, rfl, huu, kt c' hr, k.ok em1 (.bl _)⟩
      | cls c =>
        simp only [Bool.and_eq_true, decide_eq_true_eq, Bool.not_eq_true'] at h
        obtain ⟨⟨⟨⟨⟨⟨h1, h2⟩, h3⟩, h4⟩, h5⟩, h6⟩, h7⟩ := h
        subst h1 h3
        obtain ⟨g1, g2, g3⟩ := glB_ok h2
        obtain ⟨k1, k3⟩ := glI_ok h4
        obtain ⟨fs, ms, hc⟩ := isCls_ok h5
        have CC := C.cls _ _ _ hc
        have pz : ∀ p, PE X (.Name z p) (tC (.ref (P.CA z))) := fun p => pe_glob (a.gl k1) (by rw [a.F.mg]; exact CC.mg) rfl (dbg_ok k3).1
        refine both ?_ (by intro _; rfl)
        exact PE.imp (pe_callB call_isi (a.gl g1) (by rw [a.F.mg]; exact C.blt _ g2) (by decide +kernel) (pa_cons (pe_ok C m h7 a).1 (pa_cons (pz _) pa_nil) (starEach_cons h6)) (by decide) (dbg_ok g3).1 (starEach_cons h6) rfl) fun σ H Q ⟨M, S, ρ, em, rn, q⟩ => by
          simp only [ev] at q
          refine tE.step em rn q fun v H1 M1 S1 d e1 em1 rn1 r1 k => ?_
          obtain ⟨w, hw, k⟩ := k.oret
          cases hb : isiD S1 d (.cls z) with
          | none => rw [hb] at hw; cases hw
          | some b =>
            rw [hb] at hw
            cases hw
            obtain ⟨T, ty, kt⟩ := isi_cls (K := X.K) em1 r1 hb (by rw [a.F.K]; exact C.isg.ty _ _ _ hc) (by rw [a.F.K]; exact fun l dx vfs => C.isg.own _ _ _ hc H1 l dx vfs) (by rw [a.F.K]; exact C.isg.two _ _ _ hc)
            exact ⟨v, .ref (P.CA z), T, .ref (P.CA z), b, rfl, .own _, ty, kt, k.ok em1 (.bl b)⟩
      | _ =>
        simp only [Bool.and_eq_true, decide_eq_true_eq, Bool.not_eq_true'] at h
        obtain ⟨⟨⟨⟨⟨⟨h1, h2⟩, h3⟩, h4⟩, h5⟩, h6⟩, h7⟩ := h
        subst h1 h3
        exact isi_blt C a h2 h4 h5 h7 (pe_ok C m h6 a).1
    · cases h
  | .fld o c f, Γ, X, Z, e, h, a => by
    simp only [chk] at h
    split at h
    · simp only [Bool.and_eq_true, decide_eq_true_eq] at h
      obtain ⟨⟨⟨h1, h2⟩, h3⟩, h4⟩ := h
      subst h1
      obtain ⟨fs, ms, hc, hf⟩ := clsF_ok h3
      have CC := C.cls _ _ _ hc
      refine both ?_ (by intro _; rfl)
      exact PE.imp (pe_fld (pe_ok C o h4 a).1 (base_ok h2)) fun σ H Q ⟨M, S, ρ, em, rn, q⟩ => by
        simp only [ev] at q
        refine tE.step em rn q fun v H1 M1 S1 d e1 em1 rn1 r1 k => ?_
        obtain ⟨w, hw, k2⟩ := k.oret
        unfold fldD at hw
        cases ea : asRef d with
        | none => rw [ea] at hw; cases hw
        | some i =>
          rw [ea] at hw
          have ed := asRef_some ea
          subst ed
          cases hi : insD S1 i with
          | none => simp [hi] at hw
          | some p =>
            obtain ⟨c', fs'⟩ := p
            simp only [Option.bind_some, hi] at hw
            split at hw
            · rename_i hcc
              have hcc' : c' = c := hcc
              subst hcc'
              obtain ⟨l, dx, vfs, rfl, g0, g1, g2, g3, g4⟩ := em1.ins hi r1
              obtain ⟨u, u1, u2⟩ := g4.lookup.1 w hw
              exact ⟨l, _, dx, vfs, u, rfl, g1, by rw [a.F.K]; exact CC.cl, by rw [a.F.K]; exact CC.noat _ hf, u1, k2.ok em1 u2⟩
            · cases hw
    · cases h
  | .meth o c m es, Γ, X, Z, e, h, a => by
    simp only [chk] at h
    have hh := (cold_if h).1
    replace h := (cold_if h).2
    split at h
    · rename_i y nm apos ys pos
      simp only [Bool.and_eq_true, decide_eq_true_eq] at h
      obtain ⟨⟨⟨⟨⟨⟨h1, h2⟩, h3⟩, h4⟩, h5⟩, h6⟩, h7⟩ := h
      subst h1
      split at h7
      · rename_i ds hm
        obtain ⟨fs, ms, hc, hms⟩ := clsM_ok hm
        have CC := C.cls _ _ _ hc
        obtain ⟨fa, fd, ps, m1, m2, m3⟩ := CC.meth _ _ hms
        obtain ⟨js, j, hj, ej, pa, hnil⟩ := pa_okD C es h4 h7 a
        subst ej
        obtain ⟨us, vus, bi⟩ := m3 j hj
        have FX : FnG X.prog X.w X.K X.mg X.base (4 * n + 1) fa fd ps (spG P (G (c ++ "." ++ nm))) := by rw [a.F.prog, a.F.w, a.F.K, a.F.mg, a.F.base]; exact m2
        refine both ?_ (by intro _; rfl)
        exact PE.imp (pe_methG (pe_ok C o h6 a).1 (by rw [a.F.K]; exact CC.cl) (by rw [a.F.K]; exact m1) FX ((a.room hh).mono (by omega)) a.F.guards (by rw [a.F.K]; exact bi) vus a.passes pa hnil h4 (base_ok h2) h3 h5) fun σ H Q ⟨M, S, ρ, em, rn, q⟩ => by
          simp only [ev] at q
          refine tE.step em rn q fun v H1 M1 S1 d e1 em1 rn1 r1 k => ?_
          obtain ⟨i, fs', ed, hi, hl, k⟩ := meth_case k
          subst ed
          obtain ⟨l, dx, vfs, rfl, g0, g1, g2, g3, g4⟩ := em1.ins hi r1
          refine ⟨l, dx, vfs, rfl, g1, g4.lookup.2 hl, ?_⟩
          exact tEs.step em1 rn1 k fun vs H2 M2 S2 ds2 e2 em2 rn2 rv k2 ws hw => by
            show spG P _ (V.ref l :: (ws ++ _)) H2 Q _
            rw [← hw]
            exact ⟨M2, S2, rf i :: ds2, em2, .cons (r1.mono e2) rv, k2.zimp fun x S M' H' em' z c d hx => ⟨x, S, M', em', hx, z⟩⟩
      · cases h7
    · cases h
  | .new c es, Γ, X, Z, e, h, a => by
    simp only [chk] at h
    have hh := (cold_if h).1
    replace h := (cold_if h).2
    split at h
    · rename_i x _ ys _
      simp only [Bool.and_eq_true, decide_eq_true_eq] at h
      obtain ⟨⟨⟨⟨h1, h2⟩, h3⟩, h4⟩, h5⟩ := h
      subst h1
      obtain ⟨g1, g3⟩ := glI_ok h2
      obtain ⟨fs, ms, hc⟩ := isCls_ok h3
      have CC := C.cls _ _ _ hc
      obtain ⟨fa, fd, ps, m1, m2, m3⟩ := CC.new_
      have FX : FnG X.prog X.w X.K X.mg X.base (4 * n + 1) fa fd ps (spG P (G (c ++ ".__init__"))) := by rw [a.F.prog, a.F.w, a.F.K, a.F.mg, a.F.base]; exact m3
      have ha := pa_ok C es h4 h5 a
      refine both ?_ (by intro _; rfl)
      exact PE.imp (pe_makeG (by rw [a.F.K]; exact m1) FX (a.room hh) a.F.guards (a.gl g1) (by rw [a.F.mg]; exact CC.mg) (by rw [a.F.K]; exact m2) a.passes ha (fun hy σ H Q ⟨M, S, ρ, em, rn, q⟩ => by
          subst hy
          cases es with
          | nil => exact q.ok em .nil
          | cons _ _ => cases h5) h4 (dbg_ok g3).1) fun σ H Q ⟨M, S, ρ, em, rn, q⟩ => by
        simp only [ev] at q
        exact tEs.step em rn q fun vs H1 M1 S1 ds e1 em1 rn1 r1 k x dx hx hdx hne => new_case em1 r1 k hx hdx hne
    · cases h
  | .call f es, Γ, X, Z, e, h, a => by
    simp only [chk] at h
    have hh := (cold_if h).1
    replace h := (cold_if h).2
    split at h
    · rename_i x _ ys _
      simp only [Bool.and_eq_true, decide_eq_true_eq] at h
      obtain ⟨⟨h1, h3⟩, h⟩ := h
      subst h1
      split at h
      · rename_i ds hds
        rw [Bool.and_eq_true] at h
        obtain ⟨h2, h4⟩ := h
        obtain ⟨g1, g2, g3⟩ := glB_ok h2
        obtain ⟨fa, fd, ps, m1, m2, m3, m4⟩ := C.fnd f ds g2
        have FX : FnG X.prog X.w X.K X.mg X.base (4 * n + 1) fa fd ps (spG P (G f)) := by rw [a.F.prog, a.F.w, a.F.K, a.F.mg, a.F.base]; exact m3
        obtain ⟨js, j, hj, ej, pa, hnil⟩ := pa_okD C es h3 h4 a
        subst ej
        obtain ⟨us, vus, bi⟩ := m4 j hj
        refine both ?_ (by intro _; rfl)
        exact PE.imp (pe_callGD FX ((a.room hh).mono (by omega)) a.F.guards (a.gl g1) (by rw [a.F.mg]; exact m1) (by rw [a.F.K]; exact m2) (by rw [a.F.K]; exact bi) vus a.passes pa hnil h3 (dbg_ok g3).1) fun σ H Q ⟨M, S, ρ, em, rn, q⟩ => by
          simp only [ev] at q
          exact tEs.step em rn q fun vs H1 M1 S1 ds1 e1 em1 rn1 r1 k ws hw => by
            show spG P _ (ws ++ _) H1 Q _
            rw [← hw]
            exact ⟨M1, S1, ds1, em1, r1, k.zimp fun x S M' H' em' z c d hx => ⟨x, S, M', em', hx, z⟩⟩
      · rw [Bool.and_eq_true] at h
        obtain ⟨h2, h4⟩ := h
        obtain ⟨g1, g2, g3⟩ := glB_ok h2
        obtain ⟨fa, fd, ps, m1, m2, m3, m4⟩ := C.fn f g2
        have FX : FnG X.prog X.w X.K X.mg X.base (4 * n + 1) fa fd ps (spG P (G f)) := by rw [a.F.prog, a.F.w, a.F.K, a.F.mg, a.F.base]; exact m4
        have ha := pa_ok C es h3 h4 a
        refine both ?_ (by intro _; rfl)
        exact PE.imp (pe_callG FX ((a.room hh).mono (by omega)) a.F.guards (a.gl g1) (by rw [a.F.mg]; exact m1) (by rw [a.F.K]; exact m2) (by rw [a.F.K]; exact m3) a.passes ha (fun hy σ H Q ⟨M, S, ρ, em, rn, q⟩ => by
            subst hy
            cases es with
            | nil => exact q.ok em .nil
            | cons _ _ => cases h4) h3 (dbg_ok g3).1) fun σ H Q ⟨M, S, ρ, em, rn, q⟩ => by
          simp only [ev] at q
          refine tEs.step em rn q fun vs H1 M1 S1 ds e1 em1 rn1 r1 k => ⟨M1, S1, ds, em1, r1, k.zimp fun x S M' H' em' z c d hx => ⟨x, S, M', em', hx, z⟩⟩
    · cases h
  | .bm o m es, Γ, X, Z, e, h, a => by
    simp only [chk] at h
    split at h
    · rename_i y nm apos ys pos
      simp only [Bool.and_eq_true, decide_eq_true_eq] at h
      obtain ⟨⟨⟨⟨⟨⟨h1, h2⟩, h3⟩, h4⟩, h5⟩, h6⟩, h7⟩ := h
      subst h1
      refine both ?_ (by intro _; rfl)
      exact pe_bmM (P := P) (G := G) (Z := Z) a.F (m := m) (pe_ok C o h6 a).1 (pa_ok C es h4 h7 a) (fun hy => by
        subst hy
        cases es with
        | nil => rfl
        | cons _ _ => cases h7) h2 h3 h4 h5
    · cases h
  | .comp r elt own tg it cond, Γ, X, Z, e, h, a => by
    simp only [chk] at h
    have hh := (cold_if h).1
    replace h := (cold_if h).2
    split at h
    · rename_i x t y ifs za scope pos
      simp only [Bool.and_eq_true, decide_eq_true_eq, Bool.not_eq_true'] at h
      obtain ⟨⟨⟨⟨⟨⟨⟨h1, h2⟩, h3⟩, h4⟩, h5⟩, h6⟩, h7⟩, h8⟩ := h
      subst h1
      have ok : BlkOk X.N X.env.scope scope (ownOf Γ.N own) := by rw [a.F.N, a.F.sc]; exact blkOk_by h2
      have ho : (ownOf Γ.N own).map (·.2) = own := by
        unfold ownOf
        rw [List.map_map]
        exact List.map_id' own
      have hi := pi_ok C it h5 a
      have hg : ∀ (s : Shared) (H : Hp) (C' : Addr) (cl : List (Str × Addr)) (fp : List Addr), PG (X.blk s H scope (compEnvC scope cl C' X.env) fp) t (tG tg) := fun s H C' cl fp => pg_ok (a.blk hh ok.kind s H C' cl fp).F rfl tg h6
      have ht : ∀ (s : Shared) (H : Hp) (C' : Addr) (cl : List (Str × Addr)) (fp : List Addr), PTs (X.blk s H scope (compEnvC scope cl C' X.env) fp) ifs (tC' P G cond) := fun s H C' cl fp => pc_ok C cond h7 (a.blk hh ok.kind s H C' cl fp)
      have he : ∀ (s : Shared) (H : Hp) (C' : Addr) (cl : List (Str × Addr)) (fp : List Addr), PE (X.blk s H scope (compEnvC scope cl C' X.env) fp) x (tE P G ZF elt) := fun s H C' cl fp => (pe_ok C elt h8 (a.blk hh ok.kind s H C' cl fp)).1
      refine both ?_ (by intro _; rfl)
      exact PE.imp (pe_lc (pos := pos) (a.F.calm hh) (by rw [a.F.N]; exact a.F.nd) hi ok hg ht he (noSet h4))
        (comp_ok (pos := pos) a.F ho (fun i hi => by
          rw [List.all_eq_true] at h3
          simpa using h3 i hi) hi ok hg ht he)
    · cases h
  | .dct kvs, Γ, X, Z, e, h, a => by
    simp only [chk] at h
    split at h
    · rename_i ks vs pos
      refine both ?_ (by intro _; rfl)
      exact dct_ok h
    · cases h
  | .xat m, Γ, X, Z, e, h, a => by
    simp only [chk] at h
    split at h
    · simp only [Bool.and_eq_true, decide_eq_true_eq] at h
      obtain ⟨⟨h1, h2⟩, h3⟩ := h
      subst h1
      refine both ?_ (by intro _; rfl)
      have mdd : ∀ {M1 : Ma} {H1 : Hp} {S1 : Sto} {d : D} {v : V} {w : D}, P.Emb M1 H1 S1 → Rv M1 H1 d v → (asAt d).map (fun p => PyData.int p.2) = some w → ∃ c b i, v = .ref b ∧ w = .int i ∧ ((∃ dd, P.hx = some (b, c, some dd) ∧ H1 dd = some (.xd [(("at" : Str), V.int i)])) ∨ (∃ D dx, Made H1 b D (some (dx, i)) ∧ XfC X.K D ∧ PySem.W.findIn X.K (.ref D) "at" = some none)) := fun {M1 H1 S1 d v w} em1 r1 hw => by
        cases hat : asAt d with
        | none => rw [hat] at hw; cases hw
        | some ci =>
          obtain ⟨c', i⟩ := ci
          have ed := asAt_some hat
          subst ed
          rw [hat] at hw
          cases hw
          obtain ⟨b, rfl, hb⟩ := r1.exaI
          refine ⟨c', b, i, rfl, rfl, ?_⟩
          rcases hb with ⟨dd, hb, hxd⟩ | ⟨D, dx, hk, ha, hd⟩
          · rw [em1.kf] at hb
            exact .inl ⟨dd, hb, hxd⟩
          · rw [em1.kf] at hk
            obtain ⟨hr, rfl, hx⟩ := Pg.cx_some hk
            have hca := C.exg.at_ c' (of_decide_eq_true hx.symm)
            exact .inr ⟨P.CA c', dx, ⟨ha, hd⟩, by rw [a.F.K]; exact hca.1, by rw [a.F.K]; exact hca.2⟩
      cases hh : Γ.hot with
      | false =>
        exact PE.imp (pe_xam (pe_ok C m h3 a).1 (base_ok h2)) fun σ H Q ⟨M, S, ρ, em, rn, q⟩ => by
          simp only [ev] at q
          refine tE.step em rn q fun v H1 M1 S1 d e1 em1 rn1 r1 k => ?_
          obtain ⟨w, hw, k⟩ := k.oret
          obtain ⟨c', b, i, rfl, rfl, hb⟩ := mdd em1 r1 hw
          rcases hb with ⟨dd, hb, _⟩ | ⟨D, dx, hm, hf, hn⟩
          · rw [a.F.hx0 hh] at hb
            cases hb
          · exact ⟨b, D, dx, i, rfl, hm, hf, hn, k.ok em1 (.int _)⟩
      | true =>
        obtain ⟨p, c, hx, hp, hc, hda, hf, hr⟩ := (a.hx hh).ex
        cases hd : p.2.dict with
        | none =>
          exact PE.imp (pe_xam (pe_ok C m h3 a).1 (base_ok h2)) fun σ H Q ⟨M, S, ρ, em, rn, q⟩ => by
            simp only [ev] at q
            refine tE.step em rn q fun v H1 M1 S1 d e1 em1 rn1 r1 k => ?_
            obtain ⟨w, hw, k⟩ := k.oret
            obtain ⟨c', b, i, rfl, rfl, hb⟩ := mdd em1 r1 hw
            rcases hb with ⟨dd, hb, _⟩ | ⟨D, dx, hm, hf', hn⟩
            · rw [hx, hd] at hb
              cases hb
            · exact ⟨b, D, dx, i, rfl, hm, hf', hn, k.ok em1 (.int _)⟩
        | some dd =>
          have hca := C.exg.at_ c (hda (by rw [hd]; exact fun z => nomatch z))
          exact PE.imp (pe_xatB (by rw [a.F.K]; exact hca.1) (by rw [a.F.K]; exact hca.2) hp hc hd hf (pe_ok C m h3 a).1 (base_ok h2)) fun σ H Q ⟨M, S, ρ, em, rn, q⟩ => by
            simp only [ev] at q
            refine tE.step em rn q fun v H1 M1 S1 d e1 em1 rn1 r1 k => ?_
            obtain ⟨w, hw, k⟩ := k.oret
            obtain ⟨c', b, i, rfl, rfl, hb⟩ := mdd em1 r1 hw
            rcases hb with ⟨dd', hb, hxd⟩ | ⟨D, dx, hm, hf', hn⟩
            · rw [hx, hd] at hb
              cases hb
              exact .inl ⟨rfl, _, _, hxd, rfl, k.ok em1 (.int _)⟩
            · exact .inr ⟨b, D, dx, i, rfl, hm, hf', hn, k.ok em1 (.int _)⟩
    · cases h
  | .calA f es, Γ, X, Z, e, h, a => by
    simp only [chk] at h
    have hh := (cold_if h).1
    replace h := (cold_if h).2
    split at h
    · rename_i x _ ys _
      simp only [Bool.and_eq_true, decide_eq_true_eq] at h
      obtain ⟨⟨⟨h1, h3⟩, h2⟩, h4⟩ := h
      subst h1
      obtain ⟨g1, g2, g3⟩ := glB_ok h2
      obtain ⟨fa, fd, ps, m1, m2, m3, m4⟩ := C.fn f g2
      have FX : FnG X.prog X.w X.K X.mg X.base (4 * n + 1) fa fd ps (spG P (G f)) := by rw [a.F.prog, a.F.w, a.F.K, a.F.mg, a.F.base]; exact m4
      have ha := pa_ok C es h3 h4 a
      refine both ?_ (by intro _; rfl)
      exact PE.imp (pe_callG FX ((a.room hh).mono (by omega)) a.F.guards (a.gl g1) (by rw [a.F.mg]; exact m1) (by rw [a.F.K]; exact m2) (by rw [a.F.K]; exact m3) a.passes ha (fun hy σ H Q ⟨M, S, ρ, em, rn, q⟩ => by
          subst hy
          cases es with
          | nil => exact q.ok em .nil
          | cons _ _ => cases h4) h3 (dbg_ok g3).1) fun σ H Q ⟨M, S, ρ, em, rn, q⟩ => by
        simp only [ev] at q
        refine tEs.step em rn q fun vs H1 M1 S1 ds e1 em1 rn1 r1 k => ?_
        split at k
        · rename_i hd
          refine ⟨⟨[], M1.n ++ M1.f, M1.k⟩, [], ds, em1.alone, Rvs.sub0 (fun b hb => Ma.alone_mem hb) rfl r1 hd, ?_⟩
          revert k
          cases G f ds [] with
          | ok d S' =>
            intro k
            dsimp only at k
            split at k
            · rename_i hd2
              intro M' H' v e' em' rv'
              obtain ⟨M2, x1, x2, x3⟩ := alone_ok em1 e' em' rv' hd2
              exact k M2 H' v x1 x2 x3
            · exact k.elim
          | exc y S' => exact fun k => k.elim
          | bad => exact fun k => k
        · exact k.elim
    · cases h
  | .mkx c m, Γ, X, Z, e, h, a => by
    simp only [chk] at h
    have hh := (cold_if h).1
    replace h := (cold_if h).2
    split at h
    · rename_i x _ y _
      simp only [Bool.and_eq_true, decide_eq_true_eq, Bool.not_eq_true'] at h
      obtain ⟨⟨⟨h1, h2⟩, h3⟩, h4⟩ := h
      subst h1
      obtain ⟨g1, g2, g3⟩ := glB_ok h2
      obtain ⟨k1, k2, k3, k4⟩ := C.exg.raise_ _ g2
      obtain ⟨q1, q2, q3⟩ := C.exg.mg _ _ g2
      refine both ?_ (by intro _; rfl)
      exact PE.imp (pe_mkx PySem.F.excBase_ValueError (by rw [a.F.K]; exact k1) (by rw [a.F.mg]; exact q1) (by rw [a.F.K]; exact k2) (a.gl g1) (pe_ok C m h4 a).1 h3 (dbg_ok g3).1) fun σ H Q ⟨M, S, ρ, em, rn, q⟩ => by
        simp only [ev] at q
        refine tE.step em rn q fun v H1 M1 S1 d e1 em1 rn1 r1 k b hn => ?_
        exact k M1 _ _ (Ext.alloc hn) (em1.alloc hn) (.exnH (by rw [em1.kf]; exact Pg.cx_mem (q3 rfl)) upd_same (em1.no hn))
    · cases h
  | .mkxA c m, Γ, X, Z, e, h, a => by
    simp only [chk] at h
    have hh := (cold_if h).1
    replace h := (cold_if h).2
    split at h
    · rename_i x _ y _
      simp only [Bool.and_eq_true, decide_eq_true_eq, Bool.not_eq_true'] at h
      obtain ⟨⟨⟨h1, h2⟩, h3⟩, h4⟩ := h
      subst h1
      obtain ⟨g1, g2, g3⟩ := glB_ok h2
      obtain ⟨q1, q2, q3, q4⟩ := C.exg.mga _ g2
      obtain ⟨k1, fI, fd, ps, k2, k3, k4, k5⟩ := C.exg.mka _ g2
      refine both ?_ (by intro _; rfl)
      exact PE.imp (pe_mkxA (by rw [a.F.K]; exact k1) (by rw [a.F.K]; exact k2) (by rw [a.F.K]; exact k3) (by rw [a.F.prog, a.F.w, a.F.K, a.F.mg, a.F.base]; exact k4) ((a.room hh).mono (by omega)) (by rw [a.F.K]; exact k5) (a.gl g1) (by rw [a.F.mg]; exact q1) (pe_ok C m h4 a).1 h3 (dbg_ok g3).1) fun σ H Q ⟨M, S, ρ, em, rn, q⟩ => by
        simp only [ev] at q
        refine tE.step em rn q fun v H1 M1 S1 d e1 em1 rn1 r1 k => ?_
        split at k
        · rename_i i
          cases r1
          refine ⟨i, rfl, fun b dx hn hx hne => ?_⟩
          have hn2 : upd H1 dx (exd dx [(("at" : Str), V.int i)]) b = none := by rw [upd_ne (Ne.symm hne)]; exact hn
          have em2 := em1.alloc (o := exd dx [(("at" : Str), V.int i)]) hx
          refine k M1 _ _ ((Ext.alloc hx).trans (Ext.alloc hn2)) (em2.alloc hn2) (.exaH (by rw [em1.kf]; show P.cx c = _; rw [Pg.cx_mem q3, decide_eq_true q4]) upd_same (em1.no hn) ?_ (em1.no hx))
          rw [upd_ne hne]
          exact upd_same
        · exact k.elim
    · cases h
  | .rpi m, Γ, X, Z, e, h, a => by
    simp only [chk] at h
    split at h
    · simp only [Bool.and_eq_true, decide_eq_true_eq, Bool.not_eq_true'] at h
      obtain ⟨⟨⟨h1, h2⟩, h3⟩, h4⟩ := h
      subst h1
      obtain ⟨g1, g2, g3⟩ := glB_ok h2
      refine both ?_ (by intro _; rfl)
      exact PE.imp (pe_callB SkE.call_repr_int (a.gl g1) (by rw [a.F.mg]; exact C.blt _ g2) (by decide +kernel) (pa_cons (pe_ok C m h4 a).1 pa_nil (starEach_cons h3)) (by decide) (dbg_ok g3).1 (starEach_cons h3) rfl) fun σ H Q ⟨M, S, ρ, em, rn, q⟩ => by
        simp only [ev] at q
        refine tE.step em rn q fun v H1 M1 S1 d e1 em1 rn1 r1 k => ?_
        obtain ⟨w, hw, k⟩ := k.oret
        unfold rpiD at hw
        split at hw
        · split at hw
          · rename_i hi
            cases hw
            cases r1
            exact ⟨_, rfl, hi, k.ok em1 (.str _)⟩
          · cases hw
        · cases hw
    · cases h
  | .fmt m, Γ, X, Z, e, h, a => by
    simp only [chk] at h
    split at h
    · refine both ?_ (by intro _; rfl)
      exact PE.imp (pe_fmt (pe_ok C m h a).1) fun σ H Q ⟨M, S, ρ, em, rn, q⟩ => by
        simp only [ev] at q
        refine tE.step em rn q fun v H1 M1 S1 d e1 em1 rn1 r1 k => ?_
        obtain ⟨w, hw, k2⟩ := k.oret
        unfold fmtD at hw
        split at hw
        · split at hw
          · rename_i hi
            cases hw
            cases r1
            exact .inr ⟨_, rfl, hi, k2.ok em1 (.str _)⟩
          · cases hw
        · split at hw
          · rename_i hi
            cases hw
            cases r1
            exact .inl ⟨_, rfl, hi, k2.ok em1 (.str _)⟩
          · cases hw
        · cases hw
    · cases h
  | .fstr es, Γ, X, Z, e, h, a => by
    simp only [chk] at h
    split at h
    · refine both ?_ (by intro _; rfl)
      exact PE.imp (pe_joined (pj_ok C es h a)) fun σ H Q ⟨M, S, ρ, em, rn, q⟩ => by
        simp only [ev] at q
        exact tJs_of es _ em rn q
    · cases h
  | .frz _, _, _, _, _, h, _ => by cases h
  | .said m, Γ, X, Z, e, h, a => by
    simp only [chk] at h
    split at h
    · simp only [Bool.and_eq_true, decide_eq_true_eq] at h
      obtain ⟨⟨⟨⟨h1, h2⟩, h3⟩, h4⟩, h5⟩ := h
      obtain ⟨g1, g2, g3⟩ := glB_ok h2
      refine both ?_ (by intro _; rfl)
      exact pe_saidM h4 a h1 (C.said _ g2) (a.gl g1) (dbg_ok g3).1 (by rw [a.F.sc]; exact LamX.lamS_by h3) fun b => (pe_ok C m h5 b).1
    · cases h
  | .sset b m, Γ, X, Z, e, h, a => by
    simp only [chk] at h
    have hh := (cold_if h).1
    replace h := (cold_if h).2
    split at h
    · simp only [Bool.and_eq_true, decide_eq_true_eq, Bool.not_eq_true'] at h
      obtain ⟨⟨⟨⟨⟨h1, h2⟩, h3⟩, h4⟩, h5⟩, h6⟩ := h
      subst h1 h3
      obtain ⟨g1, g2, g3⟩ := glB_ok h2
      obtain ⟨k1, k2, k3⟩ := glB_ok h4
      refine both ?_ (by intro _; rfl)
      exact pe_ssetM a.F hh (a.gl g1) (by rw [a.F.mg]; exact C.blt _ g2) (a.gl k1) (by rw [a.F.mg]; exact C.blt _ k2) (pe_ok C m h6 a).1 h5
    · cases h
  | .own o c s, Γ, X, Z, e, h, a => by
    simp only [chk] at h
    have hh := (cold_if h).1
    replace h := (cold_if h).2
    split at h
    · rename_i x p y pos
      simp only [Bool.and_eq_true, Bool.or_eq_true, decide_eq_true_eq, Bool.not_eq_true'] at h
      obtain ⟨⟨⟨⟨h1, h2⟩, h3⟩, h4⟩, h5⟩ := h
      obtain ⟨g1, g2, g3⟩ := glB_ok h2
      obtain ⟨fs, ms, hc, hms⟩ := clsM_ok h4
      have CC := C.cls _ _ _ hc
      obtain ⟨fa, fd, ps, m1, m2, m3⟩ := CC.meth _ _ hms
      obtain ⟨us, vus, bi⟩ := m3 0 (Nat.le_refl _)
      cases vus
      rw [← a.F.prog, ← a.F.w, ← a.F.K, ← a.F.mg, ← a.F.base] at m2
      refine both ?_ (by intro _; rfl)
      rcases h1 with (⟨z1, z2⟩ | ⟨z1, z2⟩) | ⟨⟨z1, z2⟩, z3⟩
      · subst z1 z2
        exact PE.imp (pe_lenG (E := EZ P Z) (pe_ok C o h5 a).1 h3 (a.gl g1) (by rw [a.F.mg]; exact C.blt _ g2) (by rw [a.F.K]; exact m1) m2 (a.room hh) a.F.guards (by rw [a.F.K]; exact bi) a.passes) fun σ H Q q => own_is (fun d v M H => ownR_len) q
      · subst z1 z2
        exact PE.imp (pe_reprG (E := EZ P Z) (pe_ok C o h5 a).1 h3 (a.gl g1) (by rw [a.F.mg]; exact C.blt _ g2) (by rw [a.F.K]; exact m1) m2 (a.room hh) a.F.guards (by rw [a.F.K]; exact bi) a.passes) fun σ H Q q => own_is (fun d v M H => ownR_str) q
      · subst z1 z2
        exact PE.imp (pe_strG (E := EZ P Z) (pe_ok C o h5 a).1 h3 (a.gl g1) (by rw [a.F.mg]; exact C.blt _ g2) (by rw [a.F.K]; exact m1) m2 ((a.room4 z3 hh).mono (by omega)) a.F.guards (by rw [a.F.K]; exact bi) a.passes) fun σ H Q q => own_is (fun d v M H => ownR_txt) q
    · cases h
  | .oeq g c u w, Γ, X, Z, e, h, a => by
    simp only [chk] at h
    have hh := (cold_if h).1
    replace h := (cold_if h).2
    split at h
    · rename_i x q y pos
      simp only [Bool.and_eq_true, decide_eq_true_eq, Bool.not_eq_true'] at h
      obtain ⟨⟨⟨⟨h1, h2⟩, h3⟩, h4⟩, h5⟩ := h
      obtain ⟨fs, ms, hc, hms⟩ := clsM_ok h3
      have CC := C.cls _ _ _ hc
      have NE := C.isg.ne _ _ _ hc
      obtain ⟨fa, fd, ps, m1, m2, m3⟩ := CC.meth _ _ hms
      obtain ⟨us, vus, bi⟩ := m3 0 (Nat.le_refl _)
      cases vus
      rw [← a.F.prog, ← a.F.w, ← a.F.K, ← a.F.mg, ← a.F.base] at m2
      have px := (pe_ok C u h4 a (Z := Z)).1
      have py := (pe_ok C w h5 a (Z := Z)).1
      cases g with
      | false =>
        have e1 := of_decide_eq_true h1
        subst e1
        have op := op_ownEqA (E := EZ P Z) m2 ((a.room hh).mono (by omega)) a.F.guards (by rw [a.F.K]; exact m1) (by rw [a.F.K]; exact bi) a.passes
        exact ⟨PE.imp (pe_cmpR op px py h2) fun σ H Q q => by simpa using oeq_case (K := X.K) q, fun _ => tst_cmp (pt_cmpR op px py h2) fun σ H Q q => by simpa using oeq_case (K := X.K) q⟩
      | true =>
        have e1 := of_decide_eq_true h1
        subst e1
        have op := op_ownNe (E := EZ P Z) m2 (a.room hh) a.F.guards (by rw [a.F.K]; exact m1) (by rw [a.F.K]; exact NE.1.1) (by rw [a.F.K]; exact NE.1.2) (by rw [a.F.K]; exact bi) a.passes
        exact ⟨PE.imp (pe_cmpR op px py h2) fun σ H Q q => by simpa using oeq_case (K := X.K) q, fun _ => tst_cmp (pt_cmpR op px py h2) fun σ H Q q => by simpa using oeq_case (K := X.K) q⟩
    · cases h
  | .oin c u w, Γ, X, Z, e, h, a => by
    simp only [chk] at h
    have hh := (cold_if h).1
    replace h := (cold_if h).2
    split at h
    · rename_i x y lp pos
      simp only [Bool.and_eq_true, decide_eq_true_eq, Bool.not_eq_true'] at h
      obtain ⟨⟨⟨⟨h1, h2⟩, h3⟩, h4⟩, h5⟩ := h
      obtain ⟨fs, ms, hc, hms⟩ := clsM_ok h3
      have CC := C.cls _ _ _ hc
      obtain ⟨fa, fd, ps, m1, m2, m3⟩ := CC.meth _ _ hms
      obtain ⟨us, vus, bi⟩ := m3 0 (Nat.le_refl _)
      cases vus
      rw [← a.F.prog, ← a.F.w, ← a.F.K, ← a.F.mg, ← a.F.base] at m2
      have px := (pe_ok C u h4 a (Z := Z)).1
      have py : PE X (.List [y] lp) (tLst (tEs P G Z [w])) := pe_lst (pa_one (pe_ok C w h5 a).1 h1)
      have op := op_ownIn (E := EZ P Z) m2 (a.room hh) a.F.guards (by rw [a.F.K]; exact m1) (by rw [a.F.K]; exact bi) a.passes
      exact ⟨PE.imp (pe_cmpR op px py h2) fun σ H Q q => oin_case (K := X.K) q, fun _ => tst_cmp (pt_cmpR op px py h2) fun σ H Q q => oin_case (K := X.K) q⟩
    · cases h
  | .onin c u w, Γ, X, Z, e, h, a => by
    simp only [chk] at h
    have hh := (cold_if h).1
    replace h := (cold_if h).2
    split at h
    · rename_i x k l y lp pos
      simp only [Bool.and_eq_true, decide_eq_true_eq, Bool.not_eq_true'] at h
      obtain ⟨⟨⟨⟨h1, h2⟩, h3⟩, h4⟩, h5⟩ := h
      obtain ⟨fs, ms, hc, hms⟩ := clsM_ok h3
      have CC := C.cls _ _ _ hc
      have NE := C.isg.ne _ _ _ hc
      obtain ⟨fa, fd, ps, m1, m2, m3⟩ := CC.meth _ _ hms
      obtain ⟨us, vus, bi⟩ := m3 0 (Nat.le_refl _)
      cases vus
      rw [← a.F.prog, ← a.F.w, ← a.F.K, ← a.F.mg, ← a.F.base] at m2
      have px := (pe_ok C u h4 a (Z := Z)).1
      have p0 : PE X (.Constant .none k l) (tE P G Z .non) := PE.imp pe_non fun σ H Q ⟨M, S, ρ, em, rn, q⟩ => by simp only [ev] at q; exact q.ok em .non
      have py : PE X (.List [.Constant .none k l, y] lp) (tLst (tEs P G Z [.non, w])) := pe_lst (pa_two p0 (pe_ok C w h5 a).1 rfl h1)
      have op := op_ownNin (E := EZ P Z) m2 (a.room hh) a.F.guards (by rw [a.F.K]; exact m1) (by rw [a.F.K]; exact NE.2) (by rw [a.F.K]; exact bi) a.passes
      exact ⟨PE.imp (pe_cmpR op px py h2) fun σ H Q q => onin_case q, fun _ => tst_cmp (pt_cmpR op px py h2) fun σ H Q q => onin_case q⟩
    · cases h
  | .lset m, Γ, X, Z, e, h, a => by
    simp only [chk] at h
    have hh := (cold_if h).1
    replace h := (cold_if h).2
    split at h
    · simp only [Bool.and_eq_true, decide_eq_true_eq, Bool.not_eq_true'] at h
      obtain ⟨⟨⟨⟨⟨h1, h2⟩, h3⟩, h4⟩, h5⟩, h6⟩ := h
      subst h1 h3
      obtain ⟨g1, g2, g3⟩ := glB_ok h2
      obtain ⟨k1, k2, k3⟩ := glB_ok h4
      refine both ?_ (by intro _; rfl)
      exact pe_lsetM a.F hh (a.gl g1) (by rw [a.F.mg]; exact C.blt _ g2) (a.gl k1) (by rw [a.F.mg]; exact C.blt _ k2) (pe_ok C m h6 a).1 h5
    · cases h
  | .tupR m, Γ, X, Z, e, h, a => by
    simp only [chk] at h
    have hh := (cold_if h).1
    replace h := (cold_if h).2
    split at h
    · simp only [Bool.and_eq_true, decide_eq_true_eq, Bool.not_eq_true'] at h
      obtain ⟨⟨⟨⟨⟨h1, h2⟩, h3⟩, h4⟩, h5⟩, h6⟩ := h
      subst h1 h3
      obtain ⟨g1, g2, g3⟩ := glB_ok h2
      obtain ⟨k1, k2, k3⟩ := glB_ok h4
      refine both ?_ (by intro _; rfl)
      exact pe_tupRM a.F hh (a.gl g1) (by rw [a.F.mg]; exact C.blt _ g2) (a.gl k1) (by rw [a.F.mg]; exact C.blt _ k2) (pe_ok C m h6 a).1 h5
    · cases h
  | .never, Γ, X, Z, e, h, a => ⟨⟨fun pins s σ H Q I ⟨M, S, ρ, em, rn, q⟩ => by simp only [ev] at q; exact q.elim⟩, fun ht => by simp [tst] at ht⟩
theorem pa_ok (C : Cg P n G gt) : ∀ (ms : List E) {Γ : Ga} {X : Cx} {Z : ZX} {es : List Expr}, es.all (fun e => !isStar e) = true → chks gt ms Γ es = true → At P n Z Γ X → PA X es (tEs P G Z ms)
  | [], Γ, X, Z, es, hs, h, a => by
    cases es with
    | nil => exact PA.imp pa_nil fun σ H Q ⟨M, S, ρ, em, rn, q⟩ => by simp only [evs] at q; exact q.ok em .nil
    | cons _ _ => cases h
  | m :: ms, Γ, X, Z, es, hs, h, a => by
    cases es with
    | nil => cases h
    | cons e es =>
      simp only [chks, Bool.and_eq_true] at h
      rw [List.all_cons, Bool.and_eq_true] at hs
      refine PA.imp (pa_cons (pe_ok C m h.1 a).1 (pa_ok C ms hs.2 h.2 a) (starEach_cons (by simpa using hs.1))) fun σ H Q ⟨M, S, ρ, em, rn, q⟩ => ?_
      simp only [evs] at q
      exact tE.step em rn q fun v H1 M1 S1 d e1 em1 rn1 r1 k => tEs.step em1 rn1 k fun vs H2 M2 S2 ds e2 em2 rn2 r2 k2 => k2.ok em2 (.cons (r1.mono e2) r2)
theorem pa_okD (C : Cg P n G gt) : ∀ (ms : List E) {Γ : Ga} {X : Cx} {Z : ZX} {es : List Expr} {ds : List Int}, es.all (fun e => !isStar e) = true → chksD gt ms Γ es ds = true → At P n Z Γ X →
    ∃ js j, j ≤ ds.length ∧ js = ds.drop j ∧ PA X es (tEsD P G Z ms js) ∧ (es = [] → ∀ σ H (Q : List V → Hp → Prop), tEsD P G Z ms js σ H Q → Q [] H)
  | [], Γ, X, Z, es, ds, hs, h, a => by
    cases es with
    | nil =>
      have z : ∀ σ H (Q : List V → Hp → Prop), tEsD P G Z [] (ds.drop ds.length) σ H Q → Q [] H := fun σ H Q ⟨M, S, ρ, em, rn, q⟩ => by
        simp only [evs] at q
        exact q.ok em .nil [] (by simp)
      exact ⟨_, ds.length, Nat.le_refl _, rfl, PA.imp pa_nil z, fun _ => z⟩
    | cons _ _ => cases h
  | m :: ms, Γ, X, Z, es, ds, hs, h, a => by
    cases es with
    | nil =>
      simp only [chksD] at h
      have h' := of_decide_eq_true h
      have z : ∀ σ H (Q : List V → Hp → Prop), tEsD P G Z (m :: ms) (ds.drop (ds.length - (m :: ms).length)) σ H Q → Q [] H := fun σ H Q ⟨M, S, ρ, em, rn, q⟩ => by
        rw [evs_ints _ _ h'] at q
        exact q.ok em (Rvs.ofInts _) [] rfl
      exact ⟨_, ds.length - (m :: ms).length, Nat.sub_le _ _, rfl, PA.imp pa_nil z, fun _ => z⟩
    | cons e es =>
      simp only [chksD, Bool.and_eq_true] at h
      rw [List.all_cons, Bool.and_eq_true] at hs
      obtain ⟨js, j, hj, ej, pa, _⟩ := pa_okD C ms hs.2 h.2 a
      refine ⟨js, j, hj, ej, PA.imp (pa_cons (pe_ok C m h.1 a).1 pa (starEach_cons (by simpa using hs.1))) fun σ H Q ⟨M, S, ρ, em, rn, q⟩ => ?_, fun z => nomatch z⟩
      simp only [evs] at q
      exact tE.step em rn q fun v H1 M1 S1 d e1 em1 rn1 r1 k => tEs.step em1 rn1 k fun vs H2 M2 S2 ds2 e2 em2 rn2 rv k2 ws hw => k2.ok em2 (.cons (r1.mono e2) rv) (v :: ws) (by rw [hw]; rfl)
theorem pj_ok (C : Cg P n G gt) : ∀ (ms : List E) {Γ : Ga} {X : Cx} {Z : ZX} {es : List Expr}, chks gt ms Γ es = true → At P n Z Γ X → PJ X es (ms.map (tE P G Z))
  | [], Γ, X, Z, es, h, a => by
    cases es with
    | nil => exact .nil
    | cons _ _ => cases h
  | m :: ms, Γ, X, Z, es, h, a => by
    cases es with
    | nil => cases h
    | cons e es =>
      simp only [chks, Bool.and_eq_true] at h
      exact .cons (pe_ok C m h.1 a).1 (pj_ok C ms h.2 a)
theorem po_ok (C : Cg P n G gt) : ∀ (m : Option E) {Γ : Ga} {X : Cx} {Z : ZX} {e : Option Expr}, chko gt m Γ e = true → At P n Z Γ X → PO X e (tEo P G Z m)
  | none, Γ, X, Z, e, h, a => by
    cases e with
    | none => exact PO.imp po_none fun σ H Q ⟨M, S, ρ, em, rn, q⟩ => by simp only [evo] at q; exact q.ok em rfl
    | some _ => cases h
  | some m, Γ, X, Z, e, h, a => by
    cases e with
    | none => cases h
    | some e =>
      simp only [chko] at h
      refine PO.imp (po_some (pe_ok C m h a).1) fun σ H Q ⟨M, S, ρ, em, rn, q⟩ => ?_
      simp only [evo] at q
      refine tE.step em rn q fun v H1 M1 S1 d e1 em1 rn1 r1 k => ?_
      split at k
      · cases r1
        exact ⟨_, rfl, k.ok em1 rfl⟩
      · exact k.elim
theorem pc_ok (C : Cg P n G gt) : ∀ (m : Option E) {Γ : Ga} {X : Cx} {es : List Expr}, chkc gt m Γ es = true → At P n ZF Γ X → PTs X es (tC' P G m)
  | none, Γ, X, es, h, a => by
    cases es with
    | nil => exact pts_ok0
    | cons _ _ => cases h
  | some m, Γ, X, es, h, a => by
    simp only [chkc] at h
    split at h
    · simp only [Bool.and_eq_true] at h
      exact pts_ok1 ((pe_ok C m h.2 a).2 h.1)
    · cases h
theorem pi_ok (C : Cg P n G gt) : ∀ (m : I) {Γ : Ga} {X : Cx} {Z : ZX} {t e : Expr}, chki gt m Γ t e = true → At P n Z Γ X → PI X t e (tI P G Z m)
  | .seq m, Γ, X, Z, t, e, h, a => by
    simp only [chki] at h
    exact pi_seqM a.F (pe_ok C m h a).1
  | .range m, Γ, X, Z, t, e, h, a => by
    simp only [chki] at h
    split at h
    · simp only [Bool.and_eq_true, decide_eq_true_eq, Bool.not_eq_true'] at h
      obtain ⟨⟨⟨h1, h2⟩, h3⟩, h4⟩ := h
      subst h1
      obtain ⟨g1, g2, g3⟩ := glB_ok h2
      exact pi_rangeM a.F (a.gl g1) (by rw [a.F.mg]; exact C.blt _ g2) (pa_one (pe_ok C m h4 a).1 h3) (starEach_cons h3)
    · cases h
  | .range3 ma mb mc, Γ, X, Z, t, e, h, a => by
    simp only [chki] at h
    have hh := (cold_if h).1
    replace h := (cold_if h).2
    split at h
    · simp only [Bool.and_eq_true, decide_eq_true_eq, Bool.not_eq_true'] at h
      obtain ⟨⟨⟨⟨⟨⟨⟨h1, h2⟩, h3⟩, h3'⟩, h3''⟩, h4⟩, h5⟩, h6⟩ := h
      subst h1
      obtain ⟨g1, g2, g3⟩ := glB_ok h2
      exact pi_range3M a.F (a.gl g1) (by rw [a.F.mg]; exact C.blt _ g2) (pa_three (pe_ok C ma h4 a).1 (pe_ok C mb h5 a).1 (pe_ok C mc h6 a).1 h3 h3' h3'') (starEach_cons h3) (star_none (by simp [h3', h3'']))
    · cases h
  | .enum m, Γ, X, Z, t, e, h, a => by
    simp only [chki] at h
    split at h
    · simp only [Bool.and_eq_true, decide_eq_true_eq, Bool.not_eq_true'] at h
      obtain ⟨⟨⟨h1, h2⟩, h3⟩, h4⟩ := h
      subst h1
      obtain ⟨g1, g2, g3⟩ := glB_ok h2
      exact pi_enumM a.F (a.gl g1) (by rw [a.F.mg]; exact C.blt _ g2) (pa_one (pe_ok C m h4 a).1 h3) (starEach_cons h3)
    · cases h
  | .zip m k, Γ, X, Z, t, e, h, a => by
    simp only [chki] at h
    split at h
    · simp only [Bool.and_eq_true, decide_eq_true_eq, Bool.not_eq_true'] at h
      obtain ⟨⟨⟨⟨⟨h1, h2⟩, h3⟩, h3'⟩, h4⟩, h5⟩ := h
      subst h1
      obtain ⟨g1, g2, g3⟩ := glB_ok h2
      exact pi_zipM a.F (a.gl g1) (by rw [a.F.mg]; exact C.blt _ g2) (pa_two (pe_ok C m h4 a).1 (pe_ok C k h5 a).1 h3 h3') (starEach_cons h3) (by rw [starEach_cons h3']; rfl)
    · cases h
end
end
end PL
end

section
set_option Elab.async false
set_option linter.all false
set_option maxRecDepth 100000
set_option maxHeartbeats 2000000
/-! PLP: a text's statements are the evaluator's. -/
namespace PL
open PySem PySem.Spec PyProof.Rows L2
/-- what must hold of a statement's outcome -/
def SRes (P : Pg) (M : Ma) (H : Hp) (r : SOut) (D : Ends) (Z : ZX) : Prop := match r with
  | .next ρ S' => ∀ M' H' σ', Ext M H M' H' → P.Emb M' H' S' → Renv M' H' ρ σ' → D.nx σ' H'
  | .ret d S' => ∀ M' H' v, Ext M H M' H' → P.Emb M' H' S' → Rv M' H' d v → D.rt v H'
  | .exc x S' => ∀ M' H', Ext M H M' H' → P.Emb M' H' S' → Z x S' M' H'
  | .bad => False
section
variable {P : Pg} {M : Ma} {H : Hp} {Z : ZX} {α β : Type} {R : Ma → Hp → α → β → Prop} {D : Ends}
theorem SRes.ext {r : SOut} {M' : Ma} {H' : Hp} (h : SRes P M H r D Z) (e : Ext M H M' H') : SRes P M' H' r D Z := by
  cases r with
  | next ρ S' => exact fun M2 H2 σ2 e2 em rn => h M2 H2 σ2 (e.trans e2) em rn
  | ret d S' => exact fun M2 H2 v e2 em rv => h M2 H2 v (e.trans e2) em rv
  | exc x S' => exact fun M2 H2 e2 em => h M2 H2 (e.trans e2) em
  | bad => exact h
theorem SRes.st {r : Out α} {f : α → Sto → SOut} (h : SRes P M H (r.st f) D Z) : Res P R M H r (fun v H' => ∃ M' S' d, Ext M H M' H' ∧ P.Emb M' H' S' ∧ R M' H' d v ∧ SRes P M' H' (f d S') D Z) Z := by
  cases r with
  | ok d S' => exact fun M' H' v e em rv => ⟨M', S', d, e, em, rv, SRes.ext (r := f d S') h e⟩
  | exc x S' => exact h
  | bad => exact h
theorem SRes.seq {r : SOut} {f : Env → Sto → SOut} {N : L2.St → Hp → Prop} (h : SRes P M H (r.seq f) D Z) (k : ∀ M' H' σ' ρ S', Ext M H M' H' → P.Emb M' H' S' → Renv M' H' ρ σ' → SRes P M H (f ρ S') D Z → N σ' H') : SRes P M H r { D with nx := N } Z := by
  cases r with
  | next ρ S' => exact fun M' H' σ' e em rn => k M' H' σ' ρ S' e em rn h
  | ret d S' => exact h
  | exc x S' => exact h
  | bad => exact h
theorem SRes.next {ρ : Env} {S : Sto} {σ : L2.St} (h : SRes P M H (.next ρ S) D Z) (em : P.Emb M H S) (rn : Renv M H ρ σ) : D.nx σ H := h M H σ Ext.refl em rn
/-- the same ends, for breaks and continues too -/
theorem SRes.ends {r : SOut} {D' : Ends} (h : SRes P M H r D Z) (h1 : ∀ σ H, D.nx σ H → D'.nx σ H) (h2 : ∀ v H, D.rt v H → D'.rt v H) : SRes P M H r D' Z := by
  cases r with
  | next ρ S' => exact fun M' H' σ' e em rn => h1 _ _ (h M' H' σ' e em rn)
  | ret d S' => exact fun M' H' v e em rv => h2 _ _ (h M' H' v e em rv)
  | exc x S' => exact h
  | bad => exact h
end
theorem Out.st_bind {α β : Type} (r : Out α) (f : α → Sto → Out β) (g : β → Sto → SOut) : (r.bind f).st g = r.st fun a S => (f a S).st g := by cases r <;> rfl
section
variable {P : Pg} {G : Calls} {Z : ZX} {M : Ma} {S : Sto} {ρ : Env} {σ : L2.St} {H : Hp}
theorem tE.stS {m : E} {f : D → Sto → SOut} {D : Ends} {K : VK} (em : P.Emb M H S) (rn : Renv M H ρ σ) (h : SRes P M H ((ev G P.gi m ρ S).st f) D Z)
    (k : ∀ v H' M' S' d, Ext M H M' H' → P.Emb M' H' S' → Renv M' H' ρ σ → Rv M' H' d v → SRes P M' H' (f d S') D Z → K v H') : tE P G Z m σ H K :=
  ⟨M, S, ρ, em, rn, (SRes.st h).mono fun v H' ⟨M', S', d, e, em', r, q⟩ => k v H' M' S' d e em' (rn.mono e) r q⟩
theorem tEs.stS {ms : List E} {f : List D → Sto → SOut} {D : Ends} {K : List V → Hp → Prop} (em : P.Emb M H S) (rn : Renv M H ρ σ) (h : SRes P M H ((evs G P.gi ms ρ S).st f) D Z)
    (k : ∀ v H' M' S' d, Ext M H M' H' → P.Emb M' H' S' → Renv M' H' ρ σ → Rvs M' H' d v → SRes P M' H' (f d S') D Z → K v H') : tEs P G Z ms σ H K :=
  ⟨M, S, ρ, em, rn, (SRes.st h).mono fun v H' ⟨M', S', d, e, em', r, q⟩ => k v H' M' S' d e em' (rn.mono e) r q⟩
end
def tS (P : Pg) (G : Calls) (Z : ZX) (st : St) : TS := fun D σ H => ∃ M S ρ, P.Emb M H S ∧ Renv M H ρ σ ∧ SRes P M H (ex G P.gi st ρ S) D Z
def tSs (P : Pg) (G : Calls) (Z : ZX) (st : List St) : TS := fun D σ H => ∃ M S ρ, P.Emb M H S ∧ Renv M H ρ σ ∧ SRes P M H (exs G P.gi st ρ S) D Z
/-! ### targets of assignments -/
theorem sub_assign {X : Cx} {o i : Expr} {pos : Pos} (h : isSlice i = false) : ∀ v, assign (.Subscript o i pos) X.env v = (do
      let ov ← holding [v] (eval o X.env)
      let iv ← holding [v, ov] (eval i X.env)
      standAt pos
      holding [v, ov, iv] (setItem ov iv v)
      release [v, ov, iv] []) := by
  intro v
  cases i <;> first | rfl | cases h
def tA (P : Pg) (G : Calls) (Z : ZX) (t : T) : TG := fun v σ H Q => ∃ M S ρ d, P.Emb M H S ∧ Rv M H d v ∧ Renv M H ρ σ ∧ SRes P M H (asg G P.gi t d ρ S) { nx := Q, rt := fun _ _ => False } Z
def tAs (P : Pg) (G : Calls) (Z : ZX) (t : List T) : TGs := fun v σ H Q => ∃ M S ρ d, P.Emb M H S ∧ Rvs M H d v ∧ Renv M H ρ σ ∧ SRes P M H (asgs G P.gi t d ρ S) { nx := Q, rt := fun _ _ => False } Z
mutual
def chkA (gt : Gt) : T → Ga → Expr → Bool
  | .name i, Γ, e => match e with
    | .Name x _ => decide (Γ.N[i]? = some x) && locB Γ.sc Γ.fn x
    | _ => false
  | .tup ts, Γ, e => if Γ.hot = true then false else match e with
    | .Tuple es _ _ => es.all (fun e => !isStar e) && chkAs gt ts Γ es
    | _ => false
  | .sub o i, Γ, e => match e with
    | .Subscript x y _ => !isSlice y && chk gt o Γ x && chk gt i Γ y
    | _ => false
  | .fld o c f, Γ, e => match e with
    | .Attribute y n _ => decide (n = f) && clsF gt c f && chk gt o Γ y
    | _ => false
def chkAs (gt : Gt) : List T → Ga → List Expr → Bool
  | [], _, es => es.isEmpty
  | t :: ts, Γ, es => match es with
    | e :: es => chkA gt t Γ e && chkAs gt ts Γ es
    | [] => false
end
theorem chkAs_len {gt : Gt} : ∀ (ts : List T) (Γ : Ga) (es : List Expr), chkAs gt ts Γ es = true → ts.length = es.length
  | [], _, es, h => by
    cases es with
    | nil => rfl
    | cons _ _ => cases h
  | t :: ts, Γ, es, h => by
    cases es with
    | nil => cases h
    | cons e es =>
      simp only [chkAs, Bool.and_eq_true] at h
      simp [chkAs_len ts Γ es h.2]
section
variable {P : Pg} {G : Calls} {n : Nat} {gt : Gt}
mutual
theorem pa_asg (C : Cg P n G gt) : ∀ (t : T) {Γ : Ga} {X : Cx} {Z : ZX} {e : Expr}, chkA gt t Γ e = true → At P n Z Γ X → PG X e (tA P G Z t)
  | .name i, Γ, X, Z, e, h, a => by
    simp only [chkA] at h
    split at h
    · rename_i x p
      simp only [Bool.and_eq_true, decide_eq_true_eq] at h
      obtain ⟨l1, l2⟩ := locB_ok h.2
      refine PG.imp (pg_name (i := i) (by rw [a.F.N]; exact a.F.nd) (by rw [a.F.N]; exact h.1) (by rw [a.F.sc]; exact l1) (by rw [a.F.fn, a.F.sc]; exact l2)) fun v σ H Q ⟨M, S, ρ, d, em, r, rn, q⟩ => ?_
      simp only [asg] at q
      split at q
      · exact q.next em (rn.set i r)
      · exact q.elim
    · cases h
  | .tup ts, Γ, X, Z, e, h, a => by
    simp only [chkA] at h
    have hh := (cold_if h).1
    replace h := (cold_if h).2
    split at h
    · rename_i es k p
      simp only [Bool.and_eq_true] at h
      obtain ⟨a1, a2⟩ := assignEach_none (env := X.env) h.1
      refine PG.imp (pg_tup (n := es.length) (a.F.calm hh) (pa_asgs C ts h.1 h.2 a) a2 a1) fun v σ H Q ⟨M, S, ρ, d, em, r, rn, q⟩ => ?_
      cases d with
      | tuple ds =>
        simp only [asg] at q
        split at q
        · rename_i hl
          obtain ⟨b, vs, rfl, h1, n1, q1⟩ := r.tupI
          exact ⟨b, vs, rfl, h1.sq, by rw [← q1.length, ← hl, chkAs_len _ _ _ h.2], M, S, ρ, ds, em, q1, rn, q⟩
        · exact q.elim
      | _ => simp only [asg] at q; exact q.elim
    · cases h
  | .sub o i, Γ, X, Z, e, h, a => by
    simp only [chkA] at h
    split at h
    · simp only [Bool.and_eq_true, Bool.not_eq_true'] at h
      refine PG.imp (pg_sub (pe_ok C o h.1.2 a).1 (pe_ok C i h.2 a).1 set_list (sub_assign h.1.1)) fun v σ H Q ⟨M, S, ρ, d, em, r, rn, q⟩ => ?_
      simp only [asg] at q
      refine tE.stS em rn q fun x H1 M1 S1 dx e1 em1 rn1 r1 k => tE.stS em1 rn1 k fun y H2 M2 S2 dy e2 em2 rn2 r2 k2 => ?_
      split at k2
      · rename_i S3 hs
        unfold setD at hs
        split at hs
        · rename_i j kk hj
          have hx := asRef_some hj
          subst hx
          cases r2
          cases ho : objL S2 j with
          | none => rw [ho] at hs; cases hs
          | some xs =>
            rw [ho] at hs
            simp only [Option.bind_some] at hs
            cases hk : ixN xs.length kk with
            | none => rw [hk] at hs; cases hs
            | some jj =>
              rw [hk] at hs
              cases hs
              obtain ⟨b, rfl, hm⟩ := (r1.mono e2).refI
              have hso := objL_some ho
              obtain ⟨vs, g1, g2⟩ := em2.ob j b _ hm hso
              refine ⟨b, vs, kk, jj, rfl, rfl, g1, by rw [← g2.length]; exact hk, ?_⟩
              have hmn := List.mem_of_getElem? hm
              have x : Ext M2 H2 M2 (upd H2 b (.lst (vs.set jj v))) := Ext.mut (.inl hmn) fun z => (em2.df b z).2 hmn
              exact k2 M2 _ σ x (Emb.mut em2 hm (List.getElem?_eq_some_iff.mp hso).1 ⟨_, upd_same, (g2.set jj ((r.mono e1).mono e2)).mono x⟩ fun ps z => by rw [g1] at z; cases z) (rn2.mono x)
        · cases hs
      · exact k2.elim
    · cases h
  | .fld o c f, Γ, X, Z, e, h, a => by
    simp only [chkA] at h
    split at h
    · rename_i y nm pp
      simp only [Bool.and_eq_true, decide_eq_true_eq] at h
      obtain ⟨⟨h1, h2⟩, h3⟩ := h
      subst h1
      obtain ⟨fs, ms, hc, hf⟩ := clsF_ok h2
      have CC := C.cls _ _ _ hc
      refine PG.imp (pg_fld (pe_ok C o h3 a).1) fun v σ H Q ⟨M, S, ρ, d, em, r, rn, q⟩ => ?_
      simp only [asg] at q
      refine tE.stS em rn q fun x H1 M1 S1 dx e1 em1 rn1 r1 k => ?_
      split at k
      · rename_i S3 hs
        unfold setF at hs
        cases ea : asRef dx with
        | none => rw [ea] at hs; cases hs
        | some i =>
          rw [ea] at hs
          have ed := asRef_some ea
          subst ed
          cases hi : insD S1 i with
          | none => simp [hi] at hs
          | some p =>
            obtain ⟨c', fs'⟩ := p
            simp only [Option.bind_some, hi] at hs
            split at hs
            · rename_i hcc
              obtain ⟨hcc, hl⟩ := hcc
              have hcc' : c' = c := hcc
              subst hcc'
              cases hs
              obtain ⟨l, dx, vfs, rfl, g0, g1, g2, g3, g4⟩ := em1.ins hi r1
              have hl' : fs'.length < 900 := hl
              refine ⟨l, _, dx, vfs, rfl, g1, by rw [a.F.K]; exact CC.cl, by rw [a.F.K]; exact CC.noat _ hf, by rw [← g4.length]; omega, ?_⟩
              have hmn := List.mem_of_getElem? g0
              have x : Ext M1 H1 M1 (upd H1 l (.ins (P.CA c') dx (L2.putF nm v vfs))) := Ext.mut (.inl hmn) fun z => (em1.df l z).2 hmn
              have hne : dx ≠ l := fun z => g3 (.inl (z ▸ hmn))
              exact k M1 _ σ x (Emb.mut em1 g0 (List.getElem?_eq_some_iff.mp (insD_some hi)).1 ⟨dx, _, upd_same, by rw [upd_ne hne]; exact g2, g3, (g4.put (r.mono e1)).mono x⟩ fun ps z => by rw [g1] at z; cases z) (rn1.mono x)
            · cases hs
      · exact k.elim
    · cases h
theorem pa_asgs (C : Cg P n G gt) : ∀ (ts : List T) {Γ : Ga} {X : Cx} {Z : ZX} {es : List Expr}, es.all (fun e => !isStar e) = true → chkAs gt ts Γ es = true → At P n Z Γ X → PGs X es (tAs P G Z ts)
  | [], Γ, X, Z, es, hs, h, a => by
    cases es with
    | nil =>
      refine PGs.imp pgs_nil fun xs σ H Q ⟨M, S, ρ, d, em, r, rn, q⟩ => ?_
      cases d with
      | nil =>
        cases r
        simp only [asgs] at q
        exact ⟨rfl, q.next em rn⟩
      | cons _ _ => exact q.elim
    | cons _ _ => cases h
  | t :: ts, Γ, X, Z, es, hs, h, a => by
    cases es with
    | nil => cases h
    | cons e es =>
      simp only [chkAs, Bool.and_eq_true] at h
      rw [List.all_cons, Bool.and_eq_true] at hs
      refine PGs.imp (pgs_cons (pa_asg C t h.1 a) (pa_asgs C ts hs.2 h.2 a) (by rw [assignEach_cons (by simpa using hs.1)]; rfl)) fun xs σ H Q ⟨M, S, ρ, d, em, r, rn, q⟩ => ?_
      cases d with
      | nil => exact q.elim
      | cons d ds =>
        cases r with
        | @cons _ _ v vs r1 r2 =>
          simp only [asgs] at q
          refine ⟨v, vs, rfl, M, S, ρ, d, em, r1, rn, (SRes.seq q fun M' H' σ' ρ' S' e em' rn' k => ⟨M', S', ρ', ds, em', r2.mono e, rn', k.ext e⟩)⟩
end
end
end PL
end

section
set_option Elab.async false
set_option linter.all false
set_option maxRecDepth 100000
set_option maxHeartbeats 2000000
/-! PLQ: the statements' theorem. -/
namespace PL
open PySem PySem.Spec PyProof.Rows L2
def swNames (sc : Scope) (ts : List Expr) : List Str := ts.filterMap fun
    | .Name id pos => if sc.names.lookup id == some .local && pos.line == (ts.head?.map (·.pos.line)).getD 0 then some id else none
    | _ => none
/-- whether two or three names are stored from the right -/
def swF (sc : Scope) (ts vs : List Expr) : Option (Option (List Str)) :=
  if (!(ts.length == 2 || ts.length == 3) || vs.length != ts.length) = true then some none
  else if vs.any isStar = true then some none
  else if ((swNames sc ts).length != ts.length || (swNames sc ts).eraseDups.length != (swNames sc ts).length) = true then some none
  else if vs.all (foldedForSure 8) = true then some none
  else if vs.all (constantsAlone 8) = true then none
  else some (some (swNames sc ts))
theorem swF_ok {env : PySem.Env} (hk : env.scope.kind = .function) {ts vs : List Expr} {k k2 : Nat} {p p2 : Pos} {r : Option (List Str)} (h : swF env.scope ts vs = some r) : swappedStores [.Tuple ts k p] (.Tuple vs k2 p2) env = pure r := by
  have hb : env.blockKind = .function := by unfold Env.blockKind; rw [hk]; rfl
  unfold swF at h
  unfold swappedStores
  simp only [hb]
  split at h
  · rename_i c
    cases h
    rw [if_pos (by simpa using c)]
  · rename_i c
    rw [if_neg (by simpa using c)]
    split at h
    · rename_i c2
      cases h
      exact if_pos c2
    · rename_i c2
      refine (if_neg c2).trans ?_
      split at h
      · rename_i c3
        cases h
        exact if_pos c3
      · rename_i c3
        refine (if_neg c3).trans ?_
        split at h
        · rename_i c4
          cases h
          exact if_pos c4
        · rename_i c4
          rw [if_neg c4]
          split at h
          · cases h
          · rename_i c5
            cases h
            exact if_neg c5
def isComp : Expr → Bool
  | .ListComp .. => true
  | .SetComp .. => true
  | .DictComp .. => true
  | _ => false
def isTupE : Expr → Bool
  | .Tuple .. => true
  | _ => false
theorem sw_none {e : Expr} {t : Option Expr} {l : Nat} {env : PySem.Env} (h : isComp e = false) : swapsWith e t l env = pure false := by
  cases e <;> first | rfl | cases h
theorem st_none {t e : Expr} {env : PySem.Env} (h : isTupE e = false ∨ isTupE t = false) (hl : ∀ es p, t ≠ .List es p) : swappedStores [t] e env = pure none := by
  unfold swappedStores
  split
  · rename_i c
    split at c
    · rename_i h1
      obtain ⟨rfl⟩ : True := trivial
      rcases h with h | h
      · simp_all [isTupE]
      · simp_all [isTupE]
    · rename_i h1
      simp_all
    · cases c
  · rfl
theorem sw_cell {elt : Expr} {gs : List Comprehension} {scope : Scope} {pos py : Pos} {y : Str} {l : Nat} {env : PySem.Env} (hk : env.scope.kind = .function) (hy : env.scope.names.lookup y = some .cell) : swapsWith (.ListComp elt gs scope pos) (some (.Name y py)) l env = pure false := by
  have ky : env.kindOf y = some .cell := hy
  have hb : env.blockKind = .function := by unfold Env.blockKind; rw [hk]; rfl
  unfold swapsWith
  simp only [hb, ky]
  rfl
def isList' : Expr → Bool
  | .List .. => true
  | _ => false
/-- may be stored where an exception is handled, too -/
def hotT (t : T) (v : Expr) : Bool := match t with
  | .name _ => !isComp v
  | _ => false
section
variable (gt : Gt)
/-- a name gets a comprehension -/
def chkN (m : E) (i : Nat) (Γ : Ga) (x : Str) (px : Pos) (v : Expr) : Bool := match v with
  | .ListComp _ _ scope vp => match Γ.sc.names.lookup x with
    | some .cell => Γ.fn x
    | some .local => (match m with | .comp .. => true | _ => false) && (px.line == vp.line) && !(scope.names.any fun (n, k) => n == x && (k == .local || k == .cell))
    | _ => false
  | v => !isComp v && locB Γ.sc Γ.fn x
/-- stored from the right, or as a tuple -/
def chkW (Γ : Ga) (tg v : Expr) (t : T) (e : E) : Bool := match tg, v with
  | .Tuple ts _ _, .Tuple vs _ _ => (match swF Γ.sc ts vs with
    | some none => true
    | some (some [x, y]) => (match ts, vs, t, e with
      | [.Name x' _, .Name y' _], [_, _], .tup [.name i, .name j], .tup [_, _] => decide (x = x') && decide (y = y') && decide (Γ.N[i]? = some x) && decide (Γ.N[j]? = some y) && decide (i ≠ j) && decide (Γ.sc.names.lookup x = some .local) && decide (Γ.sc.names.lookup y = some .local)
      | _, _, _, _ => false)
    | some (some [x, y, z]) => (match ts, vs, t, e with
      | [.Name x' _, .Name y' _, .Name z' _], [_, _, _], .tup [.name i, .name j, .name l], .tup [_, _, _] => decide (x = x') && decide (y = y') && decide (z = z') && decide (Γ.N[i]? = some x) && decide (Γ.N[j]? = some y) && decide (Γ.N[l]? = some z) && decide (i ≠ j) && decide (i ≠ l) && decide (j ≠ l) && decide (Γ.sc.names.lookup x = some .local) && decide (Γ.sc.names.lookup y = some .local) && decide (Γ.sc.names.lookup z = some .local)
      | _, _, _, _ => false)
    | _ => false)
  | tg, _ => !isList' tg
mutual
def chkS : St → Ga → Stmt → Bool
  | .asg t e, Γ, s => match s with
    | .Assign [tg] v _ => (!Γ.hot || hotT t v) && (match t, tg with
      | .name i, .Name x px => decide (Γ.N[i]? = some x) && chkN e i Γ x px v && chk gt e Γ v
      | t, tg => !isComp v && !isStar tg && chkW Γ tg v t e && chkA gt t Γ tg && chk gt e Γ v)
    | _ => false
  | .expr e, Γ, s => match s with
    | .Expr v _ => !isComp v && chk gt e Γ v
    | _ => false
  | .ret e, Γ, s => match s with
    | .Return (some v) _ => chk gt e Γ v
    | _ => false
  | .retN, _, s => match s with
    | .Return none _ => true
    | _ => false
  | .ite c a b, Γ, s => match s with
    | .If x y z _ => tst c && chk gt c Γ x && chkSs a Γ y && chkSs b Γ z
    | _ => false
  | .for_ t it body, Γ, s => if Γ.hot = true then false else match s with
    | .For tg x y [] _ => !isSet x && chki gt it Γ tg x && chkT t Γ tg && chkSs body Γ y
    | _ => false
  | .while_ c body, Γ, s => match s with
    | .While x y [] _ => tst c && chk gt c Γ x && chkSs body Γ y
    | _ => false
  | .pass, _, s => match s with
    | .Pass _ => true
    | _ => false
  | .raise c es, Γ, s => if Γ.hot = true then false else match s with
    | .Raise (some (.Call (.Name x _) [.Constant (.str _) _ _] [] _)) none _ => es.isEmpty && decide (c = x) && glB gt Γ.sc x (.exc true)
    | _ => false
  | .tryN body, Γ, s => if Γ.hot = true then false else match s with
    | .Try b [.ExceptHandler (some (.Name x _)) none [.Return (some (.Constant .none _ _)) _] _] [] [] _ => decide (x = "ClubError") && (glB gt Γ.sc x (.exc false) || glB gt Γ.sc x (.exc true)) && chkSs body Γ b
    | _ => false
  | .raiseA c m, Γ, s => if Γ.hot = true then false else match s with
    | .Raise (some (.Call (.Name x _) [y] [] _)) none _ => decide (c = x) && glB gt Γ.sc x .excA && !isStar y && chk gt m Γ y
    | _ => false
  | .never, _, _ => true
def chkSs : List St → Ga → List Stmt → Bool
  | [], _, ss => ss.isEmpty
  | t :: ts, Γ, ss => match ss with
    | s :: ss => chkS t Γ s && chkSs ts Γ ss
    | [] => false
end
end
/-- where a statement stands -/
structure AtS (P : Pg) (n : Nat) (Z : ZX) (Γ : Ga) (X : Cx) : Prop extends At P n Z Γ X where
  own : PassesOwn (model X.prog X.w) X.A X.env X.xe
  stk : X.stack = X.env :: X.outer
  frm : X.env.frame = some X.env.locals
theorem pss_consM {X : Cx} {s : Stmt} {ss : List Stmt} {t u : TS} (h1 : PS X s t) (h2 : PSs X ss u) : PSs X (s :: ss) (tSeq t u) := pss_cons h1 h2
section
variable {P : Pg} {G : Calls} {n : Nat} {gt : Gt}
theorem for_ok {Z : ZX} {Γ : Ga} {X : Cx} (a : AtS P n Z Γ X) (hh : Γ.hot = false) {t : Tg} {it : I} {body : List St} {tg x : Expr} {y : List Stmt} {pos : Pos} (hi : PI X tg x (tI P G Z it)) (hg : PG X tg (tG t)) (hb : PSs X y (tSs P G Z body)) (hs : isSet x = false) :
    PS X (.For tg x y [] pos) (tS P G Z (.for_ t it body)) := by
  refine PS.imp (ps_for a.own (a.F.calm hh) hi hg hb (noSet hs)) fun D σ H ⟨M, S, ρ, em, rn, q⟩ => ?_
  simp only [ex] at q
  refine ⟨M, S, ρ, em, rn, (SRes.st q).mono fun J H1 ⟨M1, S1, w, e1, em1, ⟨W, Y, walk, stand, yield⟩, k⟩ => ?_⟩
  split at k
  · exact k.elim
  rename_i hnp
  have hok : ∀ i ρ S', SRes P M1 H1 (forL w.ok (putT t) (fun ρ S => exs G P.gi body ρ S) (w.items.drop i) ρ S') D Z → w.ok S' := fun i ρ S' hc => by
    cases e : w.items.drop i with
    | nil =>
      rw [e] at hc
      simp only [forL] at hc
      split at hc
      · assumption
      · exact hc.elim
    | cons d ds =>
      rw [e] at hc
      simp only [forL] at hc
      split at hc
      · assumption
      · exact hc.elim
  refine for_it walk (fun i σ' H' => ∃ M' S' ρ', Ext M1 H1 M' H' ∧ P.Emb M' H' S' ∧ Renv M' H' ρ' σ' ∧ SRes P M1 H1 (forL w.ok (putT t) (fun ρ S => exs G P.gi body ρ S) (w.items.drop i) ρ' S') D Z)
    ⟨M1, S1, ρ, Ext.refl, em1, rn.mono e1, k⟩ (fun i σ' H' hi ⟨M', S', ρ', e2, em2, rn2, hc⟩ => stand M' H' S' e2 em2 (hok i ρ' S' hc)) ?_ ?_
  · rintro i xv σ' H' H'' hi ⟨M', S', ρ', e2, em2, rn2, hc⟩ hy
    have ho := hok i ρ' S' hc
    obtain ⟨d, hget, em3, e3, rw3, rv3⟩ := yield i M' H' S' xv H'' e2 em2 ho hy
    rw [drop_get hget] at hc
    simp only [forL] at hc
    rw [if_pos ho] at hc
    cases hput : putT t d ρ' with
    | none => rw [hput] at hc; exact hc.elim
    | some ρ2 =>
      rw [hput] at hc
      simp only at hc
      have rg : Rg M' H'' t d xv := by
        cases t with
        | name j => exact rv3 (by simpa [isNm] using hnp)
        | tup ts => exact rw3
      refine ⟨M', d, ρ', ρ2, rg, rn2.mono e3, hput, fun σ2 r2 _ => ⟨M', S', ρ2, em3, r2, ?_⟩⟩
      have e23 := e2.trans e3
      have q1 : SRes P M1 H1 (exs G P.gi body ρ2 S') { D with nx := fun σ' H' => ∃ M' S' ρ', Ext M1 H1 M' H' ∧ P.Emb M' H' S' ∧ Renv M' H' ρ' σ' ∧ SRes P M1 H1 (forL w.ok (putT t) (fun ρ S => exs G P.gi body ρ S) (w.items.drop (i + 1)) ρ' S') D Z } Z :=
        SRes.seq hc fun M' H' σ' ρ S' e em' rn' k => ⟨M', S', ρ, e, em', rn', k⟩
      exact (q1.ext e23).ends (fun _ _ q => q) (fun _ _ q => q)
  · rintro σ' H' ⟨M', S', ρ', e2, em2, rn2, hc⟩
    have ho := hok _ ρ' S' hc
    rw [List.drop_length] at hc
    simp only [forL] at hc
    rw [if_pos ho] at hc
    exact hc M' H' σ' e2 em2 rn2
theorem while_ok {Z : ZX} {Γ : Ga} {X : Cx} (a : AtS P n Z Γ X) {c : E} {body : List St} {x : Expr} {y : List Stmt} {pos : Pos} (hc : PT X x (tT P G Z c)) (hb : PSs X y (tSs P G Z body)) :
    PS X (.While x y [] pos) (tS P G Z (.while_ c body)) := by
  refine PS.imp (ps_while a.own hc hb) fun D σ H ⟨M, S, ρ, em, rn, q⟩ => ?_
  simp only [ex] at q
  refine ⟨fun m σ' H' => ∃ M' S' ρ', P.Emb M' H' S' ∧ Renv M' H' ρ' σ' ∧ SRes P M' H' (whileL (fun ρ S => ev G P.gi c ρ S) (fun ρ S => exs G P.gi body ρ S) m ρ' S') D Z, ⟨wfuel, M, S, ρ, em, rn, q⟩, ?_⟩
  rintro m σ' H' ⟨M', S', ρ', em', rn', q⟩
  cases m with
  | zero => exact q.elim
  | succ m =>
    simp only [whileL] at q
    refine tE.stS em' rn' q fun v H1 M1 S1 d e1 em1 rn1 r1 k => ?_
    split at k
    · cases r1
      refine ⟨true, rfl, ?_⟩
      try dsimp only
      rw [if_pos rfl]
      refine ⟨_, fun σ2 H2 w => ⟨m, Nat.lt_succ_self m, w⟩, M1, S1, ρ', em1, rn1, ?_⟩
      refine (SRes.seq k (N := fun σ2 H2 => ∃ M' S' ρ', P.Emb M' H2 S' ∧ Renv M' H2 ρ' σ2 ∧ SRes P M' H2 (whileL (fun ρ S => ev G P.gi c ρ S) (fun ρ S => exs G P.gi body ρ S) m ρ' S') D Z)
        fun M2 H2 σ2 ρ2 S2 e2 em2 rn2 k2 => ⟨M2, S2, ρ2, em2, rn2, k2.ext e2⟩).ends (fun _ _ q => q) (fun _ _ q => q)
    · cases r1
      refine ⟨false, rfl, ?_⟩
      try dsimp only
      rw [if_neg (by decide)]
      exact k.next em1 rn1
    · exact k.elim
end
end PL
end

section
set_option Elab.async false
set_option linter.all false
set_option maxRecDepth 100000
set_option maxHeartbeats 2000000
/-! PLR: the statements' theorem, all in one. -/
namespace PL
open PySem PySem.Spec PyProof.Rows L2
section
variable {P : Pg} {G : Calls} {n : Nat} {gt : Gt}
theorem set_any {Z : ZX} {Γ : Ga} {X : Cx} (a : At P n Z Γ X) {i : Nat} {e : E} {D : Ends} {σ : L2.St} {H : Hp} (h : tS P G Z (.asg (.name i) e) D σ H) : tE P G Z e σ H fun x H1 => gName i x σ H1 D.nx := by
  obtain ⟨M, S, ρ, em, rn, q⟩ := h
  simp only [ex] at q
  refine tE.stS em rn q fun v H1 M1 S1 d e1 em1 rn1 r1 k => ?_
  simp only [asg] at k
  split at k
  · exact k.next em1 (rn1.set i r1)
  · exact k.elim
theorem ps_name (C : Cg P n G gt) {Z : ZX} {Γ : Ga} {X : Cx} (a : At P n Z Γ X) {i : Nat} {x : Str} {px pos : Pos} {e : E} {v : Expr} (hq : (!Γ.hot || hotT (.name i) v) = true) (hi : Γ.N[i]? = some x) (hc : chkN e i Γ x px v = true) (he : chk gt e Γ v = true) :
    PS X (.Assign [.Name x px] v pos) (tS P G Z (.asg (.name i) e)) := by
  have hkind : X.env.scope.kind = .function := by rw [a.F.sc]; exact a.F.kind
  by_cases hv : isComp v = true
  · have hh : Γ.hot = false := by simpa [hotT, hv] using hq
    cases v with
    | ListComp elt gens scope vp =>
      simp only [chkN] at hc
      split at hc
      · rename_i hl
        have hl' : X.env.scope.names.lookup x = some .cell := by rw [a.F.sc]; exact hl
        exact PS.imp (ps_set (by rw [a.F.N]; exact a.F.nd) (by rw [a.F.N]; exact hi) (.inr hl') (pe_ok C e he a).1 (sw_cell hkind hl') (.inl (by rw [a.F.fn]; exact hc))) fun D σ H q => set_any a q
      · rename_i hl
        have hl' : X.env.scope.names.lookup x = some .local := by rw [a.F.sc]; exact hl
        simp only [Bool.and_eq_true, Bool.not_eq_true'] at hc
        obtain ⟨⟨c1, c2⟩, c3⟩ := hc
        cases e with
        | comp r el own tg it cond =>
          have he' := he
          simp only [chk] at he
          replace he := (cold_if he).2
          split at he
          · rename_i x2 t y ifs za scope2 pos2 heq
            cases heq
            simp only [Bool.and_eq_true, decide_eq_true_eq, Bool.not_eq_true'] at he
            obtain ⟨⟨⟨⟨⟨⟨⟨h1, h2⟩, h3⟩, h4⟩, h5⟩, h6⟩, h7⟩, h8⟩ := he
            subst h1
            have ok : BlkOk X.N X.env.scope scope (ownOf Γ.N own) := by rw [a.F.N, a.F.sc]; exact blkOk_by h2
            have ho : (ownOf Γ.N own).map (·.2) = own := by
              unfold ownOf
              rw [List.map_map]
              exact List.map_id' own
            have hit := pi_ok C it h5 a
            have hg : ∀ (s : Shared) (H : Hp) (C' : Addr) (cl : List (Str × Addr)) (fp : List Addr), PG (X.blk s H scope (compEnvC scope cl C' X.env) fp) t (tG tg) := fun s H C' cl fp => pg_ok (a.blk hh ok.kind s H C' cl fp).F rfl tg h6
            have ht : ∀ (s : Shared) (H : Hp) (C' : Addr) (cl : List (Str × Addr)) (fp : List Addr), PTs (X.blk s H scope (compEnvC scope cl C' X.env) fp) ifs (tC' P G cond) := fun s H C' cl fp => pc_ok C cond h7 (a.blk hh ok.kind s H C' cl fp)
            have hel : ∀ (s : Shared) (H : Hp) (C' : Addr) (cl : List (Str × Addr)) (fp : List Addr), PE (X.blk s H scope (compEnvC scope cl C' X.env) fp) elt (tE P G ZF el) := fun s H C' cl fp => (pe_ok C el h8 (a.blk hh ok.kind s H C' cl fp)).1
            refine PS.imp (ps_setLc (i := i) (a.F.calm hh) (by rw [a.F.N]; exact a.F.nd) (by rw [a.F.N]; exact hi) hl' (sw_true hkind hl' c2 c3) hit ok hg ht hel (noSet h4)) fun D σ H q => ?_
            exact comp_ok (pos := vp) a.F ho (fun i hi => by
              rw [List.all_eq_true] at h3
              simpa using h3 i hi) hit ok hg ht hel σ H _ (set_any a q)
          · cases he
        | _ => cases c1
      · cases hc
    | SetComp _ _ _ _ => simp [chkN, isComp] at hc
    | DictComp _ _ _ _ _ => simp [chkN, isComp] at hc
    | _ => cases hv
  · have hv' : isComp v = false := by simpa using hv
    have hloc : locB Γ.sc Γ.fn x = true := by
      cases v with
      | ListComp _ _ _ _ => cases hv'
      | _ => simp only [chkN, Bool.and_eq_true] at hc; exact hc.2
    obtain ⟨l1, l2⟩ := locB_ok hloc
    exact PS.imp (ps_set (by rw [a.F.N]; exact a.F.nd) (by rw [a.F.N]; exact hi) (by rw [a.F.sc]; exact l1) (pe_ok C e he a).1 (sw_none hv') (by rw [a.F.fn, a.F.sc]; exact l2)) fun D σ H q => set_any a q
theorem asg_any {Z : ZX} {t : T} {e : E} {D : Ends} {σ : L2.St} {H : Hp} (h : tS P G Z (.asg t e) D σ H) (nr : ∀ d ρ S v S', asg G P.gi t d ρ S ≠ .ret v S') : tE P G Z e σ H fun x H1 => tA P G Z t x σ H1 D.nx := by
  obtain ⟨M, S, ρ, em, rn, q⟩ := h
  simp only [ex] at q
  refine tE.stS em rn q fun v H1 M1 S1 d e1 em1 rn1 r1 k => ⟨M1, S1, ρ, d, em1, r1, rn1, ?_⟩
  have w := nr d ρ S1
  revert k w
  cases asg G P.gi t d ρ S1 with
  | next _ _ => exact fun k _ => k
  | ret v S' => exact fun _ w => absurd rfl (w v S')
  | exc _ _ => exact fun k _ => k
  | bad => exact fun k _ => k
mutual
theorem asg_noret (G : Calls) (gi : Str → Option Int) : ∀ (t : T) (d : D) (ρ : Env) (S : Sto) (v : D) (S' : Sto), asg G gi t d ρ S ≠ .ret v S'
  | .name i, d, ρ, S, v, S', h => by
    simp only [asg] at h
    split at h <;> cases h
  | .tup ts, d, ρ, S, v, S', h => by
    cases d with
    | tuple ds =>
      simp only [asg] at h
      split at h
      · exact asgs_noret G gi ts ds ρ S v S' h
      · cases h
    | _ => simp only [asg] at h; cases h
  | .sub o i, d, ρ, S, v, S', h => by
    simp only [asg] at h
    cases e1 : ev G gi o ρ S with
    | ok x S1 =>
      rw [e1] at h
      simp only [Out.st_ok] at h
      cases e2 : ev G gi i ρ S1 with
      | ok y S2 =>
        rw [e2] at h
        simp only [Out.st_ok] at h
        split at h <;> cases h
      | exc _ _ => rw [e2] at h; cases h
      | bad => rw [e2] at h; cases h
    | exc _ _ => rw [e1] at h; cases h
    | bad => rw [e1] at h; cases h
  | .fld o c f, d, ρ, S, v, S', h => by
    simp only [asg] at h
    cases e1 : ev G gi o ρ S with
    | ok x S1 =>
      rw [e1] at h
      simp only [Out.st_ok] at h
      split at h <;> cases h
    | exc _ _ => rw [e1] at h; cases h
    | bad => rw [e1] at h; cases h
theorem asgs_noret (G : Calls) (gi : Str → Option Int) : ∀ (t : List T) (d : List D) (ρ : Env) (S : Sto) (v : D) (S' : Sto), asgs G gi t d ρ S ≠ .ret v S'
  | [], [], ρ, S, v, S', h => by simp only [asgs] at h; cases h
  | [], _ :: _, ρ, S, v, S', h => by simp only [asgs] at h; cases h
  | _ :: _, [], ρ, S, v, S', h => by simp only [asgs] at h; cases h
  | t :: ts, d :: ds, ρ, S, v, S', h => by
    simp only [asgs] at h
    cases e : asg G gi t d ρ S with
    | next ρ1 S1 => rw [e] at h; exact asgs_noret G gi ts ds ρ1 S1 v S' h
    | ret w S1 => exact asg_noret G gi t d ρ S w S1 e
    | exc _ _ => rw [e] at h; cases h
    | bad => rw [e] at h; cases h
end
theorem isList_ne {t : Expr} (h : isList' t = false) : ∀ es p, t ≠ .List es p := by
  rintro es p rfl
  cases h
theorem ps_gen (C : Cg P n G gt) {Z : ZX} {Γ : Ga} {X : Cx} (a : At P n Z Γ X) {t : T} {e : E} {tg v : Expr} {pos : Pos} (h1 : isComp v = false) (h2 : isStar tg = false) (h3 : chkW Γ tg v t e = true) (h4 : chkA gt t Γ tg = true) (h5 : chk gt e Γ v = true) (hq : (!Γ.hot || hotT t v) = true) :
    PS X (.Assign [tg] v pos) (tS P G Z (.asg t e)) := by
  have hkind : X.env.scope.kind = .function := by rw [a.F.sc]; exact a.F.kind
  have gen : swappedStores [tg] v X.env = pure none → PS X (.Assign [tg] v pos) (tS P G Z (.asg t e)) := fun hw =>
    PS.imp (ps_asg (pe_ok C e h5 a).1 (pa_asg C t h4 a) (sw_none h1) hw (by rw [assignEach_cons h2]; rfl)) fun D σ H q => asg_any q (asg_noret G P.gi t)
  unfold chkW at h3
  split at h3
  · rename_i ts _ _ vs _ _
    split at h3
    · rename_i hs
      exact gen (swF_ok hkind (by rw [a.F.sc]; exact hs))
    · rename_i x y hs
      split at h3
      · rename_i x' _ y' _ va vb i j ea eb
        simp only [Bool.and_eq_true, decide_eq_true_eq] at h3
        obtain ⟨⟨⟨⟨⟨⟨q1, q2⟩, q3⟩, q4⟩, q5⟩, q6⟩, q7⟩ := h3
        subst q1 q2
        simp only [chk, Bool.and_eq_true] at h5
        refine PS.imp (ps_par (a.F.calm (by simpa [hotT] using hq)) (by rw [a.F.N]; exact a.F.nd) (by rw [a.F.N]; exact q3) (by rw [a.F.N]; exact q4) q5 (by rw [a.F.sc]; exact q6) (by rw [a.F.sc]; exact q7) (pa_ok C [ea, eb] h5.1 h5.2 a) (swF_ok hkind (by rw [a.F.sc]; exact hs)) rfl) fun D σ H ⟨M, S, ρ, em, rn, q⟩ => ?_
        simp only [ex, ev] at q
        rw [Out.st_bind] at q
        refine tEs.stS em rn q fun vs H1 M1 S1 ds e1 em1 rn1 r1 k => ?_
        split at k
        · simp only [Out.st_ok, asg] at k
          split at k
          · rename_i hl
            cases r1 with
            | nil => cases hl
            | @cons d1 _ w1 _ r1 t1 =>
              cases t1 with
              | nil => cases hl
              | @cons d2 _ w2 _ r2 t2 =>
                cases t2 with
                | cons _ _ => cases hl
                | nil =>
                  simp only [asgs, asg] at k
                  split at k
                  · simp only [SOut.seq_next] at k
                    split at k
                    · exact ⟨w1, w2, rfl, k.next em1 ((rn1.set i r1).set j r2)⟩
                    · exact k.elim
                  · exact k.elim
          · exact k.elim
        · exact k.elim
      · cases h3
    · rename_i x y z hs
      split at h3
      · rename_i x' _ y' _ z' _ va vb vc i j l ea eb ec
        simp only [Bool.and_eq_true, decide_eq_true_eq] at h3
        obtain ⟨⟨⟨⟨⟨⟨⟨⟨⟨⟨⟨q1, q2⟩, q2z⟩, q3⟩, q4⟩, q4z⟩, q5⟩, q5y⟩, q5z⟩, q6⟩, q7⟩, q7z⟩ := h3
        subst q1 q2 q2z
        simp only [chk, Bool.and_eq_true] at h5
        refine PS.imp (ps_par3 (a.F.calm (by simpa [hotT] using hq)) (by rw [a.F.N]; exact a.F.nd) (by rw [a.F.N]; exact q3) (by rw [a.F.N]; exact q4) (by rw [a.F.N]; exact q4z) q5 q5y q5z (by rw [a.F.sc]; exact q6) (by rw [a.F.sc]; exact q7) (by rw [a.F.sc]; exact q7z) (pa_ok C [ea, eb, ec] h5.1 h5.2 a) (swF_ok hkind (by rw [a.F.sc]; exact hs)) rfl) fun D σ H ⟨M, S, ρ, em, rn, q⟩ => ?_
        simp only [ex, ev] at q
        rw [Out.st_bind] at q
        refine tEs.stS em rn q fun vs H1 M1 S1 ds e1 em1 rn1 r1 k => ?_
        split at k
        · simp only [Out.st_ok, asg] at k
          split at k
          · rename_i hl
            cases r1 with
            | nil => cases hl
            | @cons d1 _ w1 _ r1 t1 =>
              cases t1 with
              | nil => cases hl
              | @cons d2 _ w2 _ r2 t2 =>
                cases t2 with
                | nil => cases hl
                | @cons d3 _ w3 _ r3 t3 =>
                  cases t3 with
                  | cons _ _ => cases hl
                  | nil =>
                    simp only [asgs, asg] at k
                    split at k
                    · simp only [SOut.seq_next] at k
                      split at k
                      · simp only [SOut.seq_next] at k
                        split at k
                        · exact ⟨w1, w2, w3, rfl, k.next em1 (((rn1.set i r1).set j r2).set l r3)⟩
                        · exact k.elim
                      · exact k.elim
                    · exact k.elim
          · exact k.elim
        · exact k.elim
      · cases h3
    · cases h3
  · rename_i hnt
    have hl : isList' tg = false := by simpa using h3
    refine gen (st_none ?_ (isList_ne hl))
    cases htg : isTupE tg with
    | false => exact .inr rfl
    | true =>
      cases hv : isTupE v with
      | false => exact .inl rfl
      | true =>
        cases tg <;> first | cases htg | skip
        cases v <;> first | cases hv | skip
        exact absurd rfl (hnt _ _ _ _ _ _ rfl)
mutual
theorem ps_ok (C : Cg P n G gt) : ∀ (m : St) {Γ : Ga} {X : Cx} {Z : ZX} {s : Stmt}, chkS gt m Γ s = true → AtS P n Z Γ X → PS X s (tS P G Z m)
  | .asg t e, Γ, X, Z, s, h, a => by
    simp only [chkS] at h
    split at h
    · rename_i tg v pos
      rw [Bool.and_eq_true] at h
      have hq := h.1
      replace h := h.2
      split at h
      · rename_i i x px
        simp only [Bool.and_eq_true, decide_eq_true_eq] at h
        exact ps_name C a.toAt hq h.1.1 h.1.2 h.2
      · simp only [Bool.and_eq_true, Bool.not_eq_true'] at h
        exact ps_gen C a.toAt h.1.1.1.1 h.1.1.1.2 h.1.1.2 h.1.2 h.2 hq
    · cases h
  | .expr e, Γ, X, Z, s, h, a => by
    simp only [chkS] at h
    split at h
    · simp only [Bool.and_eq_true, Bool.not_eq_true'] at h
      refine PS.imp (ps_expr (pe_ok C e h.2 a.toAt).1 (sw_none h.1)) fun D σ H ⟨M, S, ρ, em, rn, q⟩ => ?_
      simp only [ex] at q
      exact tE.stS em rn q fun v H1 M1 S1 d e1 em1 rn1 r1 k => k.next em1 rn1
    · cases h
  | .ret e, Γ, X, Z, s, h, a => by
    simp only [chkS] at h
    split at h
    · refine PS.imp (ps_ret (pe_ok C e h a.toAt).1) fun D σ H ⟨M, S, ρ, em, rn, q⟩ => ?_
      simp only [ex] at q
      exact tE.stS em rn q fun v H1 M1 S1 d e1 em1 rn1 r1 k => k M1 H1 v Ext.refl em1 r1
    · cases h
  | .retN, Γ, X, Z, s, h, a => by
    simp only [chkS] at h
    split at h
    · refine PS.imp ps_retN fun D σ H ⟨M, S, ρ, em, rn, q⟩ => ?_
      simp only [ex] at q
      exact q M H .non Ext.refl em .non
    · cases h
  | .ite c x y, Γ, X, Z, s, h, a => by
    simp only [chkS] at h
    split at h
    · simp only [Bool.and_eq_true] at h
      obtain ⟨⟨⟨h1, h2⟩, h3⟩, h4⟩ := h
      refine PS.imp (ps_if ((pe_ok C c h2 a.toAt).2 h1) (pss_ok C x h3 a) (pss_ok C y h4 a)) fun D σ H ⟨M, S, ρ, em, rn, q⟩ => ?_
      simp only [ex] at q
      refine tE.stS em rn q fun v H1 M1 S1 d e1 em1 rn1 r1 k => ?_
      split at k
      · cases r1
        refine ⟨true, rfl, ?_⟩
        try dsimp only
        rw [if_pos rfl]
        exact ⟨M1, S1, ρ, em1, rn1, k⟩
      · cases r1
        refine ⟨false, rfl, ?_⟩
        try dsimp only
        rw [if_neg (by decide)]
        exact ⟨M1, S1, ρ, em1, rn1, k⟩
      · exact k.elim
    · cases h
  | .for_ t it body, Γ, X, Z, s, h, a => by
    simp only [chkS] at h
    have hh := (cold_if h).1
    replace h := (cold_if h).2
    split at h
    · simp only [Bool.and_eq_true, Bool.not_eq_true'] at h
      exact for_ok a hh (pi_ok C it h.1.1.2 a.toAt) (pg_ok a.F hh t h.1.2) (pss_ok C body h.2 a) h.1.1.1
    · cases h
  | .while_ c body, Γ, X, Z, s, h, a => by
    simp only [chkS] at h
    split at h
    · simp only [Bool.and_eq_true] at h
      exact while_ok a ((pe_ok C c h.1.2 a.toAt).2 h.1.1) (pss_ok C body h.2 a)
    · cases h
  | .pass, Γ, X, Z, s, h, a => by
    simp only [chkS] at h
    split at h
    · refine PS.imp ps_pass fun D σ H ⟨M, S, ρ, em, rn, q⟩ => ?_
      simp only [ex] at q
      exact q.next em rn
    · cases h
  | .never, Γ, X, Z, s, h, a => PS.imp ps_never fun D σ H ⟨M, S, ρ, em, rn, q⟩ => by simp only [ex] at q; exact q
  | .raise c es, Γ, X, Z, s, h, a => by
    simp only [chkS] at h
    have hh := (cold_if h).1
    replace h := (cold_if h).2
    split at h
    · rename_i x px m j p2 pos pos'
      simp only [Bool.and_eq_true, decide_eq_true_eq] at h
      obtain ⟨⟨h1, h2⟩, h3⟩ := h
      subst h2
      obtain ⟨g1, g2, g3⟩ := glB_ok h3
      obtain ⟨k1, k2, k3, k4⟩ := C.exg.raise_ _ g2
      obtain ⟨q1, q2, q3⟩ := C.exg.mg _ _ g2
      cases es with
      | cons _ _ => cases h1
      | nil =>
        refine PS.imp (L2N.ps_raise (a.F.calm hh) a.tk (L2N.pmk_own PySem.F.excBase_ValueError (by rw [a.F.K]; exact k1) (by rw [a.F.mg]; exact q1) (by rw [a.F.K]; exact k2) (raises_own (by rw [a.F.K]; exact k3) (by rw [a.F.K]; exact k4)) (a.gl g1) (dbg_ok g3).1)) fun D σ H ⟨M, S, ρ, em, rn, q⟩ => ?_
        simp only [ex, evs, Out.st_ok] at q
        exact ⟨⟨c, none⟩, S, M, em, ⟨rfl, rfl, q3 rfl⟩, q M H Ext.refl em⟩
    · cases h
  | .raiseA c m, Γ, X, Z, s, h, a => by
    simp only [chkS] at h
    have hh := (cold_if h).1
    replace h := (cold_if h).2
    split at h
    · rename_i x px y pos pos'
      simp only [Bool.and_eq_true, decide_eq_true_eq, Bool.not_eq_true'] at h
      obtain ⟨⟨⟨h1, h2⟩, h3⟩, h4⟩ := h
      subst h1
      obtain ⟨g1, g2, g3⟩ := glB_ok h2
      obtain ⟨q1, q2, q3, q4⟩ := C.exg.mga _ g2
      obtain ⟨k1, fI, fd, ps, k2, k3, k4, k5⟩ := C.exg.mka _ g2
      refine PS.imp (L2N.ps_raise (a.F.calm hh) a.tk (pmk_at (by rw [a.F.K]; exact k1) (by rw [a.F.K]; exact k2) (by rw [a.F.K]; exact k3) (by rw [a.F.prog, a.F.w, a.F.K, a.F.mg, a.F.base]; exact k4) ((a.room hh).mono (by omega)) (by rw [a.F.K]; exact k5) (a.gl g1) (by rw [a.F.mg]; exact q1) (pe_ok C m h4 a.toAt).1 h3 (dbg_ok g3).1)) fun D σ H ⟨M, S, ρ, em, rn, q⟩ => ?_
      simp only [ex] at q
      refine tE.stS em rn q fun v H1 M1 S1 d e1 em1 rn1 r1 k => ?_
      split at k
      · rename_i i
        cases r1
        refine ⟨i, rfl, fun dx hn => ?_⟩
        have x1 : Ext M1 H1 M1 (upd H1 dx (.xd [(("at" : Str), V.int i)])) := Ext.alloc hn
        exact ⟨⟨c, some i⟩, S1, M1, em1.alloc hn, ⟨rfl, ⟨q4, dx, rfl, upd_same, em1.no hn⟩, q3⟩, k M1 _ x1 (em1.alloc hn)⟩
      · exact k.elim
    · cases h
  | .tryN body, Γ, X, Z, s, h, a => by
    simp only [chkS] at h
    have hh := (cold_if h).1
    replace h := (cold_if h).2
    split at h
    · rename_i b x np k l rp pos' pos
      simp only [Bool.and_eq_true, Bool.or_eq_true, decide_eq_true_eq] at h
      obtain ⟨⟨rfl, h2⟩, h3⟩ := h
      obtain ⟨g1, r, g2, g3⟩ : Γ.sc.names.lookup ("ClubError" : Str) = some .globalImplicit ∧ ∃ r, gt.lookup ("ClubError" : Str) = some (.exc r) ∧ dbg "ClubError" = true := by
        rcases h2 with h2 | h2
        · obtain ⟨g1, g2, g3⟩ := glB_ok h2
          exact ⟨g1, _, g2, g3⟩
        · obtain ⟨g1, g2, g3⟩ := glB_ok h2
          exact ⟨g1, _, g2, g3⟩
      obtain ⟨m1, _, _⟩ := C.exg.mg _ _ g2
      have nm : Names X ("ClubError" : Str) (.ref (P.CA "ClubError")) := ⟨a.toAt.gl g1, (dbg_ok g3).1, .inl (by rw [a.F.mg]; exact m1)⟩
      have at_ : ∀ (Z' : ZX) (W : WX) (pn : List (Addr × Obj)) (xe : Value → Shared → Prop), L2N.Takes (X.tr pn xe) W → (∀ c d σ H, EZ P Z' c d H → W c d σ H) → PassesOwn (model X.prog X.w) X.A X.env xe → AtS P n Z' Γ (X.tr pn xe) := fun Z' W pn xe tk hW own => by
        obtain ⟨⟨⟨f1, f2, f3, f4, f5, f6, f7, f8, f9, f10, f11, f12, f13, f14, f15⟩, rm, _, sd, _, r4⟩, _, st, fr⟩ := a
        exact ⟨⟨⟨f1, f2, f3, f4, f5, f6, f7, f8, f9, f10, f11, f12, f13, f14, f15⟩, rm, tk.imp hW, fun z => ⟨(sd z).room, (sd z).ex⟩, fun z => absurd z (by rw [hh]; simp), r4⟩, own, st, fr⟩
      refine PS.imp (L2N.ps_try_many (Wout := fun c d _ H => EZ P Z c d H) (l := [(.ref (P.CA "ClubError"), fun _ _ _ D _ H => D.rt .non H)])
        (tb := fun W D σ H => ∃ Z' : ZX, (∀ c d σ H, EZ P Z' c d H → W c d σ H) ∧ tSs P G Z' body D σ H) a.stk a.frm a.tk
        (fun W pn xe tk own => ⟨fun pins s σ H D I ⟨Z', hW, hs⟩ => (pss_ok C body h3 (at_ Z' W pn xe tk hW own)).run pins s σ H D I hs⟩)
        (.cons nm (fun a oe cls d pn hz hf => PSs.imp (pss_one (ps_ret pe_non)) fun D σ H q => q) .nil)) fun D σ H ⟨M, S, ρ, em, rn, q⟩ => ?_
      simp only [ex] at q
      refine ⟨fun _ _ _ H' => D.rt .non H', fun c d σ' H' ⟨y, S', M', em', hxa, hq⟩ => ⟨true, ?_, fun _ _ _ => hq, fun z => by cases z⟩, M, S, ρ, em, rn, ?_⟩
      · obtain ⟨e1, _, e3⟩ := hxa
        rw [e1, a.F.K]
        exact C.exg.club _ e3
      · revert q
        cases exs G P.gi body ρ S with
        | exc y S' => exact fun q M' H' e em' => q M' H' .non e em' .non
        | next ρ' S' => exact fun q => q
        | ret d S' => exact fun q => q
        | bad => exact fun q => q
    · cases h
theorem pss_ok (C : Cg P n G gt) : ∀ (ms : List St) {Γ : Ga} {X : Cx} {Z : ZX} {ss : List Stmt}, chkSs gt ms Γ ss = true → AtS P n Z Γ X → PSs X ss (tSs P G Z ms)
  | [], Γ, X, Z, ss, h, a => by
    cases ss with
    | nil => exact PSs.imp pss_nil fun D σ H ⟨M, S, ρ, em, rn, q⟩ => by simp only [exs] at q; exact q.next em rn
    | cons _ _ => cases h
  | m :: ms, Γ, X, Z, ss, h, a => by
    cases ss with
    | nil => cases h
    | cons s ss =>
      simp only [chkSs, Bool.and_eq_true] at h
      refine PSs.imp (pss_cons (ps_ok C m h.1 a) (pss_ok C ms h.2 a)) fun D σ H ⟨M, S, ρ, em, rn, q⟩ => ?_
      simp only [exs] at q
      exact ⟨M, S, ρ, em, rn, SRes.seq q fun M' H' σ' ρ' S' e em' rn' k => ⟨M', S', ρ', em', rn', k.ext e⟩⟩
end
end
end PL
end

section
set_option Elab.async false
set_option linter.all false
set_option maxRecDepth 100000
set_option maxHeartbeats 2000000
/-! PLS: defs; the law's end. -/
namespace PL
open PySem PySem.Spec PyProof.Rows L2
/-!  leaving a def: what is kept -/
section
variable {T : List (Addr × Str)} {CA : Str → Addr} {KF : (PySem.W.Frag × (Str → Option (Addr × Bool))) × Option (Addr × Str × Option Addr)} {M M' : Ma} {H H' : Hp} {S S' : Sto}
mutual
theorem Rv.refB : ∀ {d : D} {v : V}, Rv M H d v → PL.refB M.n.length d = true
  | _, _, .non => rfl
  | _, _, .bl _ => rfl
  | _, _, .int _ => rfl
  | _, _, .str _ => rfl
  | _, _, .tup _ _ r => by simp only [PL.refB]; exact Rvs.refB r
  | _, _, .lst _ _ r => by simp only [PL.refB]; exact Rvs.refB r
  | _, _, .scr _ r => by unfold PL.refB; exact Rvs.refB r
  | _, _, @Rv.dct _ _ _ kvs ks q h n => by
    subst q
    cases ks with
    | nil => rfl
    | cons k ks => rfl
  | _, _, .ref h => by unfold PL.refB; exact decide_eq_true (List.getElem?_eq_some_iff.mp h).1
  | _, _, .exn h => rfl
  | _, _, .exnA _ _ _ => rfl
  | _, _, .exnH _ _ _ => rfl
  | _, _, .exaH _ _ _ _ _ => rfl
theorem Rvs.refB : ∀ {ds : List D} {vs : List V}, Rvs M H ds vs → PL.refBs M.n.length ds = true
  | _, _, .nil => rfl
  | _, _, .cons r t => by simp only [PL.refBs, Bool.and_eq_true]; exact ⟨Rv.refB r, Rvs.refB t⟩
end
theorem Rfs.refB {fs : List (Str × D)} {vfs : List (Str × V)} (h : Rfs M H fs vfs) : fs.all (fun p => PL.refB M.n.length p.2) = true := by
  unfold Rfs at h
  induction h with
  | nil => rfl
  | cons p t ih =>
    rw [List.all_cons, Bool.and_eq_true]
    exact ⟨p.2.refB, ih⟩
theorem Rfs.cut {k : Nat} {fs : List (Str × D)} {vfs : List (Str × V)} (h : Rfs M H fs vfs) (hr : fs.all (fun p => PL.refB k p.2) = true) : Rfs (M.cut k) H fs vfs := by
  unfold Rfs at h ⊢
  induction h with
  | nil => exact .nil
  | cons p t ih =>
    rw [List.all_cons, Bool.and_eq_true] at hr
    exact .cons ⟨p.1, p.2.cut hr.1⟩ (ih hr.2)
theorem Emb.refO (e : Emb T CA KF M H S) : S.all (PL.refO S.length) = true := by
  rw [List.all_eq_true]
  intro o ho
  obtain ⟨i, hi, q⟩ := List.mem_iff_getElem.mp ho
  have hm : i < M.n.length := by rw [e.len]; exact hi
  have r := e.ob i M.n[i] o (List.getElem?_eq_getElem hm) (by rw [List.getElem?_eq_getElem hi, q])
  rw [← e.len]
  cases o with
  | lst xs => obtain ⟨vs, _, h⟩ := r; exact h.refB
  | ins c fs =>
    obtain ⟨dx, vfs, _, _, _, h⟩ := r
    exact Rfs.refB h
theorem Emb.cutS {k : Nat} (e : Emb T CA KF M' H' S') (hk : k ≤ S'.length) (h : (S'.take k).all (PL.refO k) = true) : Emb T CA KF (M'.cut k) H' (S'.take k) := by
  have hm : k ≤ M'.n.length := by rw [e.len]; exact hk
  refine ⟨e.kf, ?_, ?_, fun a ha => ⟨(e.df a ha).1, fun z => (e.df a ha).2 (List.mem_of_mem_take z)⟩, fun i a o h1 h2 => ?_, e.tb⟩
  · show (M'.n.take k).length = (S'.take k).length
    rw [List.length_take, List.length_take, e.len]
  · exact e.nd.sublist (List.take_sublist _ _)
  · change (M'.n.take k)[i]? = some a at h1
    have hi : i < k := by
      have := (List.getElem?_eq_some_iff.mp h1).1
      rw [List.length_take] at this
      omega
    have hr : PL.refO k o = true := (List.all_eq_true.mp h) o (List.mem_of_getElem? h2)
    rw [List.getElem?_take_of_lt hi] at h1 h2
    have r := e.ob i a o h1 h2
    cases o with
    | lst xs => obtain ⟨vs, g1, g2⟩ := r; exact ⟨vs, g1, g2.cut hr⟩
    | ins c fs =>
      obtain ⟨dx, vfs, g1, g2, g3, g4⟩ := r
      exact ⟨dx, vfs, g1, g2, fun z => g3 (Ma.cut_mem z), Rfs.cut g4 hr⟩
theorem Ext.cut (e : Ext M H M' H') : Ext M H (M'.cut M.n.length) H' := by
  obtain ⟨N, hN⟩ := e.pre.1
  refine ⟨⟨⟨⟨[], ?_⟩, e.pre.2⟩, e.sub, e.keep, fun a h n => e.new a (Ma.cut_mem h) n⟩, e.kf⟩
  show M'.n.take M.n.length = _
  rw [hN, List.take_left]
  simp
end
theorem fin_ok {P : Pg} {M M' : Ma} {H H' : Hp} {S S' : Sto} {d : D} {v : V} {m : Md} {Q : VK} {Z : ZX} (h : Res P Rv M H (fin m S d S') Q Z) (e : Ext M H M' H') (em0 : P.Emb M H S) (em : P.Emb M' H' S') (r : Rv M' H' d v) : Q v H' := by
  have hl : S.length = M.n.length := em0.len.symm
  cases m with
  | keep =>
    simp only [fin] at h
    exact h M' H' v e em r
  | trunc =>
    simp only [fin] at h
    split at h
    · rename_i c
      rw [hl] at c h
      exact h (M'.cut M.n.length) H' v e.cut (Emb.cutS em c.1 c.2.2) (r.cut c.2.1)
    · exact h.elim
  | pure =>
    simp only [fin] at h
    split at h
    · rename_i c
      have c1 := c.1
      have hle : S.length ≤ S'.length := by
        have := congrArg List.length c1
        rw [List.length_take] at this
        omega
      have em2 := Emb.cutS em hle (by rw [c1]; exact Emb.refO em0)
      rw [c1, hl] at em2
      have c2 := c.2
      rw [hl] at c2
      exact h (M'.cut M.n.length) H' v e.cut em2 (r.cut c2)
    · exact h.elim
/-!  a def by its body -/
def Fn.ga (N : List Str) (sc : Scope) (sd : Bool := false) (hot : Bool := false) : Ga := ⟨N, sc, fun _ => true, hot, sd, false⟩
/-- where a def's lambdas' code objects stand -/
def LamFd (P : Pg) (fd : FuncData) (ql : Str) : Prop := ∃ c p, fd.code = .ref c ∧ LamX.TabB P.base P.mg c p ∧ (p, (ql ++ ".<locals>.") ++ "<lambda>") ∈ P.T ∧ ∀ q ∈ P.T, q.1 = p → q.2 = (ql ++ ".<locals>.") ++ "<lambda>"
def fnScB (N ps : List Str) (sc : Scope) : Bool := decide (sc.kind = .function) && decide (sc.isCoroutine = false) && decide (sc.isGenerator = false) && decide N.Nodup && decide (N.take ps.length = ps) &&
  (ps.all fun x => decide (sc.names.lookup x = some .local ∨ sc.names.lookup x = some .cell)) && sc.names.all fun y => decide (y.2 ≠ .free)
theorem fnScB_ok {N ps : List Str} {sc : Scope} (h : fnScB N ps sc = true) : FnScope N ps sc := by
  unfold fnScB at h
  simp only [Bool.and_eq_true, decide_eq_true_eq, List.all_eq_true] at h
  obtain ⟨⟨⟨⟨⟨⟨h1, h2⟩, h3⟩, h4⟩, h5⟩, h6⟩, h7⟩ := h
  exact ⟨h1, h2, h3, h4, h5, h6, h7⟩
theorem renv_start {M : Ma} {H : Hp} {ds : List D} {vs : List V} {k : Nat} (r : Rvs M H ds vs) : Renv M H (ds.map some ++ List.replicate k none) (vs.map some ++ List.replicate k none) := by
  refine ⟨by simp [r.length], fun i d h => ?_⟩
  by_cases hi : i < ds.length
  · rw [List.getElem?_append_left (by simpa using hi), List.getElem?_map] at h
    cases e : ds[i]? with
    | none => rw [e] at h; cases h
    | some d' =>
      rw [e] at h
      cases h
      obtain ⟨v, h1, h2⟩ := r.get' e
      refine ⟨v, ?_, h2⟩
      rw [List.getElem?_append_left (by simp [← r.length]; exact hi), List.getElem?_map, h1]
      rfl
  · rw [List.getElem?_append_right (by simpa using hi), List.getElem?_replicate] at h
    split at h <;> cases h
theorem fn_ofG {P : Pg} {n : Nat} {G : Calls} {gt : Gt} (hhx : P.hx = none) (C : Cg P n G gt) {F : Fn} {x ql : Str} {fa : Addr} {fd : FuncData} {N ps : List Str} {params : Arguments} {body : List Stmt} {scope : Scope} {dvs : List V} (fu : FunD P.K x ql params body scope dvs [] fa fd) (sc : fnScB N ps scope = true)
    (hp : F.np = ps.length) (hn : F.nn = N.length) (hc : chkSs gt F.body (Fn.ga N scope F.sd) body = true) (hlam : F.sd = true → LamFd P fd ql) : FnG P.prog P.w P.K P.mg P.base (4 * (n + 1) + 1) fa fd ps (spG P (runF G P.gi F)) := by
  have e2n : 4 * (n + 1) + 1 = (4 * n + 4) + 1 := by omega
  rw [e2n]
  have S := fnScB_ok sc
  have len : ∀ vs H Q E, spG P (runF G P.gi F) vs H Q E → vs.length = ps.length := fun vs H Q E ⟨M, St, ds, em, rv, h⟩ => by
    unfold runF at h
    split at h
    · rename_i c
      rw [← rv.length, c, hp]
    · exact h.elim
  obtain ⟨oc, od, dV, kV, doc, pm, an, cdv, ct, osl, rfl, lk, hcd, _, _⟩ := fu.ex
  refine ⟨len, fun A outer s H args us vs Q E hr hg e0 hb r hsp => ?_⟩
  have hl := len _ _ _ _ hsp
  have KX : P.K.In s.heap := e0.mod.kin.keeps fun b o e => (e0.bs b o e).1
  have nolim : s.heap.NoLimit := e0.mod.nolimit.keeps fun b o e => (e0.bs b o e).1
  have hkind : ∀ y ∈ ps.zip us, scope.names.lookup y.1 = some .local ∨ (scope.names.lookup y.1 = some .cell ∧ ((cellsFrom (s.heap.objs.size + 1) scope.names []).lookup y.1).isSome = true) := fun ⟨m, v⟩ hy => by
    rcases S.par m (List.of_mem_zip hy).1 with q | q
    · exact .inl q
    · exact .inr ⟨q, PySem.W.cellsFrom_some _ _ _ (.inl q)⟩
  refine codeAny_call_function hr.depth (KX _ _ lk) rfl S.co S.gen rfl (PySem.W.codeRec_of KX hcd) (hb _ _ _ _ ?_)
  refine wpAny_newFunctionEnv_cells S.kind hkind fun env he s1 xx => ?_
  subst he
  refine ⟨nolim.keeps xx.toInCall.keep, codeAny_func ?_⟩
  have rm := hr.deeper (envOfC ql scope s.heap.objs.size fa cdv)
  let X := cxOf (L2N.CX P.prog P.w) P.prog P.w P.K P.mg P.base N ql scope fa cdv A outer s H E
  have F0 : Fit P (Fn.ga N scope F.sd) X := ⟨rfl, rfl, rfl, rfl, rfl, rfl, S.nd, rfl, S.kind, rfl, fun _ => rfl, hg, fun _ => rm.hd, by have := rm.un; show (A.deeper (envOfC ql scope s.heap.objs.size fa cdv)).units + 150 < cLine; omega, fun _ => hhx⟩
  have tk0 : L2N.Takes X (fun c d _ H => E c d H) := L2N.takes_of rfl rfl rfl rfl
  have la : (Fn.ga N scope F.sd).sd = true → LamAt P n X := fun h => by
    obtain ⟨c, p, h1, h2, h3, h4⟩ := hlam h
    have hcd' : X.env.code = cdv := rfl
    have hql : X.env.qual = ql ++ ".<locals>." := rfl
    refine ⟨rm, c, p, hcd'.trans h1, h2, ?_, fun q hq e => ?_⟩
    · rw [hql]; exact h3
    · rw [hql]; exact h4 q hq e
  have a : AtS P n (zOf P E) (Fn.ga N scope F.sd) X := ⟨⟨F0, fun _ => rm.mono (by omega), tk0.imp fun c d σ H ⟨y, S', M', em, hx, z⟩ => z c d hx, la, (fun z => by cases z), fun _ _ => rm⟩, passes_of rfl, rfl, rfl⟩
  have I : L2.Inv X [] (L2.start N vs) H s1 := inv_start S hr.hd e0 hl r xx
  obtain ⟨M, St, ds, em, rv, h⟩ := hsp
  unfold runF at h
  split at h
  case isFalse => exact h.elim
  rename_i hds
  have hq : tSs P G (zOf P E) F.body { nx := fun _ H' => Q .non H', rt := Q } (L2.start N vs) H := by
    refine ⟨M, St, ds.map some ++ List.replicate (F.nn - F.np) none, em, ?_, ?_⟩
    · have q := renv_start (k := F.nn - F.np) rv
      have e : L2.start N vs = vs.map some ++ List.replicate (F.nn - F.np) none := by
        unfold L2.start
        rw [hn, ← hds, rv.length]
      rw [e]
      exact q
    · revert h
      cases exs G P.gi F.body (ds.map some ++ List.replicate (F.nn - F.np) none) St with
      | next ρ S' => exact fun h M' H' σ' e em' rn => fin_ok h e em em' .non
      | ret d S' => exact fun h M' H' v e em' rv' => fin_ok h e em em' rv'
      | exc y S' => exact fun h => h
      | bad => exact fun h => h
  have ht := pss_ok C F.body hc a
  refine wpAny_mono (ht.run [] s1 (L2.start N vs) H _ I hq) (fun fl s' hs => ?_) fun e s' hs => hs
  have fin' : ∀ {σ' : L2.St} {H' : Hp} {v : V} {u : Value}, L2.Inv X [] σ' H' s' → RelV v u → Q v H' → CE outer P.prog P.w H s Q u s' :=
    fun {σ' H' v u} J rv q => ⟨v, H', J.os, J.bare, J.base, J.hok, rv, q⟩
  cases fl with
  | ret u =>
    obtain ⟨v, σ', H', J, rv, q⟩ := hs
    exact fin' J rv q
  | next =>
    obtain ⟨σ', H', J, q⟩ := hs
    exact fin' (v := V.non) (u := Value.none) J rfl q
  | brk =>
    obtain ⟨_, _, _, q⟩ := hs
    exact False.elim q
  | cont =>
    obtain ⟨_, _, _, q⟩ := hs
    exact False.elim q
end PL
end

section
set_option Elab.async false
set_option linter.all false
set_option maxRecDepth 100000
set_option maxHeartbeats 2000000
/-! PLW: a def called where an exception is handled; the def that tells; the table. -/
namespace PL
open PySem PySem.Spec PyProof.Rows L2
def hotK : Gk → Bool
  | .blt | .exc _ | .excA => true
  | _ => false
def hotGt (gt gtw : Gt) : Bool := gtw.all fun p => decide (gt.lookup p.1 = some p.2) && hotK p.2
theorem look_in {β : Type} {x : Str} {k : β} : ∀ {l : List (Str × β)}, l.lookup x = some k → (x, k) ∈ l
  | [], h => by cases h
  | (y, b) :: l, h => by
    rw [List.lookup_cons] at h
    split at h
    · rename_i e
      have e' : x = y := by simpa using e
      cases h
      rw [e']
      exact List.mem_cons_self
    · exact List.mem_cons_of_mem _ (look_in h)
theorem hotGt_ok {gt gtw : Gt} (h : hotGt gt gtw = true) {x : Str} {k : Gk} (hx : gtw.lookup x = some k) : gt.lookup x = some k ∧ hotK k = true := by
  have q := List.all_eq_true.mp h _ (look_in hx)
  simp only [Bool.and_eq_true, decide_eq_true_eq] at q
  exact q
/-- the text with the exception in hand -/
def Pg.hot (P : Pg) (a : Addr) (c : Str) (d : Option Addr := none) : Pg := { P with hx := some (a, c, d) }
theorem cg_hot {P : Pg} {gt gtw : Gt} (XG : ExG P gt) (hb : ∀ x, gt.lookup x = some .blt → P.mg x = none) (hw : hotGt gt gtw = true) (a : Addr) (c : Str) (d : Option Addr) (G : Calls) : Cg (P.hot a c d) 0 G gtw := by
  have no : ∀ {x : Str} {k : Gk}, hotK k = false → gtw.lookup x = some k → False := fun {x k} h1 h2 => by
    rw [(hotGt_ok hw h2).2] at h1
    cases h1
  exact ⟨fun x hx => hb x (hotGt_ok hw hx).1, fun x hx => (no rfl hx).elim, fun x z hx => (no rfl hx).elim, fun x hx => (no rfl hx).elim, fun x fs ms hx => (no rfl hx).elim, ⟨fun x fs ms hx => (no rfl hx).elim, fun x fs ms hx => (no rfl hx).elim, fun x fs ms hx => (no rfl hx).elim, fun x fs ms hx => (no rfl hx).elim⟩,
    ⟨fun x r hx => XG.mg x r (hotGt_ok hw hx).1, XG.ok, XG.kit, XG.val, XG.club, fun x hx => XG.raise_ x (hotGt_ok hw hx).1, fun x hx => XG.mga x (hotGt_ok hw hx).1, XG.at_, fun x hx => XG.mka x (hotGt_ok hw hx).1⟩, fun x hx => (no rfl hx).elim, fun x ds hx => (no rfl hx).elim⟩
theorem Emb.all {P : Pg} {M M' : Ma} {H H' : Hp} {S : Sto} {c : Str} {a : Addr} {k : (PySem.W.Frag × (Str → Option (Addr × Bool))) × Option (Addr × Str × Option Addr)} (em : P.Emb M H S) (e : Ext ⟨[], M.n ++ M.f, k⟩ H M' H') (t : LamX.Tabs P.T H') : Ext M H M H' ∧ P.Emb M H' S := by
  have no : ∀ b, b ∉ M → b ∉ (⟨[], M.n ++ M.f, k⟩ : Ma) := fun b n z => by
    rcases z with z | z
    · cases z
    · rcases List.mem_append.mp z with z | z
      · exact n (.inl z)
      · exact n (.inr z)
  have x : Ext M H M H' := ⟨⟨⟨⟨[], by simp⟩, rfl⟩, fun _ h => h, fun b o h n t => e.keep b o h (no b n) t, fun _ h n => absurd h n⟩, fun b o h n t => e.kf b o h (List.mem_append_right _ n) t⟩
  refine ⟨x, em.kf, em.len, em.nd, fun b hb => ⟨x.df (em.df b hb).1 hb, (em.df b hb).2⟩, fun i b o h1 h2 => ?_, t⟩
  have r := em.ob i b o h1 h2
  obtain ⟨u, q, nt⟩ := r.some
  exact r.mono x ((e.kf b u q (List.mem_append_left _ (List.mem_of_getElem? h1)) nt).trans q.symm)
theorem fin_ret {m : Md} {S S' T : Sto} {d r : D} (h : fin m S d S' = .ok r T) : r = d := by
  cases m with
  | keep => simp only [fin] at h; cases h; rfl
  | trunc =>
    simp only [fin] at h
    split at h
    · cases h; rfl
    · cases h
  | pure =>
    simp only [fin] at h
    split at h
    · cases h; rfl
    · cases h
/-- a def called with the exception that is handled -/
theorem fn_ofW {P : Pg} {gt gtw : Gt} (XG : ExG P gt) (hblt : ∀ x, gt.lookup x = some .blt → P.mg x = none) (hw : hotGt gt gtw = true) {G : Calls} {F : Fn} {x ql : Str} {fa : Addr} {fd : FuncData} {N ps : List Str} {params : Arguments} {body : List Stmt} {scope : Scope}
    (fu : FunD P.K x ql params body scope [] [] fa fd) (sc : fnScB N ps scope = true) (hp : F.np = ps.length) (hn : F.nn = N.length) (hc : chkSs gtw F.body (Fn.ga N scope false true) body = true)
    {A : Around} {outer : List PySem.Env} {s : Shared} {H : Hp} {args : Args} {p : Addr × Obj} {c w : Str} {T : Sto} {Q : VK} {k : Nat} (hr : L2H.RoomH (k + 1) A) (hg : A.guards = some []) (hot : L2H.Hot1 A p) (hpin : L2H.PinOk outer H s p) (hcl : p.2.cls = .ref (P.CA c)) {yx : Xn} (hyc : yx.cls = c)
    (hxr : c ∈ P.xr) (e0 : Env0 P.prog P.w P.K P.mg P.base A outer s H) (hb : BindsTo s fd args (ps.zip [.ref p.1])) {M : Ma} {S : Sto} (hd : P.XD yx p.2.dict M H) (em : P.Emb M H S) (hcall : runF G P.gi F [exV yx] [] = .ok (.str w) T) (hQ : ∀ H2, Ext M H M H2 → P.Emb M H2 S → Q (.str w) H2) :
    codeAny (model P.prog P.w) A (.call (.ref fa) args) (CR C8.CX0 outer P.prog P.w H s Q C8.E0) s := by
  have S0 := fnScB_ok sc
  obtain ⟨oc, od, dV, kV, doc, pm, an, cdv, ct, osl, rfl, lk, hcd, _, _⟩ := fu.ex
  have hlen : 1 = F.np := by
    unfold runF at hcall
    split at hcall
    · rename_i q; exact q
    · cases hcall
  have hl : ([V.ref p.1] : List V).length = ps.length := by rw [← hp, ← hlen]; rfl
  have r : Vals [V.ref p.1] [Value.ref p.1] := .cons rfl .nil
  have KX : P.K.In s.heap := e0.mod.kin.keeps fun b o e => (e0.bs b o e).1
  have nolim : s.heap.NoLimit := e0.mod.nolimit.keeps fun b o e => (e0.bs b o e).1
  have hkind : ∀ y ∈ ps.zip [Value.ref p.1], scope.names.lookup y.1 = some .local ∨ (scope.names.lookup y.1 = some .cell ∧ ((cellsFrom (s.heap.objs.size + 1) scope.names []).lookup y.1).isSome = true) := fun ⟨m, v⟩ hy => by
    rcases S0.par m (List.of_mem_zip hy).1 with q | q
    · exact .inl q
    · exact .inr ⟨q, PySem.W.cellsFrom_some _ _ _ (.inl q)⟩
  refine codeAny_call_function hr.depth (KX _ _ lk) rfl S0.co S0.gen rfl (PySem.W.codeRec_of KX hcd) (hb _ _ _ _ ?_)
  refine wpAny_newFunctionEnv_cells S0.kind hkind fun env he s1 xx => ?_
  subst he
  refine ⟨nolim.keeps xx.toInCall.keep, codeAny_func ?_⟩
  have rm := hr.deeper (envOfC ql scope s.heap.objs.size fa cdv)
  let X := L2H.cxH C8.CX0 P.prog P.w P.K P.mg P.base N ql scope fa cdv A outer s H C8.E0 p
  obtain ⟨_, v1, dv1, _⟩ := hot
  have tk0 : L2N.Takes X (fun c' d _ H => EZ (P.hot p.1 c p.2.dict) ZF c' d H) := by
    rintro u s' ⟨_, _, _, _, _, _, _, _, _, _, _, _, _, _, _, _, z⟩
    obtain ⟨_, _, _, _, _, z⟩ := z
    exact z.elim
  have hda : p.2.dict ≠ none → c ∈ P.xa := fun z => by
    obtain ⟨yc, ya⟩ := yx
    subst hyc
    cases ya with
    | none => exact absurd hd z
    | some i => exact hd.1
  have F0 : Fit (P.hot p.1 c p.2.dict) (Fn.ga N scope false true) X := ⟨rfl, rfl, rfl, rfl, rfl, rfl, S0.nd, rfl, S0.kind, rfl, (fun z => nomatch z), hg, (fun z => nomatch z), by have := rm.un; show (A.deeper (envOfC ql scope s.heap.objs.size fa cdv)).units + 150 < cLine; omega, (fun z => by cases z)⟩
  have a : AtS (P.hot p.1 c p.2.dict) 0 ZF (Fn.ga N scope false true) X := ⟨⟨F0, (fun z => nomatch z), tk0, (fun z => nomatch z), fun _ => ⟨p, c, rfl, List.mem_singleton.mpr rfl, hcl, hda, ⟨v1, dv1⟩, hxr⟩, fun _ z => by cases z⟩, passes_of rfl, rfl, rfl⟩
  have I : L2.Inv X [] (L2.start N [.ref p.1]) H s1 := L2H.inv_startH (CX := C8.CX0) (E := C8.E0) S0 hpin e0 hl r xx
  have em0 : (P.hot p.1 c p.2.dict).Emb ⟨[], M.n ++ M.f, ((P.K, P.cx), some (p.1, c, p.2.dict))⟩ H [] := by
    refine ⟨rfl, rfl, List.nodup_nil, fun b hb => ⟨?_, fun z => by cases z⟩, fun i b o h => by simp at h, em.tb⟩
    rcases List.mem_append.mp hb with z | z
    · obtain ⟨_, _, _, _, q⟩ := em.has z
      exact q.some
    · exact (em.df b z).1
  have rv : Rvs ⟨[], M.n ++ M.f, ((P.K, P.cx), some (p.1, c, p.2.dict))⟩ H [exV yx] [.ref p.1] := by
    refine .cons ?_ .nil
    obtain ⟨yc, ya⟩ := yx
    subst hyc
    cases ya with
    | none =>
      have hd' : p.2.dict = none := hd
      exact .exn (by show some (p.1, yc, p.2.dict) = _; rw [hd'])
    | some i =>
      obtain ⟨_, dd, h1, h2, h3⟩ := hd
      refine .exnA (dd := dd) (by show some (p.1, yc, p.2.dict) = _; rw [h1]) h2 fun z => h3 ?_
      rcases z with z | z
      · cases z
      · exact List.mem_append.mp z
  have hq : tSs (P.hot p.1 c p.2.dict) G ZF F.body { nx := fun _ H' => Q .non H', rt := Q } (L2.start N [.ref p.1]) H := by
    refine ⟨_, [], [exV yx].map some ++ List.replicate (F.nn - F.np) none, em0, ?_, ?_⟩
    · have q := renv_start (k := F.nn - F.np) rv
      have e : L2.start N [.ref p.1] = [V.ref p.1].map some ++ List.replicate (F.nn - F.np) none := by
        unfold L2.start
        rw [hn, ← hlen]
        rfl
      rw [e]
      exact q
    · unfold runF at hcall
      rw [if_pos (show ([exV yx] : List D).length = F.np from hlen)] at hcall
      revert hcall
      show (match exs G P.gi F.body ([exV yx].map some ++ List.replicate (F.nn - F.np) none) [] with | .next _ S' => fin F.md [] .none S' | .ret d S' => fin F.md [] d S' | .exc x S' => .exc x S' | .bad => .bad) = .ok (.str w) T → SRes _ _ _ (exs G P.gi F.body ([exV yx].map some ++ List.replicate (F.nn - F.np) none) []) _ _
      cases exs G P.gi F.body ([exV yx].map some ++ List.replicate (F.nn - F.np) none) [] with
      | next ρ S' => exact fun h => by cases fin_ret h
      | ret d S' =>
        intro h M' H' v e em' rv'
        cases fin_ret h
        cases rv'
        obtain ⟨x1, x2⟩ := Emb.all (c := c) (a := p.1) em e em'.tb
        exact hQ H' x1 x2
      | exc y S' => exact fun h => by cases h
      | bad => exact fun h => by cases h
  have ht := pss_ok (cg_hot XG hblt hw p.1 c p.2.dict G) F.body hc a
  refine wpAny_mono (ht.run [] s1 (L2.start N [.ref p.1]) H _ I hq) (fun fl s' hs => ?_) fun e s' hs => hs
  have fin' : ∀ {σ' : L2.St} {H' : Hp} {v : V} {u : Value}, L2.Inv X [] σ' H' s' → RelV v u → Q v H' → CE outer P.prog P.w H s Q u s' :=
    fun {σ' H' v u} J rv q => ⟨v, H', J.os, J.bare, J.base, J.hok, rv, q⟩
  cases fl with
  | ret u =>
    obtain ⟨v, σ', H', J, rv, q⟩ := hs
    exact fin' J rv q
  | next =>
    obtain ⟨σ', H', J, q⟩ := hs
    exact fin' (v := V.non) (u := Value.none) J rfl q
  | brk =>
    obtain ⟨_, _, _, q⟩ := hs
    exact False.elim q
  | cont =>
    obtain ⟨_, _, _, q⟩ := hs
    exact False.elim q
theorem callS_eq {gi : Str → Option Int} {fns : Str → Option Fn} {x : Str} {F : Fn} (hF : fns x = some F) (n : Nat) : callS gi fns (n + 1) x = runF (callS gi fns n) gi F := by
  funext ws S
  simp only [callS, hF]
/-- the def that tells what came of the lambda it got: its body; the def of the words -/
structure SaidFact (P : Pg) (gt : Gt) (fns : Str → Option Fn) (x : Str) : Prop where
  ex : ∃ (g : Addr) (fd : FuncData) (Ng : List Str) (av ev : Str) (params : Arguments) (sg : Scope) (p0 p1 p2 p3 p4 p5 p6 p7 p8 p9 p10 p11 : Pos), P.mg x = some (.ref g) ∧
    FunD P.K x x params [.Try [.Return (some (.Call (.Name "repr" p0) [.Call (.Name av p1) [] [] p2] [] p3)) p4] [.ExceptHandler (some (.Name "ClubError" p5)) (some ev) [.Return (some (.Call (.Name "_law_word" p6) [.Name ev p7] [] p8)) p9] p10] [] [] p11] sg [] [] g fd ∧
    Binds P.K fd [av] [] ∧ fnScB Ng [av] sg = true ∧ Ng = [av, ev] ∧ sg.names.lookup av = some .local ∧ sg.names.lookup ev = some .local ∧ dbg av = true ∧ dbg ev = true ∧
    sg.names.lookup ("repr" : Str) = some .globalImplicit ∧ sg.names.lookup ("ClubError" : Str) = some .globalImplicit ∧ sg.names.lookup ("_law_word" : Str) = some .globalImplicit ∧ P.mg "repr" = none ∧ P.mg "ClubError" = some (.ref (P.CA "ClubError"))
  word : ∃ (gtw : Gt) (F : Fn) (fa : Addr) (fd : FuncData) (N ps : List Str) (params : Arguments) (body : List Stmt) (scope : Scope), hotGt gt gtw = true ∧ fns "_law_word" = some F ∧ P.mg "_law_word" = some (.ref fa) ∧ FunD P.K "_law_word" "_law_word" params body scope [] [] fa fd ∧
    fnScB N ps scope = true ∧ Binds P.K fd ps [] ∧ ps.length = 1 ∧ F.np = ps.length ∧ F.nn = N.length ∧ chkSs gtw F.body (Fn.ga N scope false true) body = true
theorem said_of {P : Pg} {gt : Gt} {fns : Str → Option Fn} (hhx : P.hx = none) (XG : ExG P gt) (hblt : ∀ x, gt.lookup x = some .blt → P.mg x = none) {x : Str} (SF : SaidFact P gt fns x) (n : Nat) : SaidG P n (callS P.gi fns n) x := by
  obtain ⟨g, fd, Ng, av, ev, params, sg, p0, p1, p2, p3, p4, p5, p6, p7, p8, p9, p10, p11, m1, fu, hb, sc, eN, l1, l2, d1, d2, g1, g2, g3, mr, mc⟩ := SF.ex
  obtain ⟨gtw, F, fw, fdw, Nw, psw, paramsw, bodyw, scopew, hw, hF, mw, fuw, scw, hbw, hlw, hpw, hnw, hcw⟩ := SF.word
  have Sg := fnScB_ok sc
  obtain ⟨k1, k2, k3⟩ := dbg_ok d1
  obtain ⟨j1, j2, j3⟩ := dbg_ok d2
  subst eN
  refine ⟨g, fd, [av, ev], av, params, _, sg, m1, fu, hb, Sg, rfl, .inl l1, k1, k2, fun A outer cdv s H f c' q Q tl hroom hg act hco htt => ?_⟩
  have F0 : ∀ (pn : List (Addr × Obj)) (xe : Value → Shared → Prop), Fit P (Fn.ga [av, ev] sg) ((cxOf C8.CX0 P.prog P.w P.K P.mg P.base [av, ev] x sg g cdv A outer s H C8.E0).nox.tr pn xe) := fun pn xe =>
    ⟨rfl, rfl, rfl, rfl, rfl, rfl, Sg.nd, rfl, Sg.kind, rfl, fun _ => rfl, hg, fun _ => hroom.hd, by have := hroom.un; show (A.deeper (envOfC x sg s.heap.objs.size g cdv)).units + 150 < cLine; omega, fun _ => hhx⟩
  have tk0 : L2N.Takes (cxOf C8.CX0 P.prog P.w P.K P.mg P.base [av, ev] x sg g cdv A outer s H C8.E0).nox (fun _ _ _ _ => False) := by
    rintro u s' ⟨_, _, _, _, _, _, _, _, _, _, _, _, _, _, _, _, z⟩
    exact z.elim
  refine ⟨_, pss_one (L2N.ps_try_as (X := (cxOf C8.CX0 P.prog P.w P.K P.mg P.base [av, ev] x sg g cdv A outer s H C8.E0).nox) (c := .ref (P.CA "ClubError")) (i := 1) (Wout := fun _ _ _ _ => False)
    (tb := fun W D σ H => ∃ Ech : XK, (∀ cls d σ' H', Ech cls d H' → W cls d σ' H') ∧ σ[0]? = some (some (.ref f)) ∧ H c' = some (LamX.CodeO c' q) ∧ tl Ech H (fun v H1 => rs P ZF (biD .repr) [v] H1 D.rt))
    (ts := fun a cls d D σ H => (1 < σ.length → σ[1]? = some (some (.ref a))) ∧ ∃ y S' M', P.Emb M' H S' ∧ P.XA y cls d M' H ∧ ∃ w T, callS P.gi fns n "_law_word" [exV y] [] = .ok (.str w) T ∧ ∀ H2, Ext M' H M' H2 → P.Emb M' H2 S' → D.rt (.str w) H2)
    rfl rfl Sg.nd rfl l2 ⟨g2, by decide, .inl mc⟩ tk0 (fun W pn xe tk _ => ?_) (fun a oe cls d pn hz hf => ?_)), ?_⟩
  · refine ⟨fun pins s' σ H' D I ⟨Ech, hW, h1, h2, h3⟩ => ?_⟩
    have hp := act W pn xe Ech p1 p2 tk hW
    have pr := pe_callB (pos := p3) (p := p0) (b_repr (Z := ZF) (F0 pn xe)) g1 mr (by decide +kernel) (pa_cons hp pa_nil) (by decide) (by decide)
    exact (pss_one (ps_ret (pos := p4) pr)).run pins s' σ H' D I ⟨h1, h2, h3⟩
  · obtain ⟨vs, hvs⟩ := hf
    have pe : PE ((cxOf C8.CX0 P.prog P.w P.K P.mg P.base [av, ev] x sg g cdv A outer s H C8.E0).nox.suite a ((a, oe) :: pn)) (.Call (.Name "_law_word" p6) [.Name ev p7] [] p8)
        (fun σ H Q => σ[1]? = some (some (.ref a)) ∧ ∃ y S' M', P.Emb M' H S' ∧ P.XA y cls d M' H ∧ ∃ w T, callS P.gi fns n "_law_word" [exV y] [] = .ok (.str w) T ∧ ∀ H2, Ext M' H M' H2 → P.Emb M' H2 S' → Q (.str w) H2) := by
      have ha : PA ((cxOf C8.CX0 P.prog P.w P.K P.mg P.base [av, ev] x sg g cdv A outer s H C8.E0).nox.suite a ((a, oe) :: pn)) [.Name ev p7] _ := pa_cons (pe_var (i := 1) rfl (.inl l2) j1 j2) pa_nil
      refine ⟨fun pins s σ H Q I ⟨h1, y, S', M', em, hxa, w, T, hwd, hk⟩ => ?_⟩
      refine wpAny_Call_Name_kw (ld_glob I g3 mw ?_ (by decide))
      refine PySem.W.callWith_K (h₀ := P.base) I.ok.mod.kin fuw.kp (thn (ha.run p8 pins s σ H (fun vs H1 => vs = [.ref a] ∧ H1 = H) I ⟨.ref a, h1, rfl, rfl⟩) fun us s1 ⟨vs1, H1, I1, r, e1, e2⟩ => ⟨I1.kIn, ?_⟩) (by rfl) (by rfl)
      subst e1
      subst e2
      obtain ⟨u, rfl, ru⟩ := vals1 r
      cases ru
      cases n with
      | zero => cases hwd
      | succ n =>
        rw [callS_eq hF] at hwd
        have P1 := I1.pin (a, oe) (List.mem_append_left _ List.mem_cons_self)
        have hb1 := hbw s1 [.ref a] I1.kIn (by rw [List.append_nil]; exact hlw.symm)
        rw [List.append_nil] at hb1
        have hrm := (L2H.roomH_of hroom).mono (show 1 ≤ 4 * (n + 1) + 3 by omega)
        have rc := fn_ofW XG hblt hw (G := callS P.gi fns n) fuw scw hpw hnw hcw (p := (a, oe)) (c := y.cls) (yx := y) (k := 0) (A := (A.deeper (envOfC x sg _ g cdv)).mark (some (.ref a))) ⟨hrm.dp, hrm.un⟩ hg ⟨rfl, vs, hvs, hz.2.2 vs hvs⟩
          ⟨P1.1, P1.2.1, fun hm => (List.mem_cons.mp (I1.stkSub _ hm)).elim P1.2.2.1 P1.2.2.2.1, P1.2.2.2.2⟩ (hz.1.trans hxa.1) rfl hxa.2.2 I1.env0 hb1 (by show P.XD y oe.dict M' H1; rw [hz.2.1]; exact hxa.2.1) em hwd hk
        refine wpAny_call (codeAny_mono rc fun r s2 hq => ?_)
        cases r with
        | error e => exact (show False from hq).elim
        | ok fl =>
          cases fl with
          | ret u => exact I1.after hq
          | next => exact False.elim hq
          | brk => exact False.elim hq
          | cont => exact False.elim hq
    refine ⟨fun pins s' σ H' D I ⟨hσ, hr⟩ => (pss_one (ps_ret (pos := p9) pe)).run pins s' σ H' D I ⟨hσ ?_, hr⟩⟩
    rw [I.len]
    exact (by decide : 1 < 2)
  · refine ⟨_, fun cls d σ' H' hx => ?_, rfl, hco, htt⟩
    obtain ⟨y, S', M', em, hxa, w, T, hwd, hk⟩ := hx
    have e1 : cls = .ref (P.CA y.cls) := hxa.1
    refine ⟨true, by rw [e1]; exact XG.club _ hxa.2.2, fun _ a na => ⟨fun hl => ?_, y, S', M', em, hxa, w, T, hwd, hk⟩, fun z => nomatch z⟩
    rw [List.getElem?_set_self (by simpa using hl)]
/-- what is known of a def: where it stands, its body; ds: its defaults -/
structure FnAt (P : Pg) (gt : Gt) (F : Fn) (fa : Addr) (ds : List Int) : Prop where
  ex : ∃ (x ql : Str) (fd : FuncData) (N ps : List Str) (params : Arguments) (body : List Stmt) (scope : Scope) (dvs : List V), FunD P.K x ql params body scope dvs [] fa fd ∧ fnScB N ps scope = true ∧
    (∀ j, j ≤ ds.length → ∃ us, Vals ((ds.drop j).map V.int) us ∧ Binds P.K fd ps us) ∧ F.np = ps.length ∧ F.nn = N.length ∧ chkSs gt F.body (Fn.ga N scope F.sd) body = true ∧ (F.sd = true → LamFd P fd ql)
/-- what is known of the text's defs -/
structure FnFact (P : Pg) (gt : Gt) (x : Str) (F : Fn) : Prop where
  ex : ∃ (fa : Addr) (fd : FuncData) (N ps : List Str) (params : Arguments) (body : List Stmt) (scope : Scope), P.mg x = some (.ref fa) ∧ FunD P.K x x params body scope [] [] fa fd ∧ fnScB N ps scope = true ∧ Binds P.K fd ps [] ∧ F.np = ps.length ∧ F.nn = N.length ∧ chkSs gt F.body (Fn.ga N scope F.sd) body = true ∧ (F.sd = true → LamFd P fd x)
/-- the same of a def with defaults -/
structure FnFactD (P : Pg) (gt : Gt) (x : Str) (F : Fn) (ds : List Int) : Prop where
  ex : ∃ fa, P.mg x = some (.ref fa) ∧ PySem.W.keepIn P.K (.ref fa) = true ∧ FnAt P gt F fa ds
/-- what is known of an own class -/
structure ClsFact (P : Pg) (gt : Gt) (fns : Str → Option Fn) (c : Str) (fs : List Str) (ms : List (Str × List Int)) : Prop where
  mg : P.mg c = some (.ref (P.CA c))
  kp : PySem.W.keepIn P.K (.ref (P.CA c)) = true
  cl : Cls P.K (P.CA c)
  noat : ∀ f ∈ fs, NoAttr P.K (P.CA c) f
  new_ : ∃ f F, Mk P.K (P.CA c) f ∧ fns (c ++ ".__init__") = some F ∧ FnAt P gt F f []
  meth : ∀ m ds, ms.lookup m = some ds → ∃ f F, Meth P.K (P.CA c) m f ∧ fns (c ++ "." ++ m) = some F ∧ FnAt P gt F f ds
structure Tbl (P : Pg) (gt : Gt) (fns : Str → Option Fn) : Prop where
  hx : P.hx = none
  blt : ∀ x, gt.lookup x = some .blt → P.mg x = none
  int : ∀ x, gt.lookup x = some .int → ∃ i t, P.mg x = some (.int i t) ∧ P.gi x = some i
  str : ∀ x z, gt.lookup x = some (.str z) → ∃ t, P.mg x = some (.str z t)
  fn : ∀ x, gt.lookup x = some .fn → ∃ F, fns x = some F ∧ FnFact P gt x F
  cls : ∀ c fs ms, gt.lookup c = some (.cls fs ms) → ClsFact P gt fns c fs ms
  isg : IsG P gt
  exg : ExG P gt
  said : ∀ x, gt.lookup x = some .said → SaidFact P gt fns x
  fnd : ∀ x ds, gt.lookup x = some (.fnD ds) → ∃ F, fns x = some F ∧ FnFactD P gt x F ds
theorem fnG0 {P : Pg} {k : Nat} {fa : Addr} {fd : FuncData} {ps : List Str} {fns : Str → Option Fn} {x : Str} : FnG P.prog P.w P.K P.mg P.base k fa fd ps (spG P (callS P.gi fns 0 x)) :=
  ⟨fun vs H Q E ⟨M, S, ds, em, rv, h⟩ => h.elim, fun A outer s H args us vs Q E hr hg e0 hb r ⟨M, S, ds, em, rv, h⟩ => h.elim⟩
theorem cg_of {P : Pg} {gt : Gt} {fns : Str → Option Fn} (T : Tbl P gt fns) : ∀ n, Cg P n (callS P.gi fns n) gt
  | 0 => ⟨T.blt, T.int, T.str, fun x hx => by
    obtain ⟨F, hF, ⟨fa, fd, N, ps, params, body, scope, m1, fu, sc, hb, hp, hn, hc, hl⟩⟩ := T.fn x hx
    exact ⟨fa, fd, ps, m1, fu.kp, hb, fnG0⟩, fun c fs ms hc => by
    obtain ⟨k1, k2, k3, k4, ⟨f, F, q1, q2, ⟨x, ql, fd, N, ps, params, body, scope, dvs, fu, sc, hb, hp, hn, hb2, hl⟩⟩, k6⟩ := T.cls c fs ms hc
    refine ⟨k1, k2, k3, k4, ⟨f, fd, ps, q1, ?_, fnG0⟩, fun m ds hm => ?_⟩
    · obtain ⟨us, v, b⟩ := hb 0 (Nat.le_refl _)
      cases v
      exact b
    · obtain ⟨f, F, q1, q2, ⟨x, ql, fd, N, ps, params, body, scope, dvs, fu, sc, hb, hp, hn, hb2, hl⟩⟩ := k6 m ds hm
      exact ⟨f, fd, ps, q1, fnG0, hb⟩, T.isg, T.exg, fun x hx => said_of T.hx T.exg T.blt (T.said x hx) _, fun x ds hx => by
    obtain ⟨F, hF, ⟨fa, m1, m2, ⟨y, ql, fd, N, ps, params, body, scope, dvs, fu, sc, hb, hp, hn, hb2, hl⟩⟩⟩ := T.fnd x ds hx
    exact ⟨fa, fd, ps, m1, m2, fnG0, hb⟩⟩
  | n + 1 => ⟨T.blt, T.int, T.str, fun x hx => by
    obtain ⟨F, hF, ⟨fa, fd, N, ps, params, body, scope, m1, fu, sc, hb, hp, hn, hc, hl⟩⟩ := T.fn x hx
    refine ⟨fa, fd, ps, m1, fu.kp, hb, ?_⟩
    rw [callS_eq hF]
    exact fn_ofG T.hx (cg_of T n) fu sc hp hn hc hl, fun c fs ms hc => by
    obtain ⟨k1, k2, k3, k4, ⟨f, F, q1, q2, ⟨x, ql, fd, N, ps, params, body, scope, dvs, fu, sc, hb, hp, hn, hb2, hl⟩⟩, k6⟩ := T.cls c fs ms hc
    refine ⟨k1, k2, k3, k4, ⟨f, fd, ps, q1, ?_, ?_⟩, fun m ds hm => ?_⟩
    · obtain ⟨us, v, b⟩ := hb 0 (Nat.le_refl _)
      cases v
      exact b
    · rw [callS_eq q2]
      exact fn_ofG T.hx (cg_of T n) fu sc hp hn hb2 hl
    · obtain ⟨f, F, q1, q2, ⟨x, ql, fd, N, ps, params, body, scope, dvs, fu, sc, hb, hp, hn, hb2, hl⟩⟩ := k6 m ds hm
      refine ⟨f, fd, ps, q1, ?_, hb⟩
      rw [callS_eq q2]
      exact fn_ofG T.hx (cg_of T n) fu sc hp hn hb2 hl, T.isg, T.exg, fun x hx => said_of T.hx T.exg T.blt (T.said x hx) _, fun x ds hx => by
    obtain ⟨F, hF, ⟨fa, m1, m2, ⟨y, ql, fd, N, ps, params, body, scope, dvs, fu, sc, hb, hp, hn, hb2, hl⟩⟩⟩ := T.fnd x ds hx
    refine ⟨fa, fd, ps, m1, m2, ?_, hb⟩
    rw [callS_eq hF]
    exact fn_ofG T.hx (cg_of T n) fu sc hp hn hb2 hl⟩
end PL
end

section
set_option Elab.async false
set_option linter.all false
set_option maxRecDepth 100000
set_option maxHeartbeats 2000000
/-! PLT: the law's end. -/
namespace PL
open PySem PySem.Spec PyProof.Rows L2
theorem cx_no {P : Program} {w : World} {H : Hp} {s s' : Shared} {e : Value} (h : L2N.CX P w [] H s (fun _ _ _ => False) e s') : False := by
  obtain ⟨_, _, _, _, _, _, _, _, _, _, _, _, z⟩ := h
  exact z
/-- the law called from outside, where no repr is under way; cs: the code objects in which lambdas are made, with their tables -/
theorem law_callG {P : Program} {w : World} {K : PySem.W.Frag} {mg mb : Str → Option Value} {k : Nat} {fa a : Addr} {cs : List (Addr × Addr)} {fd : FuncData} {x : Str} {sp : Heap → Sp} {s₁ : Shared} {vs : List Value} {ns : List Int}
    (KX : K.In s₁.heap) (gl : s₁.heap.Ns mainGlobals mg) (bl : s₁.heap.Ns builtinsNs mb) (blb : ∀ x : Str, x ≠ "__name__" → mb x = bootBuiltins x) (nolim : s₁.heap.NoLimit) (gens : s₁.gens = #[])
    (tE : ∀ p ∈ cs, s₁.heap.get? p.2 = some { cls := .none, data := .fields #[] }) (tK : ∀ p ∈ cs, K.lookup p.2 = none) (tC : ∀ p ∈ cs, PySem.W.CodeHd s₁.heap p.1 p.2)
    (bmain : ∃ (bm : Addr) (ob : Obj), mg "__builtins__" = some (.ref bm) ∧ bm ≠ builtinsNs ∧ s₁.heap.get? bm = some ob ∧ ob.cls = .type "module" ∧ ob.dict = some builtinsNs ∧ ob.data = .plain)
    (la : s₁.heap.get? a = some { cls := .type "list", data := .seq vs.toArray }) (hiv : IntsAre vs ns) (hfit : ns.length ≤ sizeLine) (room : Room k callerA)
    (F : ∀ base : Heap, K.In base → base.Ns mainGlobals mg → (∀ p ∈ cs, LamX.TabB base mg p.1 p.2) → FnG P w K mg base k fa fd [x] (sp base)) (binds : ∀ (s : Shared) (u : Value), BindsTo s fd ⟨[u], []⟩ [(x, u)])
    (hsp : ∀ (base : Heap) (H : Hp), (∀ p ∈ cs, H p.2 = some (.tbl #[])) → (∃ o, H a = some (.frz o (.lst (ns.map V.int)))) ∨ (∀ H' : Hp, SqL K H' a (ns.map V.int)) → sp base [.ref a] H (fun v _ => v = .bl true) fun _ _ _ => False) :
    codeAny (model P w) callerA (.call (.ref fa) ⟨[.ref a], []⟩) (fun r s' => r = .ok (.ret (.bool true)) ∧ OldK s₁.heap s'.heap ∧ s'.os = s₁.os ∧ AllBare s'.gens) s₁ := by
  have vi := vals_ints hiv
  have li := hiv.length
  have anT : ∀ p ∈ cs, p.2 ≠ a := fun p hp z => by
    have q := tE p hp
    rw [z, la] at q
    injection q with q
    cases (congrArg Obj.data q)
  have go : ∀ H : Hp, (∀ p ∈ cs, H p.2 = some (.tbl #[])) → ((∃ o, H a = some (.frz o (.lst (ns.map V.int)))) ∨ ∀ H' : Hp, SqL K H' a (ns.map V.int)) → (∀ b u, H b = some u → (∃ p ∈ cs, b = p.2) ∨ (b = a ∧ K.lookup a = none ∧ ∃ o xs, u = .frz o (.lst xs))) → HOk P w H s₁.heap →
      codeAny (model P w) callerA (.call (.ref fa) ⟨[.ref a], []⟩) (fun r s' => r = .ok (.ret (.bool true)) ∧ OldK s₁.heap s'.heap ∧ s'.os = s₁.os ∧ AllBare s'.gens) s₁ := by
    intro H hT hS hA hok
    have free : ∀ {b : Addr} {o : Obj}, s₁.heap.get? b = some o → (∀ q n, o.data ≠ .seq q n) → o.data ≠ .fields #[] → H b = none := fun {b o} e n1 n2 => by
      cases q : H b with
      | none => rfl
      | some u =>
        rcases hA b u q with ⟨p, hp, z⟩ | ⟨z, _⟩
        · rw [z, tE p hp] at e
          cases e
          exact absurd rfl n2
        · rw [z, la] at e
          cases e
          exact absurd rfl (n1 _ _)
    have hid : ∀ {b : Addr} {o : Obj}, s₁.heap.get? b = some o → (∀ q n, o.data ≠ .seq q n) → o.data ≠ .fields #[] → (hidT s₁.heap H).get? b = some o := fun e n1 n2 => hidT_get e (free e n1 n2)
    have nsk : ∀ {b : Addr} {m : Str → Option Value}, s₁.heap.Ns b m → (hidT s₁.heap H).Ns b m := fun {b m} ⟨o, es, ep, e, d, r⟩ => ⟨o, es, ep, hid e (fun q n z => by rw [d] at z; cases z) (fun z => by rw [d] at z; cases z), d, r⟩
    have kin : K.In (hidT s₁.heap H) := fun b o e => hidT_get (KX b o e) (by
      cases q : H b with
      | none => rfl
      | some u =>
        rcases hA b u q with ⟨p, hp, z⟩ | ⟨z, y, _⟩
        · rw [z, tK p hp] at e
          cases e
        · rw [z, y] at e
          cases e)
    have md : Mod K mg (hidT s₁.heap H) := ⟨kin, nsk gl, ⟨mb, nsk bl, blb⟩, let ⟨mc, h1, h2⟩ := nolim; ⟨mc, nsk h1, h2⟩⟩
    have tb : ∀ p ∈ cs, LamX.TabB (hidT s₁.heap H) mg p.1 p.2 := fun p hp => by
      obtain ⟨g0, ges, gep, ge, gd, _⟩ := gl
      refine ⟨?_, ?_, fun z => ?_⟩
      · obtain ⟨o, us, file, tf, flags, tg, inF, text, tt, e1, r1, r2, r3, r⟩ := tC p hp
        exact ⟨o, us, file, tf, flags, tg, inF, text, tt, hid e1 (fun q n z => by rw [r2] at z; cases z) (fun z => by rw [r2] at z; cases z; simp at r3), r1, r2, r3, r⟩
      · obtain ⟨bm, ob, b1, b2, b3, b4, b5, b6⟩ := bmain
        refine ⟨bm, ob, b1, b2, fun z => ?_, fun z => ?_, hid b3 (fun q n z => by rw [b6] at z; cases z) (fun z => by rw [b6] at z; cases z), b4, b5, b6⟩
        · rw [z, ge] at b3
          cases b3
          rw [gd] at b6
          cases b6
        · rw [z, tE p hp] at b3
          cases b3
          cases b6
      · rw [z, tE p hp] at ge
        cases ge
        cases gd
    have en : Env0 P w K mg (hidT s₁.heap H) callerA [] s₁ H := ⟨rfl, md, fun b o e => of_hidT e, Nat.le_of_eq (hidT_size _ _), trivial, fun b hb => (by cases hb), hok, .of_eq gens⟩
    refine codeAny_mono ((F _ kin (nsk gl) tb).run callerA [] s₁ H ⟨[.ref a], []⟩ [.ref a] [.ref a] _ _ room rfl en (binds s₁ (.ref a)) (.cons rfl .nil) (hsp _ H hT hS)) fun r s' h => ?_
    cases r with
    | error e =>
      exact (cx_no h).elim
    | ok fl =>
      cases fl with
      | next => exact h.elim
      | brk => exact h.elim
      | cont => exact h.elim
      | ret u =>
        obtain ⟨v, H', os, bare, un, hok', r', q⟩ := h
        cases (show v = .bl true from q)
        cases (show u = Value.bool true from r')
        have stay : ∀ b o, (∀ p ∈ cs, b ≠ p.2) → s₁.heap.get? b = some o → s'.heap.get? b = some o := fun b o n e => by
          cases q : H b with
          | none => exact un.keep b o e q (fun z => by cases z) (fun z => by cases z)
          | some u =>
            rcases hA b u q with ⟨p, hp, z⟩ | ⟨_, _, ob, xs, z⟩
            · exact absurd z (n p hp)
            · subst z
              obtain ⟨e1, _⟩ := hok b _ q
              obtain ⟨e2, _⟩ := hok' b _ (un.frzs b ob _ q)
              rw [e] at e1
              cases e1
              exact e2
        have more : ∀ p ∈ cs, ∃ m : Array Value, s'.heap.get? p.2 = some { cls := .none, data := .fields m } := fun p hp => by
          obtain ⟨m, z⟩ := un.tbls p.2 #[] (hT p hp)
          exact ⟨_, hok' p.2 _ z⟩
        refine ⟨rfl, ⟨fun b o e => ?_, fun b o e => ?_⟩, os, bare⟩
        · by_cases hb : ∃ p ∈ cs, b = p.2
          · obtain ⟨p, hp, rfl⟩ := hb
            obtain ⟨m, hm⟩ := more p hp
            rw [tE p hp] at e
            cases e
            exact .inr (.inl ⟨((tC p hp).tab (tE p hp)).isCodeTable, rfl, #[], m, rfl, by rw [Array.empty_append]; exact hm⟩)
          · exact .inl (stay b o (fun p hp z => hb ⟨p, hp, z⟩) e)
        · by_cases hb : ∃ p ∈ cs, b = p.2
          · obtain ⟨p, hp, rfl⟩ := hb
            obtain ⟨m, hm⟩ := more p hp
            exact ⟨_, hm⟩
          · exact ⟨o, stay b o (fun p hp z => hb ⟨p, hp, z⟩) e⟩
  have all : ∀ H0 : Hp, ((∃ o, H0 a = some (.frz o (.lst (ns.map V.int)))) ∨ ∀ H' : Hp, SqL K H' a (ns.map V.int)) → (∀ b u, H0 b = some u → b = a ∧ K.lookup a = none ∧ u = .frz { cls := .type "list", data := .seq vs.toArray } (.lst (ns.map V.int))) →
      codeAny (model P w) callerA (.call (.ref fa) ⟨[.ref a], []⟩) (fun r s' => r = .ok (.ret (.bool true)) ∧ OldK s₁.heap s'.heap ∧ s'.os = s₁.os ∧ AllBare s'.gens) s₁ := by
    intro H0 hS hA
    open Classical in
    refine go (fun b => if ∃ p ∈ cs, b = p.2 then some (.tbl #[]) else H0 b) (fun p hp => if_pos ⟨p, hp, rfl⟩) ?_ (fun b u q => ?_) (fun b u q => ?_)
    · rcases hS with ⟨o, h⟩ | h
      · exact .inl ⟨o, (if_neg (fun ⟨p, hp, z⟩ => anT p hp z.symm)).trans h⟩
      · exact .inr h
    · by_cases hb : ∃ p ∈ cs, b = p.2
      · exact .inl hb
      · obtain ⟨h1, h2, h3⟩ := hA b u ((if_neg hb).symm.trans q)
        exact .inr ⟨h1, h2, _, _, h3⟩
    · by_cases hb : ∃ p ∈ cs, b = p.2
      · cases (if_pos hb).symm.trans q
        obtain ⟨p, hp, rfl⟩ := hb
        exact tE p hp
      · obtain ⟨h1, h2, h3⟩ := hA b u ((if_neg hb).symm.trans q)
        subst h1 h3
        exact ⟨la, by rw [List.length_map]; exact hfit, vs, _, vi, la⟩
  cases kl : K.lookup a with
  | some o =>
    have e := KX a o kl
    rw [la] at e
    cases e
    exact all (fun _ => none) (.inr fun H' => .inr ⟨_, vs.toArray, _, kl, rfl, rfl, rfl, by rw [List.size_toArray, li]; exact hfit, by simpa using vi⟩) fun b u z => by cases z
  | none =>
    refine all (fun b => if b = a then some (.frz { cls := .type "list", data := .seq vs.toArray } (.lst (ns.map V.int))) else none) (.inl ⟨_, if_pos rfl⟩) fun b u z => ?_
    by_cases hb : b = a
    · subst hb
      cases (if_pos rfl).symm.trans z
      exact ⟨rfl, kl, rfl⟩
    · cases (if_neg hb).symm.trans z
theorem walk_ofG {l : PySem.W.OpenLaw} {n k : Nat} {q : Program} {loose : List Str} {XP : (Str → Option Value) → Heap → Prop} {YP : World → Heap → Prop} {d : DefRec} {x : Str}
    (hn : l.most = some n) (hn2 : n ≤ sizeLine) (hdf : d.params.defaults = []) (hr : Room k callerA)
    (F : ∀ (w : World) (mg : Str → Option Value) (fa : Addr) (h : Heap), YP w h → h.Ns mainGlobals mg → mg d.name = some (.ref fa) →
      ∃ (K : PySem.W.Frag) (fd : FuncData) (cs : List (Addr × Addr)) (sp : Heap → Sp), K.In h ∧ (∀ p ∈ cs, h.get? p.2 = some { cls := .none, data := .fields #[] }) ∧ (∀ p ∈ cs, K.lookup p.2 = none) ∧ (∀ p ∈ cs, PySem.W.CodeHd h p.1 p.2) ∧ (∀ (s : Shared) (u : Value), BindsTo s fd ⟨[u], []⟩ [(x, u)]) ∧
        (∀ (base : Heap) (H : Hp) (a : Addr) (ns : List Int), ns.length ≤ n → (∀ p ∈ cs, H p.2 = some (.tbl #[])) → (∃ o, H a = some (.frz o (.lst (ns.map V.int)))) ∨ (∀ H' : Hp, SqL K H' a (ns.map V.int)) → sp base [.ref a] H (fun v _ => v = .bl true) fun _ _ _ => False) ∧
        ∀ base : Heap, K.In base → base.Ns mainGlobals mg → (∀ p ∈ cs, LamX.TabB base mg p.1 p.2) → FnG l.prog w K mg base k fa fd [x] (sp base)) :
    PySem.W.WalkO q loose XP YP l.row.toRowW d [] (fun f vs => PySem.call f vs) := by
  refine Att.attach_call hn hdf fun w s₀ s₁ mg mb fa o pm cd doc a vs ns G Y ho hd hcd hmg hobj hints hlen hg => ?_
  obtain ⟨K, fd, cs, sp, KX, hT, nT, hC, hb, hsp, hF⟩ := F w mg fa _ Y G.T.g hmg
  exact law_callG KX G.T.g G.T.b G.T.builtins G.T.nolimit hg hT nT hC G.T.bmain hobj hints (Nat.le_trans hlen hn2) hr hF hb fun base H hH hS => hsp base H a ns hlen hH hS
/-- from the evaluator's answer -/
theorem law_spG {P : Pg} {g : List D → Sto → Out D} {H : Hp} {a : Addr} {ns : List Int} (hx : P.hx = none) (hT : ∀ p ∈ P.T, H p.1 = some (.tbl #[])) (hS : (∃ o, H a = some (.frz o (.lst (ns.map V.int)))) ∨ (∀ H' : Hp, SqL P.K H' a (ns.map V.int))) {S' : Sto} (h : g [scr (ns.map .int)] [] = .ok (.bool true) S') :
    spG P g [.ref a] H (fun v _ => v = .bl true) fun _ _ _ => False := by
  have s : ScrAt ⟨[], [], ((P.K, P.cx), none)⟩ H a (ns.map V.int) := by
    rcases hS with ⟨o, h⟩ | h
    · exact .inl ⟨o, h, fun z => by rcases z with z | z <;> cases z⟩
    · exact .inr h
  refine ⟨⟨[], [], ((P.K, P.cx), none)⟩, [], [scr (ns.map .int)], ⟨by rw [hx], rfl, List.nodup_nil, fun a ha => (by cases ha), fun i a o h => by simp at h, fun p hp => LamX.TabS.nil (hT p hp)⟩, .cons (.scr s (Rvs.ofInts ns)) .nil, ?_⟩
  rw [h]
  intro M' H' v e em r
  cases r
  rfl
end PL
end

section
set_option Elab.async false
set_option linter.all false
set_option maxRecDepth 100000
set_option maxHeartbeats 2000000
/-! PLU: the law's table from the head's facts. -/
namespace PL
open PySem PySem.Spec PyProof.Rows L2
theorem look_mem {β : Type} {x : Str} {k : β} : ∀ {l : List (Str × β)}, l.lookup x = some k → (x, k) ∈ l
  | [], h => by cases h
  | (y, b) :: l, h => by
    rw [List.lookup_cons] at h
    split at h
    · rename_i e
      have e' : x = y := by simpa using e
      cases h
      rw [e']
      exact List.mem_cons_self
    · exact List.mem_cons_of_mem _ (look_mem h)
def isFree (x : Str) : He.Fa → Bool
  | .free y => decide (x = y)
  | _ => false
def isIntF (gi : Str → Option Int) (x : Str) : He.Fa → Bool
  | .int y i => decide (x = y) && decide (gi x = some i)
  | _ => false
def isStrF (z x : Str) : He.Fa → Bool
  | .str y w => decide (x = y) && decide (w = z)
  | _ => false
def isGlo (x : Str) : He.Fa → Bool
  | .glo y => decide (x = y)
  | _ => false
def isClF (x : Str) : He.Fa → Bool
  | .cls y => decide (x = y)
  | _ => false
def isMkF (x : Str) : He.Fa → Bool
  | .mkr y => decide (x = y)
  | _ => false
def isNoF (x f : Str) : He.Fa → Bool
  | .noat y g => decide (x = y) && decide (f = g)
  | _ => false
def isExF (x : Str) : He.Fa → Bool
  | .exc y => decide (x = y)
  | _ => false
def isMeF (x m : Str) : He.Fa → Bool
  | .meth y k => decide (x = y) && decide (m = k)
  | _ => false
def gtOk (gi : Str → Option Int) (gt : Gt) (fa : List He.Fa) : Bool := gt.all fun p => match p.2 with
  | .blt => fa.any (isFree p.1)
  | .int => fa.any (isIntF gi p.1)
  | .str z => fa.any (isStrF z p.1)
  | .fn => true
  | .fnD _ => true
  | .exc r => fa.any (isGlo p.1) && (!r || fa.any (isExF p.1))
  | .excA => fa.any (isGlo p.1)
  | .said => true
  | .cls fs ms => fa.any (isGlo p.1) && fa.any (isClF p.1) && fa.any (isMkF p.1) && fs.all (fun f => fa.any (isNoF p.1 f)) && ms.all (fun m => fa.any (isMeF p.1 m.1))
def pg (P : Program) (w : World) (K : PySem.W.Frag) (mg : Str → Option Value) (base : Heap) (gi : Str → Option Int) (gt : Gt := []) (tf : List He.Defn := []) : Pg := ⟨P, w, K, mg, base, tabs K tf, fun c => He.ga K c, gi, xsOf gt, xrOf gt, xaOf gt, none⟩
theorem excCB_ok {K : PySem.W.Frag} {D : Addr} (h : excCB K D = true) : ExcC K D := by
  unfold excCB at h
  simp only [Bool.and_eq_true, decide_eq_true_eq] at h
  obtain ⟨⟨⟨⟨⟨⟨⟨h1, h2⟩, h3⟩, h4⟩, h5⟩, h6⟩, h7⟩, h8⟩ := h
  exact ⟨h1, h2, h3, h4, h5, h6, h7, h8⟩
/-- the __init__ of a class whose exceptions keep a whole number -/
def ndB (b : List Stmt) (self pa : Str) : Bool := match b with
  | [.Expr (.Call (.Attribute (.Name c _) m q) [.Name s1 _, .Constant (.str _) _ _] [] r) _, .Assign [.Attribute (.Name s2 _) f _] (.Name a _) _] => decide (c = "ClubError") && (decide (m = "__init__") && (decide (s1 = self) && (decide (s2 = self) && (decide (f = "at") && (decide (a = pa) && (q.endLine == r.line))))))
  | _ => false
structure NdFact (K : PySem.W.Frag) (mg : Str → Option Value) (c : Str) : Prop where
  ex : ∃ (ql self pa : Str) (params : Arguments) (body : List Stmt) (scope : Scope) (fd : FuncData), FunD K "__init__" ql params body scope [] [] (He.ma K (He.ga K c) "__init__") fd ∧ ndB body self pa = true ∧ fnScB [self, pa] [self, pa] scope = true ∧ scope.names.lookup self = some .local ∧ scope.names.lookup pa = some .local ∧
    scope.names.lookup ("ClubError" : Str) = some .globalImplicit ∧ dbg self = true ∧ dbg pa = true ∧ Binds K fd [self, pa] [] ∧ mg "ClubError" = some (.ref (He.ga K "ClubError"))
theorem nd_of {P : Program} {w : World} {K : PySem.W.Frag} {mg : Str → Option Value} {base : Heap} {c : Str} (f : NdFact K mg c) (T : OexC K (He.ga K c)) (bi : BaseI K (He.ga K "ClubError")) (hno : PySem.W.findIn K (.ref (He.ga K c)) "at" = some none) :
    ∃ fd ps, FnOk P w K mg base C8.CX0 1 (He.ma K (He.ga K c) "__init__") fd ps (spA (He.ga K c)) ∧ Binds K fd ps [] := by
  obtain ⟨ql, self, pa, params, body, scope, fd, F, hb, sc, v1, v2, vg, d1, d2, bd, hm⟩ := f.ex
  unfold ndB at hb
  split at hb
  · rename_i c' p1 m q s1 p3 txt j p4 r p6 s2 p7 ff p8 a p9 p10
    simp only [Bool.and_eq_true, decide_eq_true_eq] at hb
    obtain ⟨rfl, rfl, rfl, e2, rfl, rfl, hl⟩ := hb
    subst e2
    obtain ⟨k1, k2, _⟩ := dbg_ok d1
    obtain ⟨j1, j2, _⟩ := dbg_ok d2
    exact ⟨fd, _, nd_init F (fnScB_ok sc) v1 v2 vg k1 k2 hl j1 j2 hm bi T hno, bd⟩
  · cases hb
section
variable {P : Program} {w : World} {K : PySem.W.Frag} {h base : Heap} {mg : Str → Option Value} {gi : Str → Option Int} {gt : Gt} {fns : Str → Option Fn} {fa : List He.Fa} {dl : List He.DefD} {tf : List He.Defn}
theorem any_fa {f : He.Fa → Bool} (h : fa.any f = true) : ∃ x ∈ fa, f x = true := List.any_eq_true.mp h
theorem tbl_of (X : K.In h) (G : h.Ns mainGlobals mg) (c : He.SaysD fa dl K) (more : exB gt tf K = true) (ok : gtOk gi gt fa = true) (hf : ∀ p ∈ gt, p.2 = .fn → ∃ F, fns p.1 = some F ∧ FnFact (pg P w K mg base gi gt tf) gt p.1 F)
    (hc : ∀ p ∈ gt, ∀ fs ms, p.2 = .cls fs ms → (∃ F, fns (p.1 ++ ".__init__") = some F ∧ FnAt (pg P w K mg base gi gt tf) gt F (He.ma K (He.ga K p.1) "__init__") []) ∧
      ∀ q ∈ ms, ∃ F, fns (p.1 ++ "." ++ q.1) = some F ∧ FnAt (pg P w K mg base gi gt tf) gt F (He.ma K (He.ga K p.1) q.1) q.2)
    (hs : ∀ p ∈ gt, p.2 = .said → SaidFact (pg P w K mg base gi gt tf) gt fns p.1) (hd : ∀ p ∈ gt, ∀ ds, p.2 = .fnD ds → ∃ F, fns p.1 = some F ∧ FnFactD (pg P w K mg base gi gt tf) gt p.1 F ds)
    (hxa : ∀ p ∈ gt, p.2 = .excA → NdFact K mg p.1) : Tbl (pg P w K mg base gi gt tf) gt fns := by
  have c0 : ∀ {f : He.Fa}, f ∈ fa → f.ok K = true := fun hm => c.facts hm
  unfold exB at more
  simp only [Bool.and_eq_true] at more
  obtain ⟨⟨⟨⟨more, moreX⟩, moreA⟩, moreT⟩, moreN⟩ := more
  have neF : ∀ c fs ms, gt.lookup c = some (.cls fs ms) → (PySem.W.findIn K (.ref (He.ga K c)) "__ne__" = some (some (.builtin "object.__ne__")) ∧ PySem.W.subIn K (.ref (He.ga K c)) (.type "object") = some true) ∧ PySem.W.subIn K (.ref (He.ga K c)) (.type "NoneType") = some false := fun c fs ms hx => by
    have q := List.all_eq_true.mp moreN _ (look_mem hx)
    simp only [Bool.and_eq_true, decide_eq_true_eq] at q
    exact q
  have xr : ∀ c ∈ xrOf gt, exK (xsOf gt) K c = true := List.all_eq_true.mp moreX
  have xr2 : ∀ c ∈ xrOf gt, excCB K (He.ga K c) = true ∧ (∀ d ∈ xsOf gt, PySem.W.kitOne K (.ref (He.ga K c)) (.ref (He.ga K d)) = some (xsub c d)) ∧ PySem.W.kitOne K (.ref (He.ga K c)) (.type "ValueError") = some true ∧ PySem.W.exmOne K (.ref (He.ga K c)) (.ref (He.ga K "ClubError")) = some true := fun c hc => by
    have q := xr c hc
    unfold exK at q
    simp only [Bool.and_eq_true, decide_eq_true_eq, List.all_eq_true] at q
    exact ⟨q.1.1.1, q.1.1.2, q.1.2, q.2⟩
  have exc_fa : ∀ c r, gt.lookup c = some (.exc r) → fa.any (isGlo c) = true ∧ (!r || fa.any (isExF c)) = true := fun c r hx => by
    have q := List.all_eq_true.mp ok _ (look_mem hx)
    exact Bool.and_eq_true_iff.mp q
  refine ⟨rfl, fun x hx => ?_, fun x hx => ?_, fun x z hx => ?_, fun x hx => hf (x, .fn) (look_mem hx) rfl, fun x fs ms hx => ?_, ⟨fun x fs ms hx t ht => ?_, fun x fs ms hx H l dx vfs hl => ?_, fun x fs ms hx => ?_, neF⟩, ⟨fun c r hx => ?_, fun c hc => excCB_ok (xr2 c hc).1, fun c hc d hd => (xr2 c hc).2.1 d hd, fun c hc => (xr2 c hc).2.2.1, fun c hc => (xr2 c hc).2.2.2, fun c hx => ?_, fun c hx => ?_, fun c hc => ?_, fun c hx => ?_⟩, fun x hx => hs (x, .said) (look_mem hx) rfl, fun x ds hx => hd (x, .fnD ds) (look_mem hx) ds rfl⟩
  · have q := List.all_eq_true.mp ok _ (look_mem hx)
    obtain ⟨f, hm, hf⟩ := List.any_eq_true.mp q
    cases f with
    | free y =>
      have e : x = y := by simpa [isFree] using hf
      subst e
      exact He.free_ok X G (c.facts hm)
    | _ => cases hf
  · have q := List.all_eq_true.mp ok _ (look_mem hx)
    obtain ⟨f, hm, hf⟩ := List.any_eq_true.mp q
    cases f with
    | int y i =>
      have e : x = y ∧ gi x = some i := by simpa [isIntF] using hf
      obtain ⟨rfl, e2⟩ := e
      obtain ⟨t, ht⟩ := He.int_ok X G (c.facts hm)
      exact ⟨i, t, ht, e2⟩
    | _ => cases hf
  · have q := List.all_eq_true.mp ok _ (look_mem hx)
    obtain ⟨f, hm, hf⟩ := List.any_eq_true.mp q
    cases f with
    | str y w =>
      have e : x = y ∧ w = z := by simpa [isStrF] using hf
      obtain ⟨rfl, rfl⟩ := e
      exact He.str_ok X G (c.facts hm)
    | _ => cases hf
  · have q := List.all_eq_true.mp ok _ (look_mem hx)
    simp only [Bool.and_eq_true] at q
    obtain ⟨⟨⟨⟨q1, q2⟩, q3⟩, q4⟩, q5⟩ := q
    have g1 : (He.Fa.glo x).ok K = true := by
      obtain ⟨f, hm, hf⟩ := any_fa q1
      cases f with
      | glo y => have e : x = y := by simpa [isGlo] using hf
                 rw [e]; exact c.facts hm
      | _ => cases hf
    have g2 : (He.Fa.cls x).ok K = true := by
      obtain ⟨f, hm, hf⟩ := any_fa q2
      cases f with
      | cls y => have e : x = y := by simpa [isClF] using hf
                 rw [e]; exact c.facts hm
      | _ => cases hf
    have g3 : (He.Fa.mkr x).ok K = true := by
      obtain ⟨f, hm, hf⟩ := any_fa q3
      cases f with
      | mkr y => have e : x = y := by simpa [isMkF] using hf
                 rw [e]; exact c.facts hm
      | _ => cases hf
    obtain ⟨⟨F, f1, f2⟩, f3⟩ := hc _ (look_mem hx) fs ms rfl
    refine ⟨He.glo_ok X G g1, (He.mkr_ok g3).kp, He.cls_ok g2, fun f hf => ?_, ⟨_, F, He.mkr_ok g3, f1, f2⟩, fun m ds hm => ?_⟩
    · obtain ⟨g, hm, hg⟩ := any_fa (List.all_eq_true.mp q4 f hf)
      cases g with
      | noat y k =>
        have e : x = y ∧ f = k := by simpa [isNoF] using hg
        obtain ⟨rfl, rfl⟩ := e
        exact He.noat_ok (c.facts hm)
      | _ => cases hg
    · have hmm := look_mem hm
      obtain ⟨g, hm2, hg⟩ := any_fa (List.all_eq_true.mp q5 _ hmm)
      cases g with
      | meth y k =>
        have e : x = y ∧ m = k := by simpa [isMeF] using hg
        obtain ⟨rfl, rfl⟩ := e
        obtain ⟨F, f1, f2⟩ := f3 _ hmm
        exact ⟨_, F, He.meth_ok (c.facts hm2), f1, f2⟩
      | _ => cases hg
  · have q := List.all_eq_true.mp more _ (look_mem hx)
    simp only [Bool.and_eq_true] at q
    exact of_decide_eq_true (List.all_eq_true.mp q.1.2 t ht)
  · have q := List.all_eq_true.mp more _ (look_mem hx)
    simp only [Bool.and_eq_true] at q
    have q1 := q.1.1
    unfold tyInsB at q1
    simp only [Bool.and_eq_true, decide_eq_true_eq] at q1
    have k := List.all_eq_true.mp ok _ (look_mem hx)
    simp only [Bool.and_eq_true] at k
    have g2 : (He.Fa.cls x).ok K = true := by
      obtain ⟨f, hm, hf⟩ := any_fa k.1.1.1.2
      cases f with
      | cls y => have e : x = y := by simpa [isClF] using hf
                 rw [e]; exact c.facts hm
      | _ => cases hf
    exact .base (.ins hl (He.cls_ok g2) q1.1.1.1 q1.1.1.2 q1.1.2 q1.2)
  · have q := List.all_eq_true.mp more _ (look_mem hx)
    simp only [Bool.and_eq_true] at q
    exact of_decide_eq_true q.2
  · obtain ⟨q1, q2⟩ := exc_fa c r hx
    obtain ⟨g, hm, hg⟩ := any_fa q1
    cases g with
    | glo y =>
      have e : c = y := by simpa [isGlo] using hg
      refine ⟨He.glo_ok X G (by rw [e]; exact c0 hm), List.mem_filterMap.mpr ⟨(c, .exc r), look_mem hx, rfl⟩, fun hr => ?_⟩
      subst hr
      exact List.mem_filterMap.mpr ⟨(c, .exc true), look_mem hx, rfl⟩
    | _ => cases hg
  · obtain ⟨q1, q2⟩ := exc_fa c true hx
    obtain ⟨g, hm, hg⟩ := any_fa (show fa.any (isExF c) = true from q2)
    cases g with
    | exc y =>
      have e : c = y := by simpa [isExF] using hg
      subst e
      exact He.exc_ok (c0 hm)
    | _ => cases hg
  · have q := List.all_eq_true.mp ok _ (look_mem hx)
    obtain ⟨g, hm, hg⟩ := any_fa (show fa.any (isGlo c) = true from q)
    cases g with
    | glo y =>
      have e : c = y := by simpa [isGlo] using hg
      exact ⟨He.glo_ok X G (by rw [e]; exact c0 hm), List.mem_filterMap.mpr ⟨(c, .excA), look_mem hx, rfl⟩, List.mem_filterMap.mpr ⟨(c, .excA), look_mem hx, rfl⟩, List.mem_filterMap.mpr ⟨(c, .excA), look_mem hx, rfl⟩⟩
    | _ => cases hg
  · have q := List.all_eq_true.mp moreA c hc
    unfold xaK at q
    simp only [Bool.and_eq_true, decide_eq_true_eq] at q
    exact ⟨xfB_ok q.2.1, q.2.2.1⟩
  · have q := List.all_eq_true.mp moreA c (List.mem_filterMap.mpr ⟨(c, .excA), look_mem hx, rfl⟩)
    unfold xaK at q
    simp only [Bool.and_eq_true, decide_eq_true_eq] at q
    obtain ⟨fd, ps, h1, h2⟩ := nd_of (P := P) (w := w) (base := base) (hxa _ (look_mem hx) rfl) (oexB_ok q.1) (baseIB_ok q.2.2.2.2.2) q.2.2.1
    exact ⟨oexB_ok q.1, _, fd, ps, q.2.2.2.1, q.2.2.2.2.1, h1, h2⟩
/-- a def in which lambdas are made -/
theorem lamFd_of {x : Str} {fd : FuncData} {params : Arguments} {body : List Stmt} {scope : Scope} (fu : FunD K x x params body scope [] [] (He.fAd K (x, none)) fd) (more : exB gt tf K = true) (hx : (x, none) ∈ tf) (tb : ∀ p ∈ tf.map (He.cT K), LamX.TabB base mg p.1 p.2) : LamFd (pg P w K mg base gi gt tf) fd x := by
  unfold exB at more
  simp only [Bool.and_eq_true] at more
  have d := more.1.2
  unfold tabsDist at d
  obtain ⟨oc, od, dV, kV, doc, pm, an, cdv, ct, osl, rfl, lk, hcd, _, _⟩ := fu.ex
  obtain ⟨c, rfl⟩ := He.codeIn_ref hcd
  have q : (He.cT K (x, none)).1 = c := He.codeOf_eq lk rfl
  have m : ((He.cT K (x, none)).2, qlam x) ∈ tabs K tf := List.mem_map.mpr ⟨(x, none), hx, rfl⟩
  have t := tb _ (List.mem_map.mpr ⟨(x, none), hx, rfl⟩)
  rw [q] at t
  refine ⟨c, (He.cT K (x, none)).2, rfl, t, m, fun r hr e => ?_⟩
  have z := List.all_eq_true.mp (List.all_eq_true.mp d _ m) r hr
  rw [Bool.or_eq_true] at z
  rcases z with z | z
  · rw [Bool.not_eq_true', decide_eq_false_iff_not] at z
    exact absurd e z
  · exact of_decide_eq_true z
def saidB (b : List Stmt) (av ev : Str) : Bool := match b with
  | [.Try [.Return (some (.Call (.Name r _) [.Call (.Name a _) [] [] _] [] _)) _] [.ExceptHandler (some (.Name c _)) (some e) [.Return (some (.Call (.Name w _) [.Name e2 _] [] _)) _] _] [] [] _] => decide (r = "repr") && decide (a = av) && decide (c = "ClubError") && decide (e = ev) && decide (w = "_law_word") && decide (e2 = ev)
  | _ => false
theorem saidB_ok {b : List Stmt} {av ev : Str} (h : saidB b av ev = true) : ∃ (p0 p1 p2 p3 p4 p5 p6 p7 p8 p9 p10 p11 : Pos), b = [.Try [.Return (some (.Call (.Name "repr" p0) [.Call (.Name av p1) [] [] p2] [] p3)) p4] [.ExceptHandler (some (.Name "ClubError" p5)) (some ev) [.Return (some (.Call (.Name "_law_word" p6) [.Name ev p7] [] p8)) p9] p10] [] [] p11] := by
  unfold saidB at h
  split at h
  · simp only [Bool.and_eq_true, decide_eq_true_eq] at h
    obtain ⟨⟨⟨⟨⟨h1, h2⟩, h3⟩, h4⟩, h5⟩, h6⟩ := h
    subst h1 h2 h3 h5
    subst h4
    subst h6
    exact ⟨_, _, _, _, _, _, _, _, _, _, _, _, rfl⟩
  · cases h
/-- the def that tells, from its facts -/
theorem said_fact {av ev : Str} {fdS fdW : FuncData} {paramsS paramsW : Arguments} {bodyS bodyW : List Stmt} {scS scW : Scope} {gtw : Gt} {F : Fn} {N ps : List Str} (X : K.In h) (G : h.Ns mainGlobals mg)
    (gl : ∀ x ∈ (["_law_said", "ClubError", "_law_word"] : List Str), (He.Fa.glo x).ok K = true) (rp : (He.Fa.free "repr").ok K = true)
    (fu : FunD K "_law_said" "_law_said" paramsS bodyS scS [] [] (He.ga K "_law_said") fdS) (hb : saidB bodyS av ev = true) (bi : Binds K fdS [av] []) (sc : fnScB [av, ev] [av] scS = true)
    (l1 : scS.names.lookup av = some .local) (l2 : scS.names.lookup ev = some .local) (d1 : dbg av = true) (d2 : dbg ev = true) (g1 : scS.names.lookup ("repr" : Str) = some .globalImplicit) (g2 : scS.names.lookup ("ClubError" : Str) = some .globalImplicit) (g3 : scS.names.lookup ("_law_word" : Str) = some .globalImplicit)
    (hot : hotGt gt gtw = true) (hF : fns "_law_word" = some F) (fuW : FunD K "_law_word" "_law_word" paramsW bodyW scW [] [] (He.ga K "_law_word") fdW) (scw : fnScB N ps scW = true) (biW : Binds K fdW ps []) (hl : ps.length = 1) (hp : F.np = ps.length) (hn : F.nn = N.length)
    (hc : chkSs gtw F.body (Fn.ga N scW false true) bodyW = true) : SaidFact (pg P w K mg base gi gt tf) gt fns "_law_said" := by
  obtain ⟨p0, p1, p2, p3, p4, p5, p6, p7, p8, p9, p10, p11, rfl⟩ := saidB_ok hb
  refine ⟨⟨_, fdS, _, av, ev, paramsS, scS, p0, p1, p2, p3, p4, p5, p6, p7, p8, p9, p10, p11, He.glo_ok X G (gl _ (by simp)), fu, bi, sc, rfl, l1, l2, d1, d2, g1, g2, g3, He.free_ok X G rp, He.glo_ok X G (gl _ (by simp))⟩, ⟨gtw, F, _, fdW, N, ps, paramsW, bodyW, scW, hot, hF, He.glo_ok X G (gl _ (by simp)), fuW, scw, biW, hl, hp, hn, hc⟩⟩
theorem law_fn {P : Pg} {gt : Gt} {fns : Str → Option Fn} (T : Tbl P gt fns) (n : Nat) {F : Fn} {x : Str} {fa : Addr} {fd : FuncData} {N ps : List Str} {params : Arguments} {body : List Stmt} {scope : Scope} (hF : fns x = some F) (fu : FunD P.K x x params body scope [] [] fa fd) (sc : fnScB N ps scope = true)
    (hp : F.np = ps.length) (hn : F.nn = N.length) (hc : chkSs gt F.body (Fn.ga N scope F.sd) body = true) (hl : F.sd = true → LamFd P fd x) : FnG P.prog P.w P.K P.mg P.base (4 * (n + 1) + 1) fa fd ps (spG P (callS P.gi fns (n + 1) x)) := by
  rw [callS_eq hF]
  exact fn_ofG T.hx (cg_of T n) fu sc hp hn hc hl
end
end PL
end

section

end

section
set_option Elab.async false
set_option linter.all false
set_option maxRecDepth 100000
set_option maxHeartbeats 0
namespace K10
open PySem PySem.W PySem.Spec PyProof.Rows L2 PL
def f_is_whole : Fn := { np := 1, nn := 1, md := .pure, body := [.ret (.and (.isi (.var 0) .int) (.not (.isi (.var 0) .bool)))] }
def f_is_from_to : Fn := { np := 3, nn := 3, md := .pure, body := [.ret (.and (.call "is_whole" [.var 0]) (.ch .le .le (.var 1) (.var 0) (.var 2)))] }
def f_is_day : Fn := { np := 1, nn := 1, md := .pure, body := [.ret (.call "is_from_to" [.var 0, .int 0, .op .sub (.gint "MOST_DAYS") (.int 1)])] }
def f_is_hour : Fn := { np := 1, nn := 1, md := .pure, body := [.ret (.call "is_from_to" [.var 0, .int 0, .op .sub (.gint "MOST_HOURS") (.int 1)])] }
def f_is_person : Fn := { np := 1, nn := 1, md := .pure, body := [.ret (.call "is_from_to" [.var 0, .int 0, .op .sub (.gint "MOST_PERSONS") (.int 1)])] }
def f_are_rising : Fn := { np := 1, nn := 3, md := .pure, body := [.ret (.bi .all [.comp false (.cm .lt (.var 1) (.var 2)) [1, 2] (.tup [.name 1, .name 2]) (.zip (.var 0) (.sl (.var 0) (some (.int 1)) none)) none])] }
def f_is_lesson : Fn := { np := 1, nn := 1, md := .pure, body := [.ite (.or (.not (.isi (.var 0) .tuple)) (.or (.cm .ne (.bi .len [.var 0]) (.int 3)) (.not (.call "is_day" [.ix (.var 0) (.int 0)])))) [.ret (.bl false)] [],
  .ret (.and (.call "is_from_to" [.ix (.var 0) (.int 1), .int 1, .gint "MOST_PLACES"]) (.call "is_from_to" [.ix (.var 0) (.int 2), .int 0, .gint "MOST_HOURS"]))] }
def f_is_party : Fn := { np := 1, nn := 2, md := .pure, body := [.ite (.or (.not (.isi (.var 0) .tuple)) (.not (.ch .le .le (.int 1) (.bi .len [.var 0]) (.gint "MOST_PARTY")))) [.ret (.bl false)] [],
  .ret (.and (.bi .all [.comp false (.call "is_person" [.var 1]) [1] (.name 1) (.seq (.var 0)) none]) (.call "are_rising" [.var 0]))] }
def f_is_deed : Fn := { np := 1, nn := 1, md := .pure, body := [.ite (.or (.not (.isi (.var 0) .tuple)) (.or (.cm .ne (.bi .len [.var 0]) (.int 3)) (.or (.not (.call "is_hour" [.ix (.var 0) (.int 0)])) (.not (.isi (.ix (.var 0) (.int 1)) .str))))) [.ret (.bl false)] [],
  .ite (.cm .eq (.ix (.var 0) (.int 1)) (.str "leave")) [.ret (.call "is_person" [.ix (.var 0) (.int 2)])] [],
  .ret (.and (.cm .eq (.ix (.var 0) (.int 1)) (.str "wish")) (.call "is_party" [.ix (.var 0) (.int 2)]))] }
def f_is_book : Fn := { np := 1, nn := 2, md := .pure, body := [.ite (.or (.not (.isi (.var 0) .tuple)) (.or (.cm .gt (.bi .len [.var 0]) (.gint "MOST_DEEDS")) (.not (.bi .all [.comp false (.call "is_deed" [.var 1]) [1] (.name 1) (.seq (.var 0)) none])))) [.ret (.bl false)] [],
  .ret (.call "are_rising" [.var 0])] }
def f_need_lesson : Fn := { np := 1, nn := 1, md := .pure, body := [.ite (.not (.call "is_lesson" [.var 0])) [.raise "NoLesson" []] []] }
def f_Row___init__ : Fn := { np := 2, nn := 2, md := .trunc, body := [.asg (.fld (.var 0) "Row" "places") (.ix (.var 1) (.int 1)),
  .asg (.fld (.var 0) "Row" "in_time") (.op .sub (.gint "MOST_HOURS") (.ix (.var 1) (.int 2))),
  .asg (.fld (.var 0) "Row" "inside") (.lst true []),
  .asg (.fld (.var 0) "Row" "waiting") (.lst true []),
  .asg (.fld (.var 0) "Row" "gone") (.lst true []),
  .asg (.fld (.var 0) "Row" "came_in") (.lst true [])] }
def f_Row_free : Fn := { np := 1, nn := 1, md := .pure, body := [.ret (.op .sub (.op .sub (.fld (.var 0) "Row" "places") (.bi .len [.fld (.var 0) "Row" "inside"])) (.bi .len [.fld (.var 0) "Row" "gone"]))] }
def f_Row_party_of : Fn := { np := 2, nn := 3, md := .pure, body := [.for_ (.name 2) (.seq (.fld (.var 0) "Row" "waiting")) [.ite (.cm .in_ (.var 1) (.var 2)) [.ret (.var 2)] []],
  .ret (.non)] }
def f_Row_is_known : Fn := { np := 2, nn := 2, md := .pure, body := [.ret (.or (.cm .in_ (.var 1) (.fld (.var 0) "Row" "inside")) (.or (.cm .in_ (.var 1) (.fld (.var 0) "Row" "gone")) (.isN true (.meth (.var 0) "Row" "party_of" [.var 1]))))] }
def f_Row_can : Fn := { np := 2, nn := 3, md := .pure, body := [.ite (.cm .eq (.ix (.var 1) (.int 1)) (.str "wish")) [.ret (.not (.bi .any [.comp false (.meth (.var 0) "Row" "is_known" [.var 2]) [2] (.name 2) (.seq (.ix (.var 1) (.int 2))) none]))] [],
  .ret (.or (.cm .in_ (.ix (.var 1) (.int 2)) (.fld (.var 0) "Row" "inside")) (.isN true (.meth (.var 0) "Row" "party_of" [.ix (.var 1) (.int 2)])))] }
def f_Row_come_in : Fn := { np := 3, nn := 3, md := .trunc, body := [.expr (.bm (.fld (.var 0) "Row" "inside") .extend [.var 2]),
  .expr (.bm (.fld (.var 0) "Row" "came_in") .append [.tup [.var 1, .var 2]])] }
def f_Row_move_on : Fn := { np := 2, nn := 4, md := .trunc, body := [.asg (.name 2) (.lst true []),
  .for_ (.name 3) (.seq (.fld (.var 0) "Row" "waiting")) [.ite (.cm .le (.bi .len [.var 3]) (.meth (.var 0) "Row" "free" [])) [.expr (.meth (.var 0) "Row" "come_in" [.var 1, .var 3])] [.expr (.bm (.var 2) .append [.var 3])]],
  .asg (.fld (.var 0) "Row" "waiting") (.var 2)] }
def f_Row_wish : Fn := { np := 3, nn := 3, md := .trunc, body := [.ite (.cm .le (.bi .len [.var 2]) (.meth (.var 0) "Row" "free" [])) [.expr (.meth (.var 0) "Row" "come_in" [.var 1, .var 2])] [.expr (.bm (.fld (.var 0) "Row" "waiting") .append [.var 2])]] }
def f_Row_leave : Fn := { np := 3, nn := 4, md := .trunc, body := [.asg (.name 3) (.meth (.var 0) "Row" "party_of" [.var 2]),
  .ite (.isN true (.var 3)) [.expr (.bm (.fld (.var 0) "Row" "waiting") .remove [.var 3]),
  .retN] [],
  .expr (.bm (.fld (.var 0) "Row" "inside") .remove [.var 2]),
  .ite (.cm .le (.var 1) (.fld (.var 0) "Row" "in_time")) [.expr (.meth (.var 0) "Row" "move_on" [.var 1])] [.expr (.bm (.fld (.var 0) "Row" "gone") .append [.var 2])]] }
def f_Row_do : Fn := { np := 2, nn := 2, md := .trunc, body := [.ite (.cm .eq (.ix (.var 1) (.int 1)) (.str "wish")) [.expr (.meth (.var 0) "Row" "wish" [.ix (.var 1) (.int 0), .ix (.var 1) (.int 2)])] [.expr (.meth (.var 0) "Row" "leave" [.ix (.var 1) (.int 0), .ix (.var 1) (.int 2)])]] }
def f_row_by : Fn := { np := 3, nn := 6, md := .trunc, body := [.asg (.name 3) (.new "Row" [.var 0]),
  .for_ (.tup [.name 4, .name 5]) (.enum (.var 1)) [.ite (.cm .le (.ix (.var 5) (.int 0)) (.var 2)) [.ite (.not (.meth (.var 3) "Row" "can" [.var 5])) [.ret (.tup [.var 3, .var 4])] [],
  .expr (.meth (.var 3) "Row" "do" [.var 5])] []],
  .ret (.tup [.var 3, .non])] }
def f_wrong_at : Fn := { np := 2, nn := 2, md := .trunc, body := [.ret (.ix (.call "row_by" [.var 0, .var 1, .gint "MOST_HOURS"]) (.int 1))] }
def f_first_wrong : Fn := { np := 2, nn := 2, md := .trunc, body := [.expr (.call "need_lesson" [.var 0]),
  .ite (.not (.call "is_book" [.var 1])) [.raise "NoBook" []] [],
  .ret (.call "wrong_at" [.var 0, .var 1])] }
def f_need_done : Fn := { np := 2, nn := 2, md := .trunc, body := [.ite (.isN true (.call "first_wrong" [.var 0, .var 1])) [.raise "NoBook" []] []] }
def f_last_ones : Fn := { np := 2, nn := 3, md := .trunc, body := [.asg (.name 2) (.ix (.call "row_by" [.var 0, .var 1, .gint "MOST_HOURS"]) (.int 0)),
  .ret (.bi .tuple [.bi (.sorted false) [.op .add (.fld (.var 2) "Row" "inside") (.fld (.var 2) "Row" "gone")]])] }
def f_at_last : Fn := { np := 2, nn := 2, md := .trunc, body := [.expr (.call "need_done" [.var 0, .var 1]),
  .ret (.call "last_ones" [.var 0, .var 1])] }
def f__law_box : Fn := { np := 2, nn := 3, md := .keep, body := [.asg (.name 2) (.op .add (.op .mul (.int 6151) (.var 1)) (.int 29)),
  .ite (.cm .lt (.var 1) (.bi .len [.var 0])) [.asg (.name 2) (.ix (.var 0) (.var 1))] [],
  .ite (.cm .eq (.op .mod (.var 2) (.int 2)) (.int 0)) [.ret (.lst true [.op .fdiv (.bi .abs [.var 2]) (.int 2), .op .add (.op .add (.op .mod (.var 2) (.int 1000003)) (.op .mul (.int 7919) (.var 1))) (.int 1)])] [],
  .ret (.lst true [.int 0, .op .add (.op .add (.op .mod (.var 2) (.int 2147483563)) (.op .mul (.int 7919) (.var 1))) (.int 1)])] }
def f__law_take : Fn := { np := 2, nn := 4, md := .trunc, body := [.ite (.cm .gt (.ix (.var 0) (.int 0)) (.int 0)) [.asg (.tup [.sub (.var 0) (.int 0), .name 3]) (.bi .divmod [.ix (.var 0) (.int 0), .var 1]),
  .ret (.var 3)] [],
  .asg (.sub (.var 0) (.int 1)) (.op .mod (.op .add (.op .mul (.ix (.var 0) (.int 1)) (.int 48271)) (.int 11)) (.int 2147483647)),
  .asg (.name 2) (.op .add (.op .fdiv (.ix (.var 0) (.int 1)) (.int 1009)) (.int 1)),
  .ret (.op .mod (.op .fdiv (.op .mod (.op .mul (.op .mul (.var 2) (.var 2)) (.var 2)) (.int 2147483629)) (.int 61)) (.var 1))] }
def f__law_word : Fn := { np := 1, nn := 3, md := .pure, body := [.asg (.name 1) (.lst true [.isi (.var 0) (.exc "NoLesson"), .isi (.var 0) (.exc "NoBook"), .isi (.var 0) (.exc "NoParty"), .isi (.var 0) (.exc "NoPerson")]),
  .asg (.name 1) (.cat (.var 1) (.lst false [.isi (.var 0) (.exc "NoDay"), .isi (.var 0) (.exc "NoHour"), .isi (.var 0) (.exc "NoCard"), .isi (.var 0) (.exc "NoCards")])),
  .asg (.name 1) (.cat (.var 1) (.lst false [.isi (.var 0) (.exc "NoComings"), .isi (.var 0) (.exc "NoNumber"), .isi (.var 0) (.exc "Gone"), .isi (.var 0) (.exc "Off")])),
  .asg (.name 1) (.cat (.var 1) (.lst false [.isi (.var 0) (.exc "There"), .isi (.var 0) (.exc "TooMany"), .isi (.var 0) (.exc "NoDeed"), .isi (.var 0) (.exc "NoText")])),
  .expr (.bm (.var 1) .append [.isi (.var 0) (.exc "NotDone")]),
  .asg (.name 2) (.lst false [.str "lesson", .str "book", .str "party", .str "person", .str "day", .str "hour", .str "card", .str "cards", .str "comings", .str "number", .str "gone", .str "off"]),
  .ite (.or (.not (.isi (.var 0) (.exc "ValueError"))) (.cm .ne (.bm (.var 1) .count [.bl true]) (.int 1))) [.ret (.str "! none of them")] [],
  .ite (.ix (.var 1) (.int 16)) [.ret (.op .add (.str "! not done ") (.rpi (.xat (.var 0))))] [],
  .ret (.op .add (.str "! ") (.ix (.op .add (.var 2) (.lst false [.str "there", .str "many", .str "deed", .str "text"])) (.bm (.var 1) .index [.bl true])))] }
def f_law : Fn := { np := 1, nn := 13, md := .pure, sd := true, body := [.asg (.name 1) (.str " !\"#$&'()*+,-./0123456789:;<=>?@ABCDEFGHIJKLMNOPQRSTUVWXYZ[\\]^_`abcdefghijklmnopqrstuvwxyz{|}~
"),
  .asg (.name 2) (.lst false [.str "lesson", .str "book", .str "party", .str "person", .str "day", .str "hour", .str "card", .str "cards", .str "comings", .str "number", .str "gone", .str "off"]),
  .asg (.name 2) (.op .add (.var 2) (.lst false [.str "there", .str "many", .str "deed", .str "text"])),
  .for_ (.name 3) (.range (.bi .max2 [.int 1, .bi .min2 [.bi .len [.var 0], .int 4]])) [.asg (.name 4) (.call "_law_box" [.var 0, .var 3]),
  .asg (.name 5) (.bm (.str "") .join [.comp false (.ix (.var 1) (.call "_law_take" [.var 4, .bi .len [.var 1]])) [12] (.name 12) (.range (.call "_law_take" [.var 4, .int 11])) none]),
  .asg (.name 6) (.lst false [.mkx "NoLesson" (.var 5), .mkx "NoBook" (.var 5), .mkx "NoParty" (.var 5), .mkx "NoPerson" (.var 5), .mkx "NoDay" (.var 5), .mkx "NoHour" (.var 5), .mkx "NoCard" (.var 5)]),
  .asg (.name 6) (.op .add (.var 6) (.lst false [.mkx "NoCards" (.var 5), .mkx "NoComings" (.var 5), .mkx "NoNumber" (.var 5), .mkx "Gone" (.var 5), .mkx "Off" (.var 5), .mkx "There" (.var 5)])),
  .for_ (.tup [.name 8, .name 9]) (.zip (.var 2) (.op .add (.var 6) (.lst false [.mkx "TooMany" (.var 5), .mkx "NoDeed" (.var 5), .mkx "NoText" (.var 5)]))) [.ite (.or (.cm .ne (.calA "_law_word" [.var 9]) (.op .add (.str "! ") (.var 8))) (.not (.isi (.var 9) (.exc "ClubError")))) [.ret (.bl false)] []],
  .asg (.name 7) (.call "_law_take" [.var 4, .int 24]),
  .asg (.tup [.name 10, .name 11]) (.tup [.mkxA "NotDone" (.var 7), .mkx "ClubError" (.var 5)]),
  .ite (.or (.cm .ne (.calA "_law_word" [.var 10]) (.op .add (.str "! not done ") (.bi .str [.var 7]))) (.not (.isi (.var 10) (.exc "ClubError")))) [.ret (.bl false)] [],
  .ite (.or (.cm .ne (.calA "_law_word" [.var 11]) (.str "! none of them")) (.not (.isi (.var 11) (.exc "ValueError")))) [.ret (.bl false)] [],
  .ite (.cm .ne (.said (.call "at_last" [.var 5, .tup []])) (.str "! lesson")) [.ret (.bl false)] []],
  .ret (.bl true)] }
def fns : Str → Option Fn := fun x =>
  if x = "is_whole" then some f_is_whole
  else if x = "is_from_to" then some f_is_from_to
  else if x = "is_day" then some f_is_day
  else if x = "is_hour" then some f_is_hour
  else if x = "is_person" then some f_is_person
  else if x = "are_rising" then some f_are_rising
  else if x = "is_lesson" then some f_is_lesson
  else if x = "is_party" then some f_is_party
  else if x = "is_deed" then some f_is_deed
  else if x = "is_book" then some f_is_book
  else if x = "need_lesson" then some f_need_lesson
  else if x = "Row.__init__" then some f_Row___init__
  else if x = "Row.free" then some f_Row_free
  else if x = "Row.party_of" then some f_Row_party_of
  else if x = "Row.is_known" then some f_Row_is_known
  else if x = "Row.can" then some f_Row_can
  else if x = "Row.come_in" then some f_Row_come_in
  else if x = "Row.move_on" then some f_Row_move_on
  else if x = "Row.wish" then some f_Row_wish
  else if x = "Row.leave" then some f_Row_leave
  else if x = "Row.do" then some f_Row_do
  else if x = "row_by" then some f_row_by
  else if x = "wrong_at" then some f_wrong_at
  else if x = "first_wrong" then some f_first_wrong
  else if x = "need_done" then some f_need_done
  else if x = "last_ones" then some f_last_ones
  else if x = "at_last" then some f_at_last
  else if x = "_law_box" then some f__law_box
  else if x = "_law_take" then some f__law_take
  else if x = "_law_word" then some f__law_word
  else if x = "law" then some f_law
  else none
def gi : Str → Option Int := fun x =>
  if x = "MOST_DAYS" then some 60 else if x = "MOST_DEEDS" then some 24 else if x = "MOST_HOURS" then some 100 else if x = "MOST_PARTY" then some 3 else if x = "MOST_PERSONS" then some 10 else if x = "MOST_PLACES" then some 6 else none
end K10
end

section
set_option Elab.async false
set_option linter.all false
set_option maxRecDepth 100000
set_option maxHeartbeats 0
namespace K10
open PySem PySem.W PySem.Spec PyProof.Rows L2 PL
def n_is_whole : List Str := ["thing"]
def p_is_whole : List Str := ["thing"]
theorem s_is_whole : fnScB n_is_whole p_is_whole (defScope (top 27)) = true := by decide +kernel
theorem c_is_whole : chkSs gt f_is_whole.body (Fn.ga n_is_whole (defScope (top 27)) f_is_whole.sd) (defBody (top 27)) = true := by decide +kernel
def n_is_from_to : List Str := ["thing", "least", "most"]
def p_is_from_to : List Str := ["thing", "least", "most"]
theorem s_is_from_to : fnScB n_is_from_to p_is_from_to (defScope (top 28)) = true := by decide +kernel
theorem c_is_from_to : chkSs gt f_is_from_to.body (Fn.ga n_is_from_to (defScope (top 28)) f_is_from_to.sd) (defBody (top 28)) = true := by decide +kernel
def n_is_day : List Str := ["thing"]
def p_is_day : List Str := ["thing"]
theorem s_is_day : fnScB n_is_day p_is_day (defScope (top 29)) = true := by decide +kernel
theorem c_is_day : chkSs gt f_is_day.body (Fn.ga n_is_day (defScope (top 29)) f_is_day.sd) (defBody (top 29)) = true := by decide +kernel
def n_is_hour : List Str := ["thing"]
def p_is_hour : List Str := ["thing"]
theorem s_is_hour : fnScB n_is_hour p_is_hour (defScope (top 30)) = true := by decide +kernel
theorem c_is_hour : chkSs gt f_is_hour.body (Fn.ga n_is_hour (defScope (top 30)) f_is_hour.sd) (defBody (top 30)) = true := by decide +kernel
def n_is_person : List Str := ["thing"]
def p_is_person : List Str := ["thing"]
theorem s_is_person : fnScB n_is_person p_is_person (defScope (top 31)) = true := by decide +kernel
theorem c_is_person : chkSs gt f_is_person.body (Fn.ga n_is_person (defScope (top 31)) f_is_person.sd) (defBody (top 31)) = true := by decide +kernel
def n_are_rising : List Str := ["row", "one", "other"]
def p_are_rising : List Str := ["row"]
theorem s_are_rising : fnScB n_are_rising p_are_rising (defScope (top 32)) = true := by decide +kernel
theorem c_are_rising : chkSs gt f_are_rising.body (Fn.ga n_are_rising (defScope (top 32)) f_are_rising.sd) (defBody (top 32)) = true := by decide +kernel
def n_is_lesson : List Str := ["thing"]
def p_is_lesson : List Str := ["thing"]
theorem s_is_lesson : fnScB n_is_lesson p_is_lesson (defScope (top 33)) = true := by decide +kernel
theorem c_is_lesson : chkSs gt f_is_lesson.body (Fn.ga n_is_lesson (defScope (top 33)) f_is_lesson.sd) (defBody (top 33)) = true := by decide +kernel
def n_is_party : List Str := ["thing", "person"]
def p_is_party : List Str := ["thing"]
theorem s_is_party : fnScB n_is_party p_is_party (defScope (top 34)) = true := by decide +kernel
theorem c_is_party : chkSs gt f_is_party.body (Fn.ga n_is_party (defScope (top 34)) f_is_party.sd) (defBody (top 34)) = true := by decide +kernel
def n_is_deed : List Str := ["thing"]
def p_is_deed : List Str := ["thing"]
theorem s_is_deed : fnScB n_is_deed p_is_deed (defScope (top 35)) = true := by decide +kernel
theorem c_is_deed : chkSs gt f_is_deed.body (Fn.ga n_is_deed (defScope (top 35)) f_is_deed.sd) (defBody (top 35)) = true := by decide +kernel
def n_is_book : List Str := ["thing", "deed"]
def p_is_book : List Str := ["thing"]
theorem s_is_book : fnScB n_is_book p_is_book (defScope (top 36)) = true := by decide +kernel
theorem c_is_book : chkSs gt f_is_book.body (Fn.ga n_is_book (defScope (top 36)) f_is_book.sd) (defBody (top 36)) = true := by decide +kernel
def n_need_lesson : List Str := ["thing"]
def p_need_lesson : List Str := ["thing"]
theorem s_need_lesson : fnScB n_need_lesson p_need_lesson (defScope (top 37)) = true := by decide +kernel
theorem c_need_lesson : chkSs gt f_need_lesson.body (Fn.ga n_need_lesson (defScope (top 37)) f_need_lesson.sd) (defBody (top 37)) = true := by decide +kernel
def n_Row___init__ : List Str := ["self", "lesson"]
def p_Row___init__ : List Str := ["self", "lesson"]
theorem s_Row___init__ : fnScB n_Row___init__ p_Row___init__ (defScope (mt 38 0)) = true := by decide +kernel
theorem c_Row___init__ : chkSs gt f_Row___init__.body (Fn.ga n_Row___init__ (defScope (mt 38 0)) f_Row___init__.sd) (defBody (mt 38 0)) = true := by decide +kernel
def n_Row_free : List Str := ["self"]
def p_Row_free : List Str := ["self"]
theorem s_Row_free : fnScB n_Row_free p_Row_free (defScope (mt 38 1)) = true := by decide +kernel
theorem c_Row_free : chkSs gt f_Row_free.body (Fn.ga n_Row_free (defScope (mt 38 1)) f_Row_free.sd) (defBody (mt 38 1)) = true := by decide +kernel
def n_Row_party_of : List Str := ["self", "person", "party"]
def p_Row_party_of : List Str := ["self", "person"]
theorem s_Row_party_of : fnScB n_Row_party_of p_Row_party_of (defScope (mt 38 2)) = true := by decide +kernel
theorem c_Row_party_of : chkSs gt f_Row_party_of.body (Fn.ga n_Row_party_of (defScope (mt 38 2)) f_Row_party_of.sd) (defBody (mt 38 2)) = true := by decide +kernel
def n_Row_is_known : List Str := ["self", "person"]
def p_Row_is_known : List Str := ["self", "person"]
theorem s_Row_is_known : fnScB n_Row_is_known p_Row_is_known (defScope (mt 38 3)) = true := by decide +kernel
theorem c_Row_is_known : chkSs gt f_Row_is_known.body (Fn.ga n_Row_is_known (defScope (mt 38 3)) f_Row_is_known.sd) (defBody (mt 38 3)) = true := by decide +kernel
def n_Row_can : List Str := ["self", "deed", "person"]
def p_Row_can : List Str := ["self", "deed"]
theorem s_Row_can : fnScB n_Row_can p_Row_can (defScope (mt 38 4)) = true := by decide +kernel
theorem c_Row_can : chkSs gt f_Row_can.body (Fn.ga n_Row_can (defScope (mt 38 4)) f_Row_can.sd) (defBody (mt 38 4)) = true := by decide +kernel
def n_Row_come_in : List Str := ["self", "hour", "party"]
def p_Row_come_in : List Str := ["self", "hour", "party"]
theorem s_Row_come_in : fnScB n_Row_come_in p_Row_come_in (defScope (mt 38 5)) = true := by decide +kernel
theorem c_Row_come_in : chkSs gt f_Row_come_in.body (Fn.ga n_Row_come_in (defScope (mt 38 5)) f_Row_come_in.sd) (defBody (mt 38 5)) = true := by decide +kernel
def n_Row_move_on : List Str := ["self", "hour", "left", "party"]
def p_Row_move_on : List Str := ["self", "hour"]
theorem s_Row_move_on : fnScB n_Row_move_on p_Row_move_on (defScope (mt 38 6)) = true := by decide +kernel
theorem c_Row_move_on : chkSs gt f_Row_move_on.body (Fn.ga n_Row_move_on (defScope (mt 38 6)) f_Row_move_on.sd) (defBody (mt 38 6)) = true := by decide +kernel
def n_Row_wish : List Str := ["self", "hour", "party"]
def p_Row_wish : List Str := ["self", "hour", "party"]
theorem s_Row_wish : fnScB n_Row_wish p_Row_wish (defScope (mt 38 7)) = true := by decide +kernel
theorem c_Row_wish : chkSs gt f_Row_wish.body (Fn.ga n_Row_wish (defScope (mt 38 7)) f_Row_wish.sd) (defBody (mt 38 7)) = true := by decide +kernel
def n_Row_leave : List Str := ["self", "hour", "person", "party"]
def p_Row_leave : List Str := ["self", "hour", "person"]
theorem s_Row_leave : fnScB n_Row_leave p_Row_leave (defScope (mt 38 8)) = true := by decide +kernel
theorem c_Row_leave : chkSs gt f_Row_leave.body (Fn.ga n_Row_leave (defScope (mt 38 8)) f_Row_leave.sd) (defBody (mt 38 8)) = true := by decide +kernel
def n_Row_do : List Str := ["self", "deed"]
def p_Row_do : List Str := ["self", "deed"]
theorem s_Row_do : fnScB n_Row_do p_Row_do (defScope (mt 38 9)) = true := by decide +kernel
theorem c_Row_do : chkSs gt f_Row_do.body (Fn.ga n_Row_do (defScope (mt 38 9)) f_Row_do.sd) (defBody (mt 38 9)) = true := by decide +kernel
def n_row_by : List Str := ["lesson", "book", "hour", "row", "place", "deed"]
def p_row_by : List Str := ["lesson", "book", "hour"]
theorem s_row_by : fnScB n_row_by p_row_by (defScope (top 39)) = true := by decide +kernel
theorem c_row_by : chkSs gt f_row_by.body (Fn.ga n_row_by (defScope (top 39)) f_row_by.sd) (defBody (top 39)) = true := by decide +kernel
def n_wrong_at : List Str := ["lesson", "book"]
def p_wrong_at : List Str := ["lesson", "book"]
theorem s_wrong_at : fnScB n_wrong_at p_wrong_at (defScope (top 40)) = true := by decide +kernel
theorem c_wrong_at : chkSs gt f_wrong_at.body (Fn.ga n_wrong_at (defScope (top 40)) f_wrong_at.sd) (defBody (top 40)) = true := by decide +kernel
def n_first_wrong : List Str := ["lesson", "book"]
def p_first_wrong : List Str := ["lesson", "book"]
theorem s_first_wrong : fnScB n_first_wrong p_first_wrong (defScope (top 41)) = true := by decide +kernel
theorem c_first_wrong : chkSs gt f_first_wrong.body (Fn.ga n_first_wrong (defScope (top 41)) f_first_wrong.sd) (defBody (top 41)) = true := by decide +kernel
def n_need_done : List Str := ["lesson", "book"]
def p_need_done : List Str := ["lesson", "book"]
theorem s_need_done : fnScB n_need_done p_need_done (defScope (top 42)) = true := by decide +kernel
theorem c_need_done : chkSs gt f_need_done.body (Fn.ga n_need_done (defScope (top 42)) f_need_done.sd) (defBody (top 42)) = true := by decide +kernel
def n_last_ones : List Str := ["lesson", "book", "row"]
def p_last_ones : List Str := ["lesson", "book"]
theorem s_last_ones : fnScB n_last_ones p_last_ones (defScope (top 43)) = true := by decide +kernel
theorem c_last_ones : chkSs gt f_last_ones.body (Fn.ga n_last_ones (defScope (top 43)) f_last_ones.sd) (defBody (top 43)) = true := by decide +kernel
def n_at_last : List Str := ["lesson", "book"]
def p_at_last : List Str := ["lesson", "book"]
theorem s_at_last : fnScB n_at_last p_at_last (defScope (top 44)) = true := by decide +kernel
theorem c_at_last : chkSs gt f_at_last.body (Fn.ga n_at_last (defScope (top 44)) f_at_last.sd) (defBody (top 44)) = true := by decide +kernel
def n__law_box : List Str := ["_law_script", "_law_k", "_law_cell"]
def p__law_box : List Str := ["_law_script", "_law_k"]
theorem s__law_box : fnScB n__law_box p__law_box (defScope (top 46)) = true := by decide +kernel
theorem c__law_box : chkSs gt f__law_box.body (Fn.ga n__law_box (defScope (top 46)) f__law_box.sd) (defBody (top 46)) = true := by decide +kernel
def n__law_take : List Str := ["_law_box_here", "_law_many", "_law_high", "_law_digit"]
def p__law_take : List Str := ["_law_box_here", "_law_many"]
theorem s__law_take : fnScB n__law_take p__law_take (defScope (top 47)) = true := by decide +kernel
theorem c__law_take : chkSs gt f__law_take.body (Fn.ga n__law_take (defScope (top 47)) f__law_take.sd) (defBody (top 47)) = true := by decide +kernel
def n__law_word : List Str := ["_law_e", "_law_kinds", "_law_words"]
def p__law_word : List Str := ["_law_e"]
theorem s__law_word : fnScB n__law_word p__law_word (defScope (top 48)) = true := by decide +kernel
theorem c__law_word : chkSs gtw f__law_word.body (Fn.ga n__law_word (defScope (top 48)) false true) (defBody (top 48)) = true := by decide +kernel
def n_law : List Str := ["_law_script", "_law_signs", "_law_words", "_law_k", "_law_box_here", "_law_text", "_law_made", "_law_place", "_law_word_here", "_law_e", "_law_wrong", "_law_plain", "_law_sign"]
def p_law : List Str := ["_law_script"]
theorem s_law : fnScB n_law p_law (defScope (top 50)) = true := by decide +kernel
theorem c_law : chkSs gt f_law.body (Fn.ga n_law (defScope (top 50)) f_law.sd) (defBody (top 50)) = true := by decide +kernel
theorem c2__law_word : chkSs gt f__law_word.body (Fn.ga n__law_word (defScope (top 48)) f__law_word.sd) (defBody (top 48)) = true := by decide +kernel
section
variable {P : Program} {w : World} {K : PySem.W.Frag} {h base : Heap} {mg : Str → Option Value}
theorem f_ff_is_whole (X : K.In h) (G : h.Ns mainGlobals mg) (c : He.SaysD fa dl K) : FnFact (pg P w K mg base gi gt tf) gt "is_whole" f_is_whole := by
  obtain ⟨fd, F⟩ := c.def_ 0 (d := dd "is_whole" 27) rfl
  exact ⟨_, fd, n_is_whole, p_is_whole, _, _, _, He.glo_ok X G (c.fact 0 (f := .glo "is_whole") rfl), F, s_is_whole, FunD.bindsN F fun _ _ _ _ _ _ us hl => match us, hl with | [_], _ => rfl, rfl, rfl, c_is_whole, fun z => nomatch z⟩
theorem f_ff_is_from_to (X : K.In h) (G : h.Ns mainGlobals mg) (c : He.SaysD fa dl K) : FnFact (pg P w K mg base gi gt tf) gt "is_from_to" f_is_from_to := by
  obtain ⟨fd, F⟩ := c.def_ 1 (d := dd "is_from_to" 28) rfl
  exact ⟨_, fd, n_is_from_to, p_is_from_to, _, _, _, He.glo_ok X G (c.fact 1 (f := .glo "is_from_to") rfl), F, s_is_from_to, FunD.bindsN F fun _ _ _ _ _ _ us hl => match us, hl with | [_, _, _], _ => rfl, rfl, rfl, c_is_from_to, fun z => nomatch z⟩
theorem f_ff_is_day (X : K.In h) (G : h.Ns mainGlobals mg) (c : He.SaysD fa dl K) : FnFact (pg P w K mg base gi gt tf) gt "is_day" f_is_day := by
  obtain ⟨fd, F⟩ := c.def_ 2 (d := dd "is_day" 29) rfl
  exact ⟨_, fd, n_is_day, p_is_day, _, _, _, He.glo_ok X G (c.fact 2 (f := .glo "is_day") rfl), F, s_is_day, FunD.bindsN F fun _ _ _ _ _ _ us hl => match us, hl with | [_], _ => rfl, rfl, rfl, c_is_day, fun z => nomatch z⟩
theorem f_ff_is_hour (X : K.In h) (G : h.Ns mainGlobals mg) (c : He.SaysD fa dl K) : FnFact (pg P w K mg base gi gt tf) gt "is_hour" f_is_hour := by
  obtain ⟨fd, F⟩ := c.def_ 3 (d := dd "is_hour" 30) rfl
  exact ⟨_, fd, n_is_hour, p_is_hour, _, _, _, He.glo_ok X G (c.fact 3 (f := .glo "is_hour") rfl), F, s_is_hour, FunD.bindsN F fun _ _ _ _ _ _ us hl => match us, hl with | [_], _ => rfl, rfl, rfl, c_is_hour, fun z => nomatch z⟩
theorem f_ff_is_person (X : K.In h) (G : h.Ns mainGlobals mg) (c : He.SaysD fa dl K) : FnFact (pg P w K mg base gi gt tf) gt "is_person" f_is_person := by
  obtain ⟨fd, F⟩ := c.def_ 4 (d := dd "is_person" 31) rfl
  exact ⟨_, fd, n_is_person, p_is_person, _, _, _, He.glo_ok X G (c.fact 4 (f := .glo "is_person") rfl), F, s_is_person, FunD.bindsN F fun _ _ _ _ _ _ us hl => match us, hl with | [_], _ => rfl, rfl, rfl, c_is_person, fun z => nomatch z⟩
theorem f_ff_are_rising (X : K.In h) (G : h.Ns mainGlobals mg) (c : He.SaysD fa dl K) : FnFact (pg P w K mg base gi gt tf) gt "are_rising" f_are_rising := by
  obtain ⟨fd, F⟩ := c.def_ 5 (d := dd "are_rising" 32) rfl
  exact ⟨_, fd, n_are_rising, p_are_rising, _, _, _, He.glo_ok X G (c.fact 5 (f := .glo "are_rising") rfl), F, s_are_rising, FunD.bindsN F fun _ _ _ _ _ _ us hl => match us, hl with | [_], _ => rfl, rfl, rfl, c_are_rising, fun z => nomatch z⟩
theorem f_ff_is_lesson (X : K.In h) (G : h.Ns mainGlobals mg) (c : He.SaysD fa dl K) : FnFact (pg P w K mg base gi gt tf) gt "is_lesson" f_is_lesson := by
  obtain ⟨fd, F⟩ := c.def_ 6 (d := dd "is_lesson" 33) rfl
  exact ⟨_, fd, n_is_lesson, p_is_lesson, _, _, _, He.glo_ok X G (c.fact 6 (f := .glo "is_lesson") rfl), F, s_is_lesson, FunD.bindsN F fun _ _ _ _ _ _ us hl => match us, hl with | [_], _ => rfl, rfl, rfl, c_is_lesson, fun z => nomatch z⟩
theorem f_ff_is_party (X : K.In h) (G : h.Ns mainGlobals mg) (c : He.SaysD fa dl K) : FnFact (pg P w K mg base gi gt tf) gt "is_party" f_is_party := by
  obtain ⟨fd, F⟩ := c.def_ 7 (d := dd "is_party" 34) rfl
  exact ⟨_, fd, n_is_party, p_is_party, _, _, _, He.glo_ok X G (c.fact 7 (f := .glo "is_party") rfl), F, s_is_party, FunD.bindsN F fun _ _ _ _ _ _ us hl => match us, hl with | [_], _ => rfl, rfl, rfl, c_is_party, fun z => nomatch z⟩
theorem f_ff_is_deed (X : K.In h) (G : h.Ns mainGlobals mg) (c : He.SaysD fa dl K) : FnFact (pg P w K mg base gi gt tf) gt "is_deed" f_is_deed := by
  obtain ⟨fd, F⟩ := c.def_ 8 (d := dd "is_deed" 35) rfl
  exact ⟨_, fd, n_is_deed, p_is_deed, _, _, _, He.glo_ok X G (c.fact 8 (f := .glo "is_deed") rfl), F, s_is_deed, FunD.bindsN F fun _ _ _ _ _ _ us hl => match us, hl with | [_], _ => rfl, rfl, rfl, c_is_deed, fun z => nomatch z⟩
theorem f_ff_is_book (X : K.In h) (G : h.Ns mainGlobals mg) (c : He.SaysD fa dl K) : FnFact (pg P w K mg base gi gt tf) gt "is_book" f_is_book := by
  obtain ⟨fd, F⟩ := c.def_ 9 (d := dd "is_book" 36) rfl
  exact ⟨_, fd, n_is_book, p_is_book, _, _, _, He.glo_ok X G (c.fact 9 (f := .glo "is_book") rfl), F, s_is_book, FunD.bindsN F fun _ _ _ _ _ _ us hl => match us, hl with | [_], _ => rfl, rfl, rfl, c_is_book, fun z => nomatch z⟩
theorem f_ff_need_lesson (X : K.In h) (G : h.Ns mainGlobals mg) (c : He.SaysD fa dl K) : FnFact (pg P w K mg base gi gt tf) gt "need_lesson" f_need_lesson := by
  obtain ⟨fd, F⟩ := c.def_ 10 (d := dd "need_lesson" 37) rfl
  exact ⟨_, fd, n_need_lesson, p_need_lesson, _, _, _, He.glo_ok X G (c.fact 10 (f := .glo "need_lesson") rfl), F, s_need_lesson, FunD.bindsN F fun _ _ _ _ _ _ us hl => match us, hl with | [_], _ => rfl, rfl, rfl, c_need_lesson, fun z => nomatch z⟩
theorem f_ff_Row___init__ (c : He.SaysD fa dl K) : FnAt (pg P w K mg base gi gt tf) gt f_Row___init__ (He.ma K (He.ga K "Row") "__init__") [] := by
  obtain ⟨fd, F⟩ := c.def_ 11 (d := dm "Row" "__init__" "Row.__init__" 38 0 []) rfl
  refine ⟨_, _, fd, n_Row___init__, p_Row___init__, _, _, _, _, F, s_Row___init__, fun j hj => ?_, rfl, rfl, c_Row___init__, fun z => nomatch z⟩
  have e : j = 0 := Nat.le_zero.mp hj
  subst e
  exact ⟨[], .nil, FunD.bindsN F fun _ _ _ _ _ _ us hl => match us, hl with | [_, _], _ => rfl⟩
theorem f_ff_Row_free (c : He.SaysD fa dl K) : FnAt (pg P w K mg base gi gt tf) gt f_Row_free (He.ma K (He.ga K "Row") "free") [] := by
  obtain ⟨fd, F⟩ := c.def_ 12 (d := dm "Row" "free" "Row.free" 38 1 []) rfl
  refine ⟨_, _, fd, n_Row_free, p_Row_free, _, _, _, _, F, s_Row_free, fun j hj => ?_, rfl, rfl, c_Row_free, fun z => nomatch z⟩
  have e : j = 0 := Nat.le_zero.mp hj
  subst e
  exact ⟨[], .nil, FunD.bindsN F fun _ _ _ _ _ _ us hl => match us, hl with | [_], _ => rfl⟩
theorem f_ff_Row_party_of (c : He.SaysD fa dl K) : FnAt (pg P w K mg base gi gt tf) gt f_Row_party_of (He.ma K (He.ga K "Row") "party_of") [] := by
  obtain ⟨fd, F⟩ := c.def_ 13 (d := dm "Row" "party_of" "Row.party_of" 38 2 []) rfl
  refine ⟨_, _, fd, n_Row_party_of, p_Row_party_of, _, _, _, _, F, s_Row_party_of, fun j hj => ?_, rfl, rfl, c_Row_party_of, fun z => nomatch z⟩
  have e : j = 0 := Nat.le_zero.mp hj
  subst e
  exact ⟨[], .nil, FunD.bindsN F fun _ _ _ _ _ _ us hl => match us, hl with | [_, _], _ => rfl⟩
theorem f_ff_Row_is_known (c : He.SaysD fa dl K) : FnAt (pg P w K mg base gi gt tf) gt f_Row_is_known (He.ma K (He.ga K "Row") "is_known") [] := by
  obtain ⟨fd, F⟩ := c.def_ 14 (d := dm "Row" "is_known" "Row.is_known" 38 3 []) rfl
  refine ⟨_, _, fd, n_Row_is_known, p_Row_is_known, _, _, _, _, F, s_Row_is_known, fun j hj => ?_, rfl, rfl, c_Row_is_known, fun z => nomatch z⟩
  have e : j = 0 := Nat.le_zero.mp hj
  subst e
  exact ⟨[], .nil, FunD.bindsN F fun _ _ _ _ _ _ us hl => match us, hl with | [_, _], _ => rfl⟩
theorem f_ff_Row_can (c : He.SaysD fa dl K) : FnAt (pg P w K mg base gi gt tf) gt f_Row_can (He.ma K (He.ga K "Row") "can") [] := by
  obtain ⟨fd, F⟩ := c.def_ 15 (d := dm "Row" "can" "Row.can" 38 4 []) rfl
  refine ⟨_, _, fd, n_Row_can, p_Row_can, _, _, _, _, F, s_Row_can, fun j hj => ?_, rfl, rfl, c_Row_can, fun z => nomatch z⟩
  have e : j = 0 := Nat.le_zero.mp hj
  subst e
  exact ⟨[], .nil, FunD.bindsN F fun _ _ _ _ _ _ us hl => match us, hl with | [_, _], _ => rfl⟩
theorem f_ff_Row_come_in (c : He.SaysD fa dl K) : FnAt (pg P w K mg base gi gt tf) gt f_Row_come_in (He.ma K (He.ga K "Row") "come_in") [] := by
  obtain ⟨fd, F⟩ := c.def_ 16 (d := dm "Row" "come_in" "Row.come_in" 38 5 []) rfl
  refine ⟨_, _, fd, n_Row_come_in, p_Row_come_in, _, _, _, _, F, s_Row_come_in, fun j hj => ?_, rfl, rfl, c_Row_come_in, fun z => nomatch z⟩
  have e : j = 0 := Nat.le_zero.mp hj
  subst e
  exact ⟨[], .nil, FunD.bindsN F fun _ _ _ _ _ _ us hl => match us, hl with | [_, _, _], _ => rfl⟩
theorem f_ff_Row_move_on (c : He.SaysD fa dl K) : FnAt (pg P w K mg base gi gt tf) gt f_Row_move_on (He.ma K (He.ga K "Row") "move_on") [] := by
  obtain ⟨fd, F⟩ := c.def_ 17 (d := dm "Row" "move_on" "Row.move_on" 38 6 []) rfl
  refine ⟨_, _, fd, n_Row_move_on, p_Row_move_on, _, _, _, _, F, s_Row_move_on, fun j hj => ?_, rfl, rfl, c_Row_move_on, fun z => nomatch z⟩
  have e : j = 0 := Nat.le_zero.mp hj
  subst e
  exact ⟨[], .nil, FunD.bindsN F fun _ _ _ _ _ _ us hl => match us, hl with | [_, _], _ => rfl⟩
theorem f_ff_Row_wish (c : He.SaysD fa dl K) : FnAt (pg P w K mg base gi gt tf) gt f_Row_wish (He.ma K (He.ga K "Row") "wish") [] := by
  obtain ⟨fd, F⟩ := c.def_ 18 (d := dm "Row" "wish" "Row.wish" 38 7 []) rfl
  refine ⟨_, _, fd, n_Row_wish, p_Row_wish, _, _, _, _, F, s_Row_wish, fun j hj => ?_, rfl, rfl, c_Row_wish, fun z => nomatch z⟩
  have e : j = 0 := Nat.le_zero.mp hj
  subst e
  exact ⟨[], .nil, FunD.bindsN F fun _ _ _ _ _ _ us hl => match us, hl with | [_, _, _], _ => rfl⟩
theorem f_ff_Row_leave (c : He.SaysD fa dl K) : FnAt (pg P w K mg base gi gt tf) gt f_Row_leave (He.ma K (He.ga K "Row") "leave") [] := by
  obtain ⟨fd, F⟩ := c.def_ 19 (d := dm "Row" "leave" "Row.leave" 38 8 []) rfl
  refine ⟨_, _, fd, n_Row_leave, p_Row_leave, _, _, _, _, F, s_Row_leave, fun j hj => ?_, rfl, rfl, c_Row_leave, fun z => nomatch z⟩
  have e : j = 0 := Nat.le_zero.mp hj
  subst e
  exact ⟨[], .nil, FunD.bindsN F fun _ _ _ _ _ _ us hl => match us, hl with | [_, _, _], _ => rfl⟩
theorem f_ff_Row_do (c : He.SaysD fa dl K) : FnAt (pg P w K mg base gi gt tf) gt f_Row_do (He.ma K (He.ga K "Row") "do") [] := by
  obtain ⟨fd, F⟩ := c.def_ 20 (d := dm "Row" "do" "Row.do" 38 9 []) rfl
  refine ⟨_, _, fd, n_Row_do, p_Row_do, _, _, _, _, F, s_Row_do, fun j hj => ?_, rfl, rfl, c_Row_do, fun z => nomatch z⟩
  have e : j = 0 := Nat.le_zero.mp hj
  subst e
  exact ⟨[], .nil, FunD.bindsN F fun _ _ _ _ _ _ us hl => match us, hl with | [_, _], _ => rfl⟩
theorem f_ff_row_by (X : K.In h) (G : h.Ns mainGlobals mg) (c : He.SaysD fa dl K) : FnFact (pg P w K mg base gi gt tf) gt "row_by" f_row_by := by
  obtain ⟨fd, F⟩ := c.def_ 21 (d := dd "row_by" 39) rfl
  exact ⟨_, fd, n_row_by, p_row_by, _, _, _, He.glo_ok X G (c.fact 11 (f := .glo "row_by") rfl), F, s_row_by, FunD.bindsN F fun _ _ _ _ _ _ us hl => match us, hl with | [_, _, _], _ => rfl, rfl, rfl, c_row_by, fun z => nomatch z⟩
theorem f_ff_wrong_at (X : K.In h) (G : h.Ns mainGlobals mg) (c : He.SaysD fa dl K) : FnFact (pg P w K mg base gi gt tf) gt "wrong_at" f_wrong_at := by
  obtain ⟨fd, F⟩ := c.def_ 22 (d := dd "wrong_at" 40) rfl
  exact ⟨_, fd, n_wrong_at, p_wrong_at, _, _, _, He.glo_ok X G (c.fact 12 (f := .glo "wrong_at") rfl), F, s_wrong_at, FunD.bindsN F fun _ _ _ _ _ _ us hl => match us, hl with | [_, _], _ => rfl, rfl, rfl, c_wrong_at, fun z => nomatch z⟩
theorem f_ff_first_wrong (X : K.In h) (G : h.Ns mainGlobals mg) (c : He.SaysD fa dl K) : FnFact (pg P w K mg base gi gt tf) gt "first_wrong" f_first_wrong := by
  obtain ⟨fd, F⟩ := c.def_ 23 (d := dd "first_wrong" 41) rfl
  exact ⟨_, fd, n_first_wrong, p_first_wrong, _, _, _, He.glo_ok X G (c.fact 13 (f := .glo "first_wrong") rfl), F, s_first_wrong, FunD.bindsN F fun _ _ _ _ _ _ us hl => match us, hl with | [_, _], _ => rfl, rfl, rfl, c_first_wrong, fun z => nomatch z⟩
theorem f_ff_need_done (X : K.In h) (G : h.Ns mainGlobals mg) (c : He.SaysD fa dl K) : FnFact (pg P w K mg base gi gt tf) gt "need_done" f_need_done := by
  obtain ⟨fd, F⟩ := c.def_ 24 (d := dd "need_done" 42) rfl
  exact ⟨_, fd, n_need_done, p_need_done, _, _, _, He.glo_ok X G (c.fact 14 (f := .glo "need_done") rfl), F, s_need_done, FunD.bindsN F fun _ _ _ _ _ _ us hl => match us, hl with | [_, _], _ => rfl, rfl, rfl, c_need_done, fun z => nomatch z⟩
theorem f_ff_last_ones (X : K.In h) (G : h.Ns mainGlobals mg) (c : He.SaysD fa dl K) : FnFact (pg P w K mg base gi gt tf) gt "last_ones" f_last_ones := by
  obtain ⟨fd, F⟩ := c.def_ 25 (d := dd "last_ones" 43) rfl
  exact ⟨_, fd, n_last_ones, p_last_ones, _, _, _, He.glo_ok X G (c.fact 15 (f := .glo "last_ones") rfl), F, s_last_ones, FunD.bindsN F fun _ _ _ _ _ _ us hl => match us, hl with | [_, _], _ => rfl, rfl, rfl, c_last_ones, fun z => nomatch z⟩
theorem f_ff_at_last (X : K.In h) (G : h.Ns mainGlobals mg) (c : He.SaysD fa dl K) : FnFact (pg P w K mg base gi gt tf) gt "at_last" f_at_last := by
  obtain ⟨fd, F⟩ := c.def_ 26 (d := dd "at_last" 44) rfl
  exact ⟨_, fd, n_at_last, p_at_last, _, _, _, He.glo_ok X G (c.fact 16 (f := .glo "at_last") rfl), F, s_at_last, FunD.bindsN F fun _ _ _ _ _ _ us hl => match us, hl with | [_, _], _ => rfl, rfl, rfl, c_at_last, fun z => nomatch z⟩
theorem f_ff__law_box (X : K.In h) (G : h.Ns mainGlobals mg) (c : He.SaysD fa dl K) : FnFact (pg P w K mg base gi gt tf) gt "_law_box" f__law_box := by
  obtain ⟨fd, F⟩ := c.def_ 27 (d := dd "_law_box" 46) rfl
  exact ⟨_, fd, n__law_box, p__law_box, _, _, _, He.glo_ok X G (c.fact 17 (f := .glo "_law_box") rfl), F, s__law_box, FunD.bindsN F fun _ _ _ _ _ _ us hl => match us, hl with | [_, _], _ => rfl, rfl, rfl, c__law_box, fun z => nomatch z⟩
theorem f_ff__law_take (X : K.In h) (G : h.Ns mainGlobals mg) (c : He.SaysD fa dl K) : FnFact (pg P w K mg base gi gt tf) gt "_law_take" f__law_take := by
  obtain ⟨fd, F⟩ := c.def_ 28 (d := dd "_law_take" 47) rfl
  exact ⟨_, fd, n__law_take, p__law_take, _, _, _, He.glo_ok X G (c.fact 18 (f := .glo "_law_take") rfl), F, s__law_take, FunD.bindsN F fun _ _ _ _ _ _ us hl => match us, hl with | [_, _], _ => rfl, rfl, rfl, c__law_take, fun z => nomatch z⟩
theorem f_ff__law_word (X : K.In h) (G : h.Ns mainGlobals mg) (c : He.SaysD fa dl K) : FnFact (pg P w K mg base gi gt tf) gt "_law_word" f__law_word := by
  obtain ⟨fd, F⟩ := c.def_ 29 (d := dd "_law_word" 48) rfl
  exact ⟨_, fd, n__law_word, p__law_word, _, _, _, He.glo_ok X G (c.fact 19 (f := .glo "_law_word") rfl), F, s__law_word, FunD.bindsN F fun _ _ _ _ _ _ us hl => match us, hl with | [_], _ => rfl, rfl, rfl, c2__law_word, fun z => nomatch z⟩
theorem f_ff_law (X : K.In h) (G : h.Ns mainGlobals mg) (c : He.SaysD fa dl K) (more : exB gt tf K = true) (tb : ∀ p ∈ tf.map (He.cT K), LamX.TabB base mg p.1 p.2) : FnFact (pg P w K mg base gi gt tf) gt "law" f_law := by
  obtain ⟨fd, F⟩ := c.def_ 30 (d := dd "law" 50) rfl
  exact ⟨_, fd, n_law, p_law, _, _, _, He.glo_ok X G (c.fact 20 (f := .glo "law") rfl), F, s_law, FunD.bindsN F fun _ _ _ _ _ _ us hl => match us, hl with | [_], _ => rfl, rfl, rfl, c_law, fun _ => lamFd_of F more (by decide +kernel) tb⟩
theorem tbl (X : K.In h) (G : h.Ns mainGlobals mg) (c : He.SaysD fa dl K) (more : exB gt tf K = true) (tb : ∀ p ∈ tf.map (He.cT K), LamX.TabB base mg p.1 p.2) : Tbl (pg P w K mg base gi gt tf) gt fns := by
  refine tbl_of X G c more (by decide +kernel) ?_ ?_ ?_ ?_ ?_
  · unfold gt
    refine List.forall_mem_cons.mpr ⟨(fun z => nomatch z), ?_⟩
    refine List.forall_mem_cons.mpr ⟨(fun z => nomatch z), ?_⟩
    refine List.forall_mem_cons.mpr ⟨(fun z => nomatch z), ?_⟩
    refine List.forall_mem_cons.mpr ⟨(fun z => nomatch z), ?_⟩
    refine List.forall_mem_cons.mpr ⟨(fun z => nomatch z), ?_⟩
    refine List.forall_mem_cons.mpr ⟨(fun z => nomatch z), ?_⟩
    refine List.forall_mem_cons.mpr ⟨(fun z => nomatch z), ?_⟩
    refine List.forall_mem_cons.mpr ⟨(fun z => nomatch z), ?_⟩
    refine List.forall_mem_cons.mpr ⟨(fun z => nomatch z), ?_⟩
    refine List.forall_mem_cons.mpr ⟨(fun z => nomatch z), ?_⟩
    refine List.forall_mem_cons.mpr ⟨(fun z => nomatch z), ?_⟩
    refine List.forall_mem_cons.mpr ⟨(fun z => nomatch z), ?_⟩
    refine List.forall_mem_cons.mpr ⟨(fun z => nomatch z), ?_⟩
    refine List.forall_mem_cons.mpr ⟨(fun z => nomatch z), ?_⟩
    refine List.forall_mem_cons.mpr ⟨(fun z => nomatch z), ?_⟩
    refine List.forall_mem_cons.mpr ⟨(fun z => nomatch z), ?_⟩
    refine List.forall_mem_cons.mpr ⟨(fun z => nomatch z), ?_⟩
    refine List.forall_mem_cons.mpr ⟨(fun z => nomatch z), ?_⟩
    refine List.forall_mem_cons.mpr ⟨(fun z => nomatch z), ?_⟩
    refine List.forall_mem_cons.mpr ⟨(fun z => nomatch z), ?_⟩
    refine List.forall_mem_cons.mpr ⟨(fun z => nomatch z), ?_⟩
    refine List.forall_mem_cons.mpr ⟨(fun z => nomatch z), ?_⟩
    refine List.forall_mem_cons.mpr ⟨(fun z => nomatch z), ?_⟩
    refine List.forall_mem_cons.mpr ⟨(fun z => nomatch z), ?_⟩
    refine List.forall_mem_cons.mpr ⟨(fun z => nomatch z), ?_⟩
    refine List.forall_mem_cons.mpr ⟨(fun z => nomatch z), ?_⟩
    refine List.forall_mem_cons.mpr ⟨(fun z => nomatch z), ?_⟩
    refine List.forall_mem_cons.mpr ⟨(fun z => nomatch z), ?_⟩
    refine List.forall_mem_cons.mpr ⟨(fun z => nomatch z), ?_⟩
    refine List.forall_mem_cons.mpr ⟨(fun z => nomatch z), ?_⟩
    refine List.forall_mem_cons.mpr ⟨(fun z => nomatch z), ?_⟩
    refine List.forall_mem_cons.mpr ⟨(fun z => nomatch z), ?_⟩
    refine List.forall_mem_cons.mpr ⟨(fun z => nomatch z), ?_⟩
    refine List.forall_mem_cons.mpr ⟨(fun z => nomatch z), ?_⟩
    refine List.forall_mem_cons.mpr ⟨(fun z => nomatch z), ?_⟩
    refine List.forall_mem_cons.mpr ⟨(fun z => nomatch z), ?_⟩
    refine List.forall_mem_cons.mpr ⟨(fun z => nomatch z), ?_⟩
    refine List.forall_mem_cons.mpr ⟨(fun z => nomatch z), ?_⟩
    refine List.forall_mem_cons.mpr ⟨(fun z => nomatch z), ?_⟩
    refine List.forall_mem_cons.mpr ⟨(fun z => nomatch z), ?_⟩
    refine List.forall_mem_cons.mpr ⟨(fun z => nomatch z), ?_⟩
    refine List.forall_mem_cons.mpr ⟨(fun z => nomatch z), ?_⟩
    refine List.forall_mem_cons.mpr ⟨(fun z => nomatch z), ?_⟩
    refine List.forall_mem_cons.mpr ⟨(fun z => nomatch z), ?_⟩
    refine List.forall_mem_cons.mpr ⟨fun _ => ⟨f_is_whole, by kernel_rfl, f_ff_is_whole X G c⟩, ?_⟩
    refine List.forall_mem_cons.mpr ⟨fun _ => ⟨f_is_from_to, by kernel_rfl, f_ff_is_from_to X G c⟩, ?_⟩
    refine List.forall_mem_cons.mpr ⟨fun _ => ⟨f_is_day, by kernel_rfl, f_ff_is_day X G c⟩, ?_⟩
    refine List.forall_mem_cons.mpr ⟨fun _ => ⟨f_is_hour, by kernel_rfl, f_ff_is_hour X G c⟩, ?_⟩
    refine List.forall_mem_cons.mpr ⟨fun _ => ⟨f_is_person, by kernel_rfl, f_ff_is_person X G c⟩, ?_⟩
    refine List.forall_mem_cons.mpr ⟨fun _ => ⟨f_are_rising, by kernel_rfl, f_ff_are_rising X G c⟩, ?_⟩
    refine List.forall_mem_cons.mpr ⟨fun _ => ⟨f_is_lesson, by kernel_rfl, f_ff_is_lesson X G c⟩, ?_⟩
    refine List.forall_mem_cons.mpr ⟨fun _ => ⟨f_is_party, by kernel_rfl, f_ff_is_party X G c⟩, ?_⟩
    refine List.forall_mem_cons.mpr ⟨fun _ => ⟨f_is_deed, by kernel_rfl, f_ff_is_deed X G c⟩, ?_⟩
    refine List.forall_mem_cons.mpr ⟨fun _ => ⟨f_is_book, by kernel_rfl, f_ff_is_book X G c⟩, ?_⟩
    refine List.forall_mem_cons.mpr ⟨fun _ => ⟨f_need_lesson, by kernel_rfl, f_ff_need_lesson X G c⟩, ?_⟩
    refine List.forall_mem_cons.mpr ⟨fun _ => ⟨f_row_by, by kernel_rfl, f_ff_row_by X G c⟩, ?_⟩
    refine List.forall_mem_cons.mpr ⟨fun _ => ⟨f_wrong_at, by kernel_rfl, f_ff_wrong_at X G c⟩, ?_⟩
    refine List.forall_mem_cons.mpr ⟨fun _ => ⟨f_first_wrong, by kernel_rfl, f_ff_first_wrong X G c⟩, ?_⟩
    refine List.forall_mem_cons.mpr ⟨fun _ => ⟨f_need_done, by kernel_rfl, f_ff_need_done X G c⟩, ?_⟩
    refine List.forall_mem_cons.mpr ⟨fun _ => ⟨f_last_ones, by kernel_rfl, f_ff_last_ones X G c⟩, ?_⟩
    refine List.forall_mem_cons.mpr ⟨fun _ => ⟨f_at_last, by kernel_rfl, f_ff_at_last X G c⟩, ?_⟩
    refine List.forall_mem_cons.mpr ⟨fun _ => ⟨f__law_box, by kernel_rfl, f_ff__law_box X G c⟩, ?_⟩
    refine List.forall_mem_cons.mpr ⟨fun _ => ⟨f__law_take, by kernel_rfl, f_ff__law_take X G c⟩, ?_⟩
    refine List.forall_mem_cons.mpr ⟨fun _ => ⟨f__law_word, by kernel_rfl, f_ff__law_word X G c⟩, ?_⟩
    refine List.forall_mem_cons.mpr ⟨fun _ => ⟨f_law, by kernel_rfl, f_ff_law X G c more tb⟩, ?_⟩
    exact fun _ z => nomatch z
  · unfold gt
    refine List.forall_mem_cons.mpr ⟨(fun _ _ z => nomatch z), ?_⟩
    refine List.forall_mem_cons.mpr ⟨(fun _ _ z => nomatch z), ?_⟩
    refine List.forall_mem_cons.mpr ⟨(fun _ _ z => nomatch z), ?_⟩
    refine List.forall_mem_cons.mpr ⟨(fun _ _ z => nomatch z), ?_⟩
    refine List.forall_mem_cons.mpr ⟨(fun _ _ z => nomatch z), ?_⟩
    refine List.forall_mem_cons.mpr ⟨(fun _ _ z => nomatch z), ?_⟩
    refine List.forall_mem_cons.mpr ⟨(fun _ _ z => nomatch z), ?_⟩
    refine List.forall_mem_cons.mpr ⟨(fun _ _ z => nomatch z), ?_⟩
    refine List.forall_mem_cons.mpr ⟨(fun _ _ z => nomatch z), ?_⟩
    refine List.forall_mem_cons.mpr ⟨(fun _ _ z => nomatch z), ?_⟩
    refine List.forall_mem_cons.mpr ⟨(fun _ _ z => nomatch z), ?_⟩
    refine List.forall_mem_cons.mpr ⟨(fun _ _ z => nomatch z), ?_⟩
    refine List.forall_mem_cons.mpr ⟨(fun _ _ z => nomatch z), ?_⟩
    refine List.forall_mem_cons.mpr ⟨(fun _ _ z => nomatch z), ?_⟩
    refine List.forall_mem_cons.mpr ⟨(fun _ _ z => nomatch z), ?_⟩
    refine List.forall_mem_cons.mpr ⟨(fun _ _ z => nomatch z), ?_⟩
    refine List.forall_mem_cons.mpr ⟨(fun _ _ z => nomatch z), ?_⟩
    refine List.forall_mem_cons.mpr ⟨(fun _ _ z => nomatch z), ?_⟩
    refine List.forall_mem_cons.mpr ⟨(fun _ _ z => nomatch z), ?_⟩
    refine List.forall_mem_cons.mpr ⟨(fun _ _ z => nomatch z), ?_⟩
    refine List.forall_mem_cons.mpr ⟨(fun _ _ z => nomatch z), ?_⟩
    refine List.forall_mem_cons.mpr ⟨(fun _ _ z => nomatch z), ?_⟩
    refine List.forall_mem_cons.mpr ⟨(fun _ _ z => nomatch z), ?_⟩
    refine List.forall_mem_cons.mpr ⟨(fun _ _ z => nomatch z), ?_⟩
    refine List.forall_mem_cons.mpr ⟨(fun _ _ z => nomatch z), ?_⟩
    refine List.forall_mem_cons.mpr ⟨(fun _ _ z => nomatch z), ?_⟩
    refine List.forall_mem_cons.mpr ⟨(fun _ _ z => nomatch z), ?_⟩
    refine List.forall_mem_cons.mpr ⟨(fun _ _ z => nomatch z), ?_⟩
    refine List.forall_mem_cons.mpr ⟨(fun _ _ z => nomatch z), ?_⟩
    refine List.forall_mem_cons.mpr ⟨(fun _ _ z => nomatch z), ?_⟩
    refine List.forall_mem_cons.mpr ⟨(fun _ _ z => nomatch z), ?_⟩
    refine List.forall_mem_cons.mpr ⟨(fun _ _ z => nomatch z), ?_⟩
    refine List.forall_mem_cons.mpr ⟨(fun _ _ z => nomatch z), ?_⟩
    refine List.forall_mem_cons.mpr ⟨(fun _ _ z => nomatch z), ?_⟩
    refine List.forall_mem_cons.mpr ⟨(fun _ _ z => nomatch z), ?_⟩
    refine List.forall_mem_cons.mpr ⟨(fun _ _ z => nomatch z), ?_⟩
    refine List.forall_mem_cons.mpr ⟨(fun _ _ z => nomatch z), ?_⟩
    refine List.forall_mem_cons.mpr ⟨(fun _ _ z => nomatch z), ?_⟩
    refine List.forall_mem_cons.mpr ⟨(fun _ _ z => nomatch z), ?_⟩
    refine List.forall_mem_cons.mpr ⟨(fun _ _ z => nomatch z), ?_⟩
    refine List.forall_mem_cons.mpr ⟨(fun _ _ z => nomatch z), ?_⟩
    refine List.forall_mem_cons.mpr ⟨(fun _ _ z => nomatch z), ?_⟩
    refine List.forall_mem_cons.mpr ⟨(fun _ _ z => nomatch z), ?_⟩
    refine List.forall_mem_cons.mpr ⟨fun fs ms z => ?_, ?_⟩
    · cases z
      refine ⟨⟨f_Row___init__, by kernel_rfl, f_ff_Row___init__ c⟩, ?_⟩
      refine List.forall_mem_cons.mpr ⟨⟨f_Row_free, by kernel_rfl, f_ff_Row_free c⟩, ?_⟩
      refine List.forall_mem_cons.mpr ⟨⟨f_Row_party_of, by kernel_rfl, f_ff_Row_party_of c⟩, ?_⟩
      refine List.forall_mem_cons.mpr ⟨⟨f_Row_is_known, by kernel_rfl, f_ff_Row_is_known c⟩, ?_⟩
      refine List.forall_mem_cons.mpr ⟨⟨f_Row_can, by kernel_rfl, f_ff_Row_can c⟩, ?_⟩
      refine List.forall_mem_cons.mpr ⟨⟨f_Row_come_in, by kernel_rfl, f_ff_Row_come_in c⟩, ?_⟩
      refine List.forall_mem_cons.mpr ⟨⟨f_Row_move_on, by kernel_rfl, f_ff_Row_move_on c⟩, ?_⟩
      refine List.forall_mem_cons.mpr ⟨⟨f_Row_wish, by kernel_rfl, f_ff_Row_wish c⟩, ?_⟩
      refine List.forall_mem_cons.mpr ⟨⟨f_Row_leave, by kernel_rfl, f_ff_Row_leave c⟩, ?_⟩
      refine List.forall_mem_cons.mpr ⟨⟨f_Row_do, by kernel_rfl, f_ff_Row_do c⟩, ?_⟩
      exact fun _ z => nomatch z
    refine List.forall_mem_cons.mpr ⟨(fun _ _ z => nomatch z), ?_⟩
    refine List.forall_mem_cons.mpr ⟨(fun _ _ z => nomatch z), ?_⟩
    refine List.forall_mem_cons.mpr ⟨(fun _ _ z => nomatch z), ?_⟩
    refine List.forall_mem_cons.mpr ⟨(fun _ _ z => nomatch z), ?_⟩
    refine List.forall_mem_cons.mpr ⟨(fun _ _ z => nomatch z), ?_⟩
    refine List.forall_mem_cons.mpr ⟨(fun _ _ z => nomatch z), ?_⟩
    refine List.forall_mem_cons.mpr ⟨(fun _ _ z => nomatch z), ?_⟩
    refine List.forall_mem_cons.mpr ⟨(fun _ _ z => nomatch z), ?_⟩
    refine List.forall_mem_cons.mpr ⟨(fun _ _ z => nomatch z), ?_⟩
    refine List.forall_mem_cons.mpr ⟨(fun _ _ z => nomatch z), ?_⟩
    refine List.forall_mem_cons.mpr ⟨(fun _ _ z => nomatch z), ?_⟩
    refine List.forall_mem_cons.mpr ⟨(fun _ _ z => nomatch z), ?_⟩
    refine List.forall_mem_cons.mpr ⟨(fun _ _ z => nomatch z), ?_⟩
    refine List.forall_mem_cons.mpr ⟨(fun _ _ z => nomatch z), ?_⟩
    refine List.forall_mem_cons.mpr ⟨(fun _ _ z => nomatch z), ?_⟩
    refine List.forall_mem_cons.mpr ⟨(fun _ _ z => nomatch z), ?_⟩
    refine List.forall_mem_cons.mpr ⟨(fun _ _ z => nomatch z), ?_⟩
    refine List.forall_mem_cons.mpr ⟨(fun _ _ z => nomatch z), ?_⟩
    refine List.forall_mem_cons.mpr ⟨(fun _ _ z => nomatch z), ?_⟩
    refine List.forall_mem_cons.mpr ⟨(fun _ _ z => nomatch z), ?_⟩
    refine List.forall_mem_cons.mpr ⟨(fun _ _ z => nomatch z), ?_⟩
    exact fun _ z => nomatch z
  · unfold gt
    refine List.forall_mem_cons.mpr ⟨(fun z => nomatch z), ?_⟩
    refine List.forall_mem_cons.mpr ⟨(fun z => nomatch z), ?_⟩
    refine List.forall_mem_cons.mpr ⟨(fun z => nomatch z), ?_⟩
    refine List.forall_mem_cons.mpr ⟨(fun z => nomatch z), ?_⟩
    refine List.forall_mem_cons.mpr ⟨(fun z => nomatch z), ?_⟩
    refine List.forall_mem_cons.mpr ⟨(fun z => nomatch z), ?_⟩
    refine List.forall_mem_cons.mpr ⟨(fun z => nomatch z), ?_⟩
    refine List.forall_mem_cons.mpr ⟨(fun z => nomatch z), ?_⟩
    refine List.forall_mem_cons.mpr ⟨(fun z => nomatch z), ?_⟩
    refine List.forall_mem_cons.mpr ⟨(fun z => nomatch z), ?_⟩
    refine List.forall_mem_cons.mpr ⟨(fun z => nomatch z), ?_⟩
    refine List.forall_mem_cons.mpr ⟨(fun z => nomatch z), ?_⟩
    refine List.forall_mem_cons.mpr ⟨(fun z => nomatch z), ?_⟩
    refine List.forall_mem_cons.mpr ⟨(fun z => nomatch z), ?_⟩
    refine List.forall_mem_cons.mpr ⟨(fun z => nomatch z), ?_⟩
    refine List.forall_mem_cons.mpr ⟨(fun z => nomatch z), ?_⟩
    refine List.forall_mem_cons.mpr ⟨(fun z => nomatch z), ?_⟩
    refine List.forall_mem_cons.mpr ⟨(fun z => nomatch z), ?_⟩
    refine List.forall_mem_cons.mpr ⟨(fun z => nomatch z), ?_⟩
    refine List.forall_mem_cons.mpr ⟨(fun z => nomatch z), ?_⟩
    refine List.forall_mem_cons.mpr ⟨(fun z => nomatch z), ?_⟩
    refine List.forall_mem_cons.mpr ⟨(fun z => nomatch z), ?_⟩
    refine List.forall_mem_cons.mpr ⟨(fun z => nomatch z), ?_⟩
    refine List.forall_mem_cons.mpr ⟨(fun z => nomatch z), ?_⟩
    refine List.forall_mem_cons.mpr ⟨(fun z => nomatch z), ?_⟩
    refine List.forall_mem_cons.mpr ⟨(fun z => nomatch z), ?_⟩
    refine List.forall_mem_cons.mpr ⟨(fun z => nomatch z), ?_⟩
    refine List.forall_mem_cons.mpr ⟨(fun z => nomatch z), ?_⟩
    refine List.forall_mem_cons.mpr ⟨(fun z => nomatch z), ?_⟩
    refine List.forall_mem_cons.mpr ⟨(fun z => nomatch z), ?_⟩
    refine List.forall_mem_cons.mpr ⟨(fun z => nomatch z), ?_⟩
    refine List.forall_mem_cons.mpr ⟨(fun z => nomatch z), ?_⟩
    refine List.forall_mem_cons.mpr ⟨(fun z => nomatch z), ?_⟩
    refine List.forall_mem_cons.mpr ⟨(fun z => nomatch z), ?_⟩
    refine List.forall_mem_cons.mpr ⟨(fun z => nomatch z), ?_⟩
    refine List.forall_mem_cons.mpr ⟨(fun z => nomatch z), ?_⟩
    refine List.forall_mem_cons.mpr ⟨fun _ => ?_, ?_⟩
    · obtain ⟨fdS, FS⟩ := c.def_ 31 (d := dd "_law_said" 49) rfl
      obtain ⟨fdW, FW⟩ := c.def_ 29 (d := dd "_law_word" 48) rfl
      exact said_fact (av := "_law_call") (ev := "_law_e") (gtw := gtw) (F := f__law_word) (N := n__law_word) (ps := p__law_word) X G (List.forall_mem_cons.mpr ⟨c.fact 21 (f := .glo "_law_said") rfl, List.forall_mem_cons.mpr ⟨c.fact 29 (f := .glo "ClubError") rfl, List.forall_mem_cons.mpr ⟨c.fact 19 (f := .glo "_law_word") rfl, fun _ z => nomatch z⟩⟩⟩) (c.fact 71 (f := .free "repr") rfl) FS (by decide +kernel) (FunD.bindsN FS fun _ _ _ _ _ _ us hl => match us, hl with | [_], _ => rfl) (by decide +kernel) (by decide +kernel) (by decide +kernel) (by decide +kernel) (by decide +kernel) (by decide +kernel) (by decide +kernel) (by decide +kernel)
        (by decide +kernel) (by kernel_rfl) FW s__law_word (FunD.bindsN FW fun _ _ _ _ _ _ us hl => match us, hl with | [_], _ => rfl) rfl rfl rfl c__law_word
    refine List.forall_mem_cons.mpr ⟨(fun z => nomatch z), ?_⟩
    refine List.forall_mem_cons.mpr ⟨(fun z => nomatch z), ?_⟩
    refine List.forall_mem_cons.mpr ⟨(fun z => nomatch z), ?_⟩
    refine List.forall_mem_cons.mpr ⟨(fun z => nomatch z), ?_⟩
    refine List.forall_mem_cons.mpr ⟨(fun z => nomatch z), ?_⟩
    refine List.forall_mem_cons.mpr ⟨(fun z => nomatch z), ?_⟩
    refine List.forall_mem_cons.mpr ⟨(fun z => nomatch z), ?_⟩
    refine List.forall_mem_cons.mpr ⟨(fun z => nomatch z), ?_⟩
    refine List.forall_mem_cons.mpr ⟨(fun z => nomatch z), ?_⟩
    refine List.forall_mem_cons.mpr ⟨(fun z => nomatch z), ?_⟩
    refine List.forall_mem_cons.mpr ⟨(fun z => nomatch z), ?_⟩
    refine List.forall_mem_cons.mpr ⟨(fun z => nomatch z), ?_⟩
    refine List.forall_mem_cons.mpr ⟨(fun z => nomatch z), ?_⟩
    refine List.forall_mem_cons.mpr ⟨(fun z => nomatch z), ?_⟩
    refine List.forall_mem_cons.mpr ⟨(fun z => nomatch z), ?_⟩
    refine List.forall_mem_cons.mpr ⟨(fun z => nomatch z), ?_⟩
    refine List.forall_mem_cons.mpr ⟨(fun z => nomatch z), ?_⟩
    refine List.forall_mem_cons.mpr ⟨(fun z => nomatch z), ?_⟩
    refine List.forall_mem_cons.mpr ⟨(fun z => nomatch z), ?_⟩
    refine List.forall_mem_cons.mpr ⟨(fun z => nomatch z), ?_⟩
    refine List.forall_mem_cons.mpr ⟨(fun z => nomatch z), ?_⟩
    refine List.forall_mem_cons.mpr ⟨(fun z => nomatch z), ?_⟩
    refine List.forall_mem_cons.mpr ⟨(fun z => nomatch z), ?_⟩
    refine List.forall_mem_cons.mpr ⟨(fun z => nomatch z), ?_⟩
    refine List.forall_mem_cons.mpr ⟨(fun z => nomatch z), ?_⟩
    refine List.forall_mem_cons.mpr ⟨(fun z => nomatch z), ?_⟩
    refine List.forall_mem_cons.mpr ⟨(fun z => nomatch z), ?_⟩
    refine List.forall_mem_cons.mpr ⟨(fun z => nomatch z), ?_⟩
    exact fun _ z => nomatch z
  · unfold gt
    refine List.forall_mem_cons.mpr ⟨(fun _ z => nomatch z), ?_⟩
    refine List.forall_mem_cons.mpr ⟨(fun _ z => nomatch z), ?_⟩
    refine List.forall_mem_cons.mpr ⟨(fun _ z => nomatch z), ?_⟩
    refine List.forall_mem_cons.mpr ⟨(fun _ z => nomatch z), ?_⟩
    refine List.forall_mem_cons.mpr ⟨(fun _ z => nomatch z), ?_⟩
    refine List.forall_mem_cons.mpr ⟨(fun _ z => nomatch z), ?_⟩
    refine List.forall_mem_cons.mpr ⟨(fun _ z => nomatch z), ?_⟩
    refine List.forall_mem_cons.mpr ⟨(fun _ z => nomatch z), ?_⟩
    refine List.forall_mem_cons.mpr ⟨(fun _ z => nomatch z), ?_⟩
    refine List.forall_mem_cons.mpr ⟨(fun _ z => nomatch z), ?_⟩
    refine List.forall_mem_cons.mpr ⟨(fun _ z => nomatch z), ?_⟩
    refine List.forall_mem_cons.mpr ⟨(fun _ z => nomatch z), ?_⟩
    refine List.forall_mem_cons.mpr ⟨(fun _ z => nomatch z), ?_⟩
    refine List.forall_mem_cons.mpr ⟨(fun _ z => nomatch z), ?_⟩
    refine List.forall_mem_cons.mpr ⟨(fun _ z => nomatch z), ?_⟩
    refine List.forall_mem_cons.mpr ⟨(fun _ z => nomatch z), ?_⟩
    refine List.forall_mem_cons.mpr ⟨(fun _ z => nomatch z), ?_⟩
    refine List.forall_mem_cons.mpr ⟨(fun _ z => nomatch z), ?_⟩
    refine List.forall_mem_cons.mpr ⟨(fun _ z => nomatch z), ?_⟩
    refine List.forall_mem_cons.mpr ⟨(fun _ z => nomatch z), ?_⟩
    refine List.forall_mem_cons.mpr ⟨(fun _ z => nomatch z), ?_⟩
    refine List.forall_mem_cons.mpr ⟨(fun _ z => nomatch z), ?_⟩
    refine List.forall_mem_cons.mpr ⟨(fun _ z => nomatch z), ?_⟩
    refine List.forall_mem_cons.mpr ⟨(fun _ z => nomatch z), ?_⟩
    refine List.forall_mem_cons.mpr ⟨(fun _ z => nomatch z), ?_⟩
    refine List.forall_mem_cons.mpr ⟨(fun _ z => nomatch z), ?_⟩
    refine List.forall_mem_cons.mpr ⟨(fun _ z => nomatch z), ?_⟩
    refine List.forall_mem_cons.mpr ⟨(fun _ z => nomatch z), ?_⟩
    refine List.forall_mem_cons.mpr ⟨(fun _ z => nomatch z), ?_⟩
    refine List.forall_mem_cons.mpr ⟨(fun _ z => nomatch z), ?_⟩
    refine List.forall_mem_cons.mpr ⟨(fun _ z => nomatch z), ?_⟩
    refine List.forall_mem_cons.mpr ⟨(fun _ z => nomatch z), ?_⟩
    refine List.forall_mem_cons.mpr ⟨(fun _ z => nomatch z), ?_⟩
    refine List.forall_mem_cons.mpr ⟨(fun _ z => nomatch z), ?_⟩
    refine List.forall_mem_cons.mpr ⟨(fun _ z => nomatch z), ?_⟩
    refine List.forall_mem_cons.mpr ⟨(fun _ z => nomatch z), ?_⟩
    refine List.forall_mem_cons.mpr ⟨(fun _ z => nomatch z), ?_⟩
    refine List.forall_mem_cons.mpr ⟨(fun _ z => nomatch z), ?_⟩
    refine List.forall_mem_cons.mpr ⟨(fun _ z => nomatch z), ?_⟩
    refine List.forall_mem_cons.mpr ⟨(fun _ z => nomatch z), ?_⟩
    refine List.forall_mem_cons.mpr ⟨(fun _ z => nomatch z), ?_⟩
    refine List.forall_mem_cons.mpr ⟨(fun _ z => nomatch z), ?_⟩
    refine List.forall_mem_cons.mpr ⟨(fun _ z => nomatch z), ?_⟩
    refine List.forall_mem_cons.mpr ⟨(fun _ z => nomatch z), ?_⟩
    refine List.forall_mem_cons.mpr ⟨(fun _ z => nomatch z), ?_⟩
    refine List.forall_mem_cons.mpr ⟨(fun _ z => nomatch z), ?_⟩
    refine List.forall_mem_cons.mpr ⟨(fun _ z => nomatch z), ?_⟩
    refine List.forall_mem_cons.mpr ⟨(fun _ z => nomatch z), ?_⟩
    refine List.forall_mem_cons.mpr ⟨(fun _ z => nomatch z), ?_⟩
    refine List.forall_mem_cons.mpr ⟨(fun _ z => nomatch z), ?_⟩
    refine List.forall_mem_cons.mpr ⟨(fun _ z => nomatch z), ?_⟩
    refine List.forall_mem_cons.mpr ⟨(fun _ z => nomatch z), ?_⟩
    refine List.forall_mem_cons.mpr ⟨(fun _ z => nomatch z), ?_⟩
    refine List.forall_mem_cons.mpr ⟨(fun _ z => nomatch z), ?_⟩
    refine List.forall_mem_cons.mpr ⟨(fun _ z => nomatch z), ?_⟩
    refine List.forall_mem_cons.mpr ⟨(fun _ z => nomatch z), ?_⟩
    refine List.forall_mem_cons.mpr ⟨(fun _ z => nomatch z), ?_⟩
    refine List.forall_mem_cons.mpr ⟨(fun _ z => nomatch z), ?_⟩
    refine List.forall_mem_cons.mpr ⟨(fun _ z => nomatch z), ?_⟩
    refine List.forall_mem_cons.mpr ⟨(fun _ z => nomatch z), ?_⟩
    refine List.forall_mem_cons.mpr ⟨(fun _ z => nomatch z), ?_⟩
    refine List.forall_mem_cons.mpr ⟨(fun _ z => nomatch z), ?_⟩
    refine List.forall_mem_cons.mpr ⟨(fun _ z => nomatch z), ?_⟩
    refine List.forall_mem_cons.mpr ⟨(fun _ z => nomatch z), ?_⟩
    refine List.forall_mem_cons.mpr ⟨(fun _ z => nomatch z), ?_⟩
    exact fun _ z => nomatch z
  · unfold gt
    refine List.forall_mem_cons.mpr ⟨(fun z => nomatch z), ?_⟩
    refine List.forall_mem_cons.mpr ⟨(fun z => nomatch z), ?_⟩
    refine List.forall_mem_cons.mpr ⟨(fun z => nomatch z), ?_⟩
    refine List.forall_mem_cons.mpr ⟨(fun z => nomatch z), ?_⟩
    refine List.forall_mem_cons.mpr ⟨(fun z => nomatch z), ?_⟩
    refine List.forall_mem_cons.mpr ⟨(fun z => nomatch z), ?_⟩
    refine List.forall_mem_cons.mpr ⟨(fun z => nomatch z), ?_⟩
    refine List.forall_mem_cons.mpr ⟨(fun z => nomatch z), ?_⟩
    refine List.forall_mem_cons.mpr ⟨(fun z => nomatch z), ?_⟩
    refine List.forall_mem_cons.mpr ⟨(fun z => nomatch z), ?_⟩
    refine List.forall_mem_cons.mpr ⟨(fun z => nomatch z), ?_⟩
    refine List.forall_mem_cons.mpr ⟨(fun z => nomatch z), ?_⟩
    refine List.forall_mem_cons.mpr ⟨(fun z => nomatch z), ?_⟩
    refine List.forall_mem_cons.mpr ⟨(fun z => nomatch z), ?_⟩
    refine List.forall_mem_cons.mpr ⟨(fun z => nomatch z), ?_⟩
    refine List.forall_mem_cons.mpr ⟨(fun z => nomatch z), ?_⟩
    refine List.forall_mem_cons.mpr ⟨(fun z => nomatch z), ?_⟩
    refine List.forall_mem_cons.mpr ⟨(fun z => nomatch z), ?_⟩
    refine List.forall_mem_cons.mpr ⟨(fun z => nomatch z), ?_⟩
    refine List.forall_mem_cons.mpr ⟨(fun z => nomatch z), ?_⟩
    refine List.forall_mem_cons.mpr ⟨(fun z => nomatch z), ?_⟩
    refine List.forall_mem_cons.mpr ⟨(fun z => nomatch z), ?_⟩
    refine List.forall_mem_cons.mpr ⟨(fun z => nomatch z), ?_⟩
    refine List.forall_mem_cons.mpr ⟨(fun z => nomatch z), ?_⟩
    refine List.forall_mem_cons.mpr ⟨(fun z => nomatch z), ?_⟩
    refine List.forall_mem_cons.mpr ⟨(fun z => nomatch z), ?_⟩
    refine List.forall_mem_cons.mpr ⟨(fun z => nomatch z), ?_⟩
    refine List.forall_mem_cons.mpr ⟨(fun z => nomatch z), ?_⟩
    refine List.forall_mem_cons.mpr ⟨(fun z => nomatch z), ?_⟩
    refine List.forall_mem_cons.mpr ⟨(fun z => nomatch z), ?_⟩
    refine List.forall_mem_cons.mpr ⟨(fun z => nomatch z), ?_⟩
    refine List.forall_mem_cons.mpr ⟨(fun z => nomatch z), ?_⟩
    refine List.forall_mem_cons.mpr ⟨(fun z => nomatch z), ?_⟩
    refine List.forall_mem_cons.mpr ⟨(fun z => nomatch z), ?_⟩
    refine List.forall_mem_cons.mpr ⟨(fun z => nomatch z), ?_⟩
    refine List.forall_mem_cons.mpr ⟨fun _ => ?_, ?_⟩
    · obtain ⟨fd, F⟩ := c.def_ 32 (d := dm "NotDone" "__init__" "NotDone.__init__" 19 0 []) rfl
      exact ⟨_, "self", "at", _, _, _, fd, F, by decide +kernel, by decide +kernel, by decide +kernel, by decide +kernel, by decide +kernel, by decide +kernel, by decide +kernel, FunD.bindsN F fun _ _ _ _ _ _ us hl => match us, hl with | [_, _], _ => rfl, He.glo_ok X G (c.fact 29 (f := .glo "ClubError") rfl)⟩
    refine List.forall_mem_cons.mpr ⟨(fun z => nomatch z), ?_⟩
    refine List.forall_mem_cons.mpr ⟨(fun z => nomatch z), ?_⟩
    refine List.forall_mem_cons.mpr ⟨(fun z => nomatch z), ?_⟩
    refine List.forall_mem_cons.mpr ⟨(fun z => nomatch z), ?_⟩
    refine List.forall_mem_cons.mpr ⟨(fun z => nomatch z), ?_⟩
    refine List.forall_mem_cons.mpr ⟨(fun z => nomatch z), ?_⟩
    refine List.forall_mem_cons.mpr ⟨(fun z => nomatch z), ?_⟩
    refine List.forall_mem_cons.mpr ⟨(fun z => nomatch z), ?_⟩
    refine List.forall_mem_cons.mpr ⟨(fun z => nomatch z), ?_⟩
    refine List.forall_mem_cons.mpr ⟨(fun z => nomatch z), ?_⟩
    refine List.forall_mem_cons.mpr ⟨(fun z => nomatch z), ?_⟩
    refine List.forall_mem_cons.mpr ⟨(fun z => nomatch z), ?_⟩
    refine List.forall_mem_cons.mpr ⟨(fun z => nomatch z), ?_⟩
    refine List.forall_mem_cons.mpr ⟨(fun z => nomatch z), ?_⟩
    refine List.forall_mem_cons.mpr ⟨(fun z => nomatch z), ?_⟩
    refine List.forall_mem_cons.mpr ⟨(fun z => nomatch z), ?_⟩
    refine List.forall_mem_cons.mpr ⟨(fun z => nomatch z), ?_⟩
    refine List.forall_mem_cons.mpr ⟨(fun z => nomatch z), ?_⟩
    refine List.forall_mem_cons.mpr ⟨(fun z => nomatch z), ?_⟩
    refine List.forall_mem_cons.mpr ⟨(fun z => nomatch z), ?_⟩
    refine List.forall_mem_cons.mpr ⟨(fun z => nomatch z), ?_⟩
    refine List.forall_mem_cons.mpr ⟨(fun z => nomatch z), ?_⟩
    refine List.forall_mem_cons.mpr ⟨(fun z => nomatch z), ?_⟩
    refine List.forall_mem_cons.mpr ⟨(fun z => nomatch z), ?_⟩
    refine List.forall_mem_cons.mpr ⟨(fun z => nomatch z), ?_⟩
    refine List.forall_mem_cons.mpr ⟨(fun z => nomatch z), ?_⟩
    refine List.forall_mem_cons.mpr ⟨(fun z => nomatch z), ?_⟩
    refine List.forall_mem_cons.mpr ⟨(fun z => nomatch z), ?_⟩
    refine List.forall_mem_cons.mpr ⟨(fun z => nomatch z), ?_⟩
    exact fun _ z => nomatch z
end
theorem holds (T : ∀ ns : List Int, ns.length ≤ 63 → ∃ S' : Sto, callS gi fns 14 "law" [scr (ns.map .int)] [] = .ok (.bool true) S') : PySem.Challenge.rw_tenturns_k10_classes_of_refusals.Holds := by
  w_on; o_law
  refine HandSHeadRun.head_any (r := OpenLaw.row PySem.Challenge.rw_tenturns_k10_classes_of_refusals) (q := view (OpenLaw.row PySem.Challenge.rw_tenturns_k10_classes_of_refusals).prog [50]) (H := hk) (ob := ob) (M := 12000) (loose := names) (d := HandSHeadRun.topDef (OpenLaw.row PySem.Challenge.rw_tenturns_k10_classes_of_refusals).prog 50) (kwd := []) ob_eq
    (by kernel_rfl) (fun s => by kernel_rfl) run (by kernel_rfl) (by kernel_rfl) (by kernel_rfl) (by rfl) (by first | assumption | decide +kernel) (by decide +kernel) ⟨rfl, rfl, rfl, rfl, rfl, by decide +kernel⟩ ?hw ?hc
  case hw => w_witness2
  case hc =>
    refine walk_ofG (l := PySem.Challenge.rw_tenturns_k10_classes_of_refusals) (n := 63) (k := 57) (x := "_law_script") rfl (by decide) (by kernel_rfl) ⟨rfl, by decide, by decide⟩ ?F
    intro w mg fa0 h Y G hmg0
    obtain ⟨K, KX, c0⟩ := Y
    have c := c0.t.d
    have hmg : mg ("law" : PySem.Str) = some (.ref fa0) := by
      have e : (HandSHeadRun.topDef (OpenLaw.row PySem.Challenge.rw_tenturns_k10_classes_of_refusals).prog 50).name = ("law" : PySem.Str) := by kernel_rfl
      rw [← e]
      exact hmg0
    obtain ⟨fd, F⟩ := c.def_ 30 (d := dd "law" 50) rfl
    have e := hmg.symm.trans (He.glo_ok KX G (c.fact 20 (f := .glo "law") rfl))
    cases e
    have b := FunD.bindsA (ps := [("_law_script" : Str)]) F fun _ _ _ _ _ _ us hl => match us, hl with | [_], _ => rfl
    refine ⟨K, fd, tf.map (He.cT K), fun base => spG (pg (PySem.Challenge.rw_tenturns_k10_classes_of_refusals).prog w K mg base gi gt tf) (callS gi fns 14 "law"), KX, fun p hp => ?_, fun p hp => ?_, fun p hp => ?_, fun s v => b s [v] rfl, fun base H a ns hl hT hS => ?_, fun base hb hg ht => ?_⟩
    · obtain ⟨z, hz, rfl⟩ := List.mem_map.mp hp
      exact c0.empty z hz
    · obtain ⟨z, hz, rfl⟩ := List.mem_map.mp hp
      exact c0.out z hz
    · obtain ⟨z, hz, rfl⟩ := List.mem_map.mp hp
      exact PySem.W.codeHd_of_K KX (c0.hd z hz)
    · obtain ⟨S', hh⟩ := T ns hl
      refine law_spG rfl (fun p hp => ?_) hS hh
      obtain ⟨z, hz, rfl⟩ := List.mem_map.mp hp
      exact hT _ (List.mem_map.mpr ⟨z, hz, rfl⟩)
    · exact law_fn (P := pg (PySem.Challenge.rw_tenturns_k10_classes_of_refusals).prog w K mg base gi gt tf) (tbl KX G c c0.more ht) 13 (by kernel_rfl) F s_law rfl rfl c_law (fun _ => lamFd_of F c0.more (by decide +kernel) ht)


end K10
end

section
set_option Elab.async false
set_option linter.all false
set_option maxRecDepth 100000
/-! PLV: lemmas to run the evaluator on symbolic data. -/
namespace PL
open PySem
section
variable {gi : Str → Option Int} {fns : Str → Option Fn}
theorem callS_fn {F : Fn} {f : Str} (h : fns f = some F) (n : Nat) (ws : List D) (S : Sto) : callS gi fns (n + 1) f ws S = runF (callS gi fns n) gi F ws S := by
  simp only [callS, h]
end
theorem compL_map {β : Type} {ok : Sto → Prop} {put : D → Option Env} {cond elt : Env → Sto → Out D} {S : Sto} (hok : ok S) (enc : β → D) (p : β → Bool) (f : β → D) : ∀ (xs : List β) (acc : List D),
    (∀ x ∈ xs, ∃ ρ, put (enc x) = some ρ ∧ cond ρ S = .ok (.bool (p x)) S ∧ (p x = true → elt ρ S = .ok (f x) S)) → acc.length + xs.length ≤ lim → compL ok put cond elt (xs.map enc) acc S = .ok (acc ++ (xs.filter p).map f) S
  | [], acc, _, _ => by simp [compL, hok]
  | x :: xs, acc, h, hl => by
    obtain ⟨ρ, e1, e2, e3⟩ := h x List.mem_cons_self
    have hl' : acc.length + (xs.length + 1) ≤ lim := by simpa using hl
    simp only [List.map_cons, compL, if_pos hok, e1, e2]
    by_cases q : p x = true
    · simp only [q]
      rw [e3 q]
      simp only
      rw [if_pos (by omega), compL_map hok enc p f xs _ (fun y hy => h y (List.mem_cons_of_mem _ hy)) (by simp; omega), List.filter_cons_of_pos q]
      simp
    · have q' : p x = false := by simpa using q
      simp only [q']
      rw [compL_map hok enc p f xs _ (fun y hy => h y (List.mem_cons_of_mem _ hy)) (by omega), List.filter_cons_of_neg q]
theorem forL_inv {ok : Sto → Prop} {put : D → Env → Option Env} {body : Env → Sto → SOut} (I : List D → Env → Sto → Prop) (Post : SOut → Prop) (h0 : ∀ ρ S, I [] ρ S → ok S ∧ Post (.next ρ S))
    (hs : ∀ d ds ρ S, I (d :: ds) ρ S → ok S ∧ ∃ ρ', put d ρ = some ρ' ∧ ((∃ ρ2 S2, body ρ' S = .next ρ2 S2 ∧ I ds ρ2 S2) ∨ ∃ x S2, body ρ' S = .ret x S2 ∧ Post (.ret x S2))) :
    ∀ ds ρ S, I ds ρ S → Post (forL ok put body ds ρ S)
  | [], ρ, S, h => by
    obtain ⟨h1, h2⟩ := h0 ρ S h
    simp only [forL, if_pos h1]
    exact h2
  | d :: ds, ρ, S, h => by
    obtain ⟨h1, ρ', e, k⟩ := hs d ds ρ S h
    simp only [forL, if_pos h1, e]
    rcases k with ⟨ρ2, S2, e2, k⟩ | ⟨x, S2, e2, k⟩
    · rw [e2]
      exact forL_inv I Post h0 hs ds ρ2 S2 k
    · rw [e2]
      exact k
theorem fin_pure {S S' : Sto} {d : D} (h : S'.take S.length = S) (hr : refB S.length d = true) : fin .pure S d S' = .ok d S := by
  simp only [fin]
  rw [if_pos ⟨h, hr⟩]
theorem fin_pure1 {S : Sto} {d : D} (hr : refB S.length d = true) : fin .pure S d S = .ok d S := fin_pure (List.take_length) hr
theorem fin_pureA {S T : Sto} {d : D} (hr : refB S.length d = true) : fin .pure S d (S ++ T) = .ok d S := fin_pure (by simp) hr
theorem fin_trunc {S S' : Sto} {d : D} (h1 : S.length ≤ S'.length) (h2 : refB S.length d = true) (h3 : (S'.take S.length).all (refO S.length) = true) : fin .trunc S d S' = .ok d (S'.take S.length) := by
  simp only [fin]
  rw [if_pos ⟨h1, h2, h3⟩]
theorem refBs_map {β : Type} {n : Nat} {f : β → D} (h : ∀ x, refB n (f x) = true) : ∀ xs : List β, refBs n (xs.map f) = true
  | [] => by simp [refBs]
  | x :: xs => by simp [refBs, h x, refBs_map h xs]
@[simp] theorem refB_int (n : Nat) (i : Int) : refB n (.int i) = true := by unfold refB; rfl
@[simp] theorem refB_bool (n : Nat) (i : Bool) : refB n (.bool i) = true := by unfold refB; rfl
@[simp] theorem refB_none (n : Nat) : refB n .none = true := by unfold refB; rfl
@[simp] theorem refB_tuple (n : Nat) (xs : List D) : refB n (.tuple xs) = refBs n xs := by simp [refB]
@[simp] theorem refB_list (n : Nat) (xs : List D) : refB n (.list xs) = refBs n xs := by simp [refB]
@[simp] theorem refBs_nil (n : Nat) : refBs n [] = true := by simp [refBs]
@[simp] theorem refBs_cons (n : Nat) (x : D) (xs : List D) : refBs n (x :: xs) = (refB n x && refBs n xs) := by simp [refBs]
@[simp] theorem refBs_ints (n : Nat) (ns : List Int) : refBs n (ns.map .int) = true := refBs_map (fun _ => refB_int ..) ns
@[simp] theorem refO_ints (n : Nat) (ns : List Int) : refO n (.lst (ns.map .int)) = true := by simp [refO]
/-- the store holds lists of ints alone -/
def SI (S : Sto) : Prop := ∀ o ∈ S, ∃ ns : List Int, o = .lst (ns.map .int)
theorem SI.all {S : Sto} (h : SI S) (n : Nat) : S.all (refO n) = true := List.all_eq_true.mpr fun o ho => by
  obtain ⟨ns, rfl⟩ := h o ho
  simp
theorem SI.set {S : Sto} (h : SI S) (i : Nat) (ns : List Int) : SI (S.set i (.lst (ns.map .int))) := fun o ho => by
  rcases List.mem_or_eq_of_mem_set ho with q | q
  · exact h o q
  · exact ⟨ns, q⟩
theorem SI.app {S : Sto} (h : SI S) (ns : List Int) : SI (S ++ [.lst (ns.map .int)]) := fun o ho => by
  rcases List.mem_append.mp ho with q | q
  · exact h o q
  · exact ⟨ns, by simpa using q⟩
@[simp] theorem intsOf_ints (ns : List Int) : intsOf (ns.map .int) = some ns := by
  induction ns with
  | nil => rfl
  | cons n ns ih => simp [intsOf, ih]
@[simp] theorem boolsOf_bools (ns : List Bool) : boolsOf (ns.map .bool) = some ns := by
  induction ns with
  | nil => rfl
  | cons n ns ih => simp [boolsOf, ih]
@[simp] theorem boolsOf_map {β : Type} (f : β → Bool) (xs : List β) : boolsOf (xs.map fun x => .bool (f x)) = some (xs.map f) := by
  induction xs with
  | nil => rfl
  | cons n ns ih => simp [boolsOf, ih]
@[simp] theorem intsOf_map {β : Type} (f : β → Int) (xs : List β) : intsOf (xs.map fun x => .int (f x)) = some (xs.map f) := by
  induction xs with
  | nil => rfl
  | cons n ns ih => simp [intsOf, ih]
@[simp] theorem asRef_tuple (xs : List D) : asRef (.tuple xs) = none := rfl
@[simp] theorem asRef_list (xs : List D) : asRef (.list xs) = none := rfl
@[simp] theorem asScr_tuple (xs : List D) : asScr (.tuple xs) = none := rfl
@[simp] theorem asScr_list (xs : List D) : asScr (.list xs) = none := rfl
@[simp] theorem asScr_rf (i : Nat) : asScr (rf i) = none := rfl
@[simp] theorem wk_ok_nil (xs : List D) (b : Bool) (S : Sto) : Wk.ok ⟨xs, [], b⟩ S := fun p hp => by cases hp
section
variable {G : Calls} {gi : Str → Option Int}
theorem e_var {i} {ρ : Env} {S : Sto} : ev G gi (.var i) ρ S = (match ρ[i]? with
    | some (some d) => .ok d S
    | _ => .bad) := by first | (rw [ev]; done) | (rw [ev]; rfl)
theorem e_int {i} {ρ : Env} {S : Sto} : ev G gi (.int i) ρ S = .ok (.int i) S := by first | (rw [ev]; done) | (rw [ev]; rfl)
theorem e_bl {b} {ρ : Env} {S : Sto} : ev G gi (.bl b) ρ S = .ok (.bool b) S := by first | (rw [ev]; done) | (rw [ev]; rfl)
theorem e_non {ρ : Env} {S : Sto} : ev G gi (.non) ρ S = .ok .none S := by first | (rw [ev]; done) | (rw [ev]; rfl)
theorem e_str {x} {ρ : Env} {S : Sto} : ev G gi (.str x) ρ S = .ok (.str x) S := by first | (rw [ev]; done) | (rw [ev]; rfl)
theorem e_gstr {x z} {ρ : Env} {S : Sto} : ev G gi (.gstr x z) ρ S = .ok (.str z) S := by first | (rw [ev]; done) | (rw [ev]; rfl)
theorem e_gint {x} {ρ : Env} {S : Sto} : ev G gi (.gint x) ρ S = (match gi x with
    | some i => .ok (.int i) S
    | none => .bad) := by first | (rw [ev]; done) | (rw [ev]; rfl)
theorem e_tup {es} {ρ : Env} {S : Sto} : ev G gi (.tup es) ρ S = (evs G gi es ρ S).bind fun ws S => if ws.length ≤ lim then .ok (.tuple ws) S else .bad := by first | (rw [ev]; done) | (rw [ev]; rfl)
theorem e_lst {r es} {ρ : Env} {S : Sto} : ev G gi (.lst r es) ρ S = (evs G gi es ρ S).bind fun ws S => allocL r ws S := by first | (rw [ev]; done) | (rw [ev]; rfl)
theorem e_dct {kvs} {ρ : Env} {S : Sto} : ev G gi (.dct kvs) ρ S = .ok (.dict (kvs.map fun p => (.int p.1, .int p.2))) S := by first | (rw [ev]; done) | (rw [ev]; rfl)
theorem e_op {o a b} {ρ : Env} {S : Sto} : ev G gi (.op o a b) ρ S = (ev G gi a ρ S).bind fun x S => (ev G gi b ρ S).bind fun y S => oret (opD S o x y) S := by first | (rw [ev]; done) | (rw [ev]; rfl)
theorem e_rep {a b} {ρ : Env} {S : Sto} : ev G gi (.rep a b) ρ S = (ev G gi a ρ S).bind fun x S => (ev G gi b ρ S).bind fun y S => repO S x y := by first | (rw [ev]; done) | (rw [ev]; rfl)
theorem e_cat {a b} {ρ : Env} {S : Sto} : ev G gi (.cat a b) ρ S = (ev G gi a ρ S).bind fun x S => (ev G gi b ρ S).bind fun y S => catO S x y := by first | (rw [ev]; done) | (rw [ev]; rfl)
theorem e_neg {a} {ρ : Env} {S : Sto} : ev G gi (.neg a) ρ S = (ev G gi a ρ S).bind fun x S => (match x with
    | .int i => .ok (.int (-i)) S
    | _ => .bad) := by first | (rw [ev]; done) | (rw [ev]; rfl)
theorem e_cm {c a b} {ρ : Env} {S : Sto} : ev G gi (.cm c a b) ρ S = (ev G gi a ρ S).bind fun x S => (ev G gi b ρ S).bind fun y S => oret ((cmD S c x y).map .bool) S := by first | (rw [ev]; done) | (rw [ev]; rfl)
theorem e_ch {c d a b e} {ρ : Env} {S : Sto} : ev G gi (.ch c d a b e) ρ S = (ev G gi a ρ S).bind fun x S => (ev G gi b ρ S).bind fun y S => (match cmD S c x y with
    | some true => (ev G gi e ρ S).bind fun z S => oret ((cmD S d y z).map .bool) S
    | some false => .ok (.bool false) S
    | none => .bad) := by first | (rw [ev]; done) | (rw [ev]; rfl)
theorem e_isN {neg a} {ρ : Env} {S : Sto} : ev G gi (.isN neg a) ρ S = (ev G gi a ρ S).bind fun x S => (match x with
    | .none => .ok (.bool (!neg)) S
    | _ => .ok (.bool neg) S) := by first | (rw [ev]; done) | (rw [ev]; rfl)
theorem e_isB {neg a b} {ρ : Env} {S : Sto} : ev G gi (.isB neg a b) ρ S = (ev G gi a ρ S).bind fun x S => (ev G gi b ρ S).bind fun y S => (match x, y with
    | .bool p, .bool q => .ok (.bool (neg != (p == q))) S
    | _, _ => .bad) := by first | (rw [ev]; done) | (rw [ev]; rfl)
theorem e_and {a b} {ρ : Env} {S : Sto} : ev G gi (.and a b) ρ S = (ev G gi a ρ S).bind fun x S => (match x with
    | .bool true => ev G gi b ρ S
    | .bool false => .ok (.bool false) S
    | _ => .bad) := by first | (rw [ev]; done) | (rw [ev]; rfl)
theorem e_or {a b} {ρ : Env} {S : Sto} : ev G gi (.or a b) ρ S = (ev G gi a ρ S).bind fun x S => (match x with
    | .bool true => .ok (.bool true) S
    | .bool false => ev G gi b ρ S
    | _ => .bad) := by first | (rw [ev]; done) | (rw [ev]; rfl)
theorem e_not {a} {ρ : Env} {S : Sto} : ev G gi (.not a) ρ S = (ev G gi a ρ S).bind fun x S => (match x with
    | .bool b => .ok (.bool (!b)) S
    | _ => .bad) := by first | (rw [ev]; done) | (rw [ev]; rfl)
theorem e_ite {c a b} {ρ : Env} {S : Sto} : ev G gi (.ite c a b) ρ S = (ev G gi c ρ S).bind fun x S => (match x with
    | .bool true => ev G gi a ρ S
    | .bool false => ev G gi b ρ S
    | _ => .bad) := by first | (rw [ev]; done) | (rw [ev]; rfl)
theorem e_ix {a b} {ρ : Env} {S : Sto} : ev G gi (.ix a b) ρ S = (ev G gi a ρ S).bind fun x S => (ev G gi b ρ S).bind fun y S => oret (ixD S x y) S := by first | (rw [ev]; done) | (rw [ev]; rfl)
theorem e_sl {a lo hi} {ρ : Env} {S : Sto} : ev G gi (.sl a lo hi) ρ S = (ev G gi a ρ S).bind fun x S => (evo G gi lo ρ S).bind fun l S => (evo G gi hi ρ S).bind fun h S => oret (slD S x l h) S := by first | (rw [ev]; done) | (rw [ev]; rfl)
theorem e_rev {a} {ρ : Env} {S : Sto} : ev G gi (.rev a) ρ S = (ev G gi a ρ S).bind fun x S => oret (revD S x) S := by first | (rw [ev]; done) | (rw [ev]; rfl)
theorem e_bi {f es} {ρ : Env} {S : Sto} : ev G gi (.bi f es) ρ S = (evs G gi es ρ S).bind fun ws S => biD f ws S := by first | (rw [ev]; done) | (rw [ev]; rfl)
theorem e_isi {a t} {ρ : Env} {S : Sto} : ev G gi (.isi a t) ρ S = (ev G gi a ρ S).bind fun x S => oret ((isiD S x t).map .bool) S := by first | (rw [ev]; done) | (rw [ev]; rfl)
theorem e_call {f es} {ρ : Env} {S : Sto} : ev G gi (.call f es) ρ S = (evs G gi es ρ S).bind fun ws S => G f ws S := by first | (rw [ev]; done) | (rw [ev]; rfl)
theorem e_new {c es} {ρ : Env} {S : Sto} : ev G gi (.new c es) ρ S = (evs G gi es ρ S).bind fun ws S => (G (c ++ ".__init__") (rf S.length :: ws) (S ++ [.ins c []])).bind fun r S1 => (match r with
    | .none => .ok (rf S.length) S1
    | _ => .bad) := by first | (rw [ev]; done) | (rw [ev]; rfl)
theorem e_meth {o c m es} {ρ : Env} {S : Sto} : ev G gi (.meth o c m es) ρ S = (ev G gi o ρ S).bind fun x S => (match (asRef x).bind (insD S) with
    | some (c', fs) => if c' = c ∧ fs.lookup m = none then (evs G gi es ρ S).bind fun ws S => G (c ++ "." ++ m) (x :: ws) S else .bad
    | none => .bad) := by first | (rw [ev]; done) | (rw [ev]; rfl)
theorem e_fld {o c f} {ρ : Env} {S : Sto} : ev G gi (.fld o c f) ρ S = (ev G gi o ρ S).bind fun x S => oret (fldD S x c f) S := by first | (rw [ev]; done) | (rw [ev]; rfl)
theorem e_bm {o m es} {ρ : Env} {S : Sto} : ev G gi (.bm o m es) ρ S = (ev G gi o ρ S).bind fun x S => if kdD S m x = true then (evs G gi es ρ S).bind fun ws S => bmD m x ws S else .bad := by first | (rw [ev]; done) | (rw [ev]; rfl)
theorem e_xat {e} {ρ : Env} {S : Sto} : ev G gi (.xat e) ρ S = (ev G gi e ρ S).bind fun x S => oret ((asAt x).map fun p => .int p.2) S := by first | (rw [ev]; done) | (rw [ev]; rfl)
theorem e_rpi {e} {ρ : Env} {S : Sto} : ev G gi (.rpi e) ρ S = (ev G gi e ρ S).bind fun x S => oret (rpiD x) S := by first | (rw [ev]; done) | (rw [ev]; rfl)
theorem e_calA {f es} {ρ : Env} {S : Sto} : ev G gi (.calA f es) ρ S = (evs G gi es ρ S).bind fun ws S => if refBs 0 ws = true then (match G f ws [] with
    | .ok d _ => if refB 0 d = true then .ok d S else .bad
    | _ => .bad) else .bad := by first | (rw [ev]; done) | (rw [ev]; rfl)
theorem e_mkx {c e} {ρ : Env} {S : Sto} : ev G gi (.mkx c e) ρ S = (ev G gi e ρ S).bind fun _ S => .ok (exD c) S := by first | (rw [ev]; done) | (rw [ev]; rfl)
theorem e_mkxA {c e} {ρ : Env} {S : Sto} : ev G gi (.mkxA c e) ρ S = (ev G gi e ρ S).bind fun x S => (match x with
    | .int i => .ok (exA c i) S
    | _ => .bad) := by first | (rw [ev]; done) | (rw [ev]; rfl)
theorem e_fmt {e} {ρ : Env} {S : Sto} : ev G gi (.fmt e) ρ S = (ev G gi e ρ S).bind fun x S => oret (fmtD x) S := by first | (rw [ev]; done) | (rw [ev]; rfl)
theorem e_fstr {es} {ρ : Env} {S : Sto} : ev G gi (.fstr es) ρ S = evf G gi es Str.empty ρ S := by first | (rw [ev]; done) | (rw [ev]; rfl)
theorem ef_nil {acc} {ρ : Env} {S : Sto} : evf G gi [] acc ρ S = .ok (.str acc) S := by first | (rw [evf]; done) | (rw [evf]; rfl)
theorem ef_cons {e es acc} {ρ : Env} {S : Sto} : evf G gi (e :: es) acc ρ S = (ev G gi e ρ S).bind fun w S => (match w with
    | .str y => if (acc ++ y).length ≤ lim then evf G gi es (acc ++ y) ρ S else .bad
    | _ => .bad) := by first | (rw [evf]; done) | (rw [evf]; rfl)
theorem e_frz {e} {ρ : Env} {S : Sto} : ev G gi (.frz e) ρ S = (ev G gi e ρ S).bind fun x S => frzD x S := by first | (rw [ev]; done) | (rw [ev]; rfl)
theorem e_said {e} {ρ : Env} {S : Sto} : ev G gi (.said e) ρ S = (match ev G gi e ρ S with
    | .ok x S1 => oret (reprD S1 x) S1
    | .exc x S1 => (match G "_law_word" [exV x] [] with
      | .ok (.str w) _ => .ok (.str w) S1
      | _ => .bad)
    | .bad => .bad) := by first | (rw [ev]; done) | (rw [ev]; rfl)
theorem e_sset {r e} {ρ : Env} {S : Sto} : ev G gi (.sset r e) ρ S = (ev G gi e ρ S).bind fun x S => oallo r (sortedSetD S x) S := by first | (rw [ev]; done) | (rw [ev]; rfl)
theorem e_own {o c s} {ρ : Env} {S : Sto} : ev G gi (.own o c s) ρ S = (ev G gi o ρ S).bind fun x S => (match (asRef x).bind (insD S) with
    | some (c', _) => if c' = c then (G (c ++ "." ++ s) [x] S).bind fun r S1 => (if ownR s r = true then .ok r S1 else .bad) else .bad
    | none => .bad) := by first | (rw [ev]; done) | (rw [ev]; rfl)
theorem e_lset {e} {ρ : Env} {S : Sto} : ev G gi (.lset e) ρ S = (ev G gi e ρ S).bind fun x S => oret (lenSetD S x) S := by first | (rw [ev]; done) | (rw [ev]; rfl)
theorem e_tupR {e} {ρ : Env} {S : Sto} : ev G gi (.tupR e) ρ S = (ev G gi e ρ S).bind fun x S => (match x with
    | .int i => if 0 ≤ i ∧ i ≤ 16777216 then .ok (.tuple (rangeL i)) S else .bad
    | _ => .bad) := by first | (rw [ev]; done) | (rw [ev]; rfl)
theorem e_oeq {neg c a b} {ρ : Env} {S : Sto} : ev G gi (.oeq neg c a b) ρ S = (ev G gi a ρ S).bind fun x S => (ev G gi b ρ S).bind fun y S => ownEq G neg c x y S := by first | (rw [ev]; done) | (rw [ev]; rfl)
theorem e_onin {c a b} {ρ : Env} {S : Sto} : ev G gi (.onin c a b) ρ S = (ev G gi a ρ S).bind fun x S => (ev G gi b ρ S).bind fun y S => if asRef x ≠ asRef y then ninEq G c x y S else .bad := by first | (rw [ev]; done) | (rw [ev]; rfl)
theorem e_oin {c a b} {ρ : Env} {S : Sto} : ev G gi (.oin c a b) ρ S = (ev G gi a ρ S).bind fun x S => (ev G gi b ρ S).bind fun y S => if asRef x ≠ asRef y then ownEq G false c y x S else .bad := by first | (rw [ev]; done) | (rw [ev]; rfl)
theorem e_never {ρ : Env} {S : Sto} : ev G gi (.never) ρ S = .bad := by first | (rw [ev]; done) | (rw [ev]; rfl)
theorem x_asg {t e} {ρ : Env} {S : Sto} : ex G gi (.asg t e) ρ S = (ev G gi e ρ S).st fun d S => asg G gi t d ρ S := by first | (rw [ex]; done) | (rw [ex]; rfl)
theorem x_expr {e} {ρ : Env} {S : Sto} : ex G gi (.expr e) ρ S = (ev G gi e ρ S).st fun _ S => .next ρ S := by first | (rw [ex]; done) | (rw [ex]; rfl)
theorem x_ret {e} {ρ : Env} {S : Sto} : ex G gi (.ret e) ρ S = (ev G gi e ρ S).st fun d S => .ret d S := by first | (rw [ex]; done) | (rw [ex]; rfl)
theorem x_retN {ρ : Env} {S : Sto} : ex G gi (.retN) ρ S = .ret .none S := by first | (rw [ex]; done) | (rw [ex]; rfl)
theorem x_ite {c a b} {ρ : Env} {S : Sto} : ex G gi (.ite c a b) ρ S = (ev G gi c ρ S).st fun x S => (match x with
    | .bool true => exs G gi a ρ S
    | .bool false => exs G gi b ρ S
    | _ => .bad) := by first | (rw [ex]; done) | (rw [ex]; rfl)
theorem x_raise {c es} {ρ : Env} {S : Sto} : ex G gi (.raise c es) ρ S = (evs G gi es ρ S).st fun _ S => .exc ⟨c, none⟩ S := by first | (rw [ex]; done) | (rw [ex]; rfl)
theorem x_raiseA {c e} {ρ : Env} {S : Sto} : ex G gi (.raiseA c e) ρ S = (ev G gi e ρ S).st fun x S => (match x with
    | .int i => .exc ⟨c, some i⟩ S
    | _ => .bad) := by first | (rw [ex]; done) | (rw [ex]; rfl)
theorem x_tryN {body} {ρ : Env} {S : Sto} : ex G gi (.tryN body) ρ S = (match exs G gi body ρ S with
    | .exc _ S => .ret .none S
    | r => r) := by first | (rw [ex]; done) | (rw [ex]; rfl)
theorem x_pass {ρ : Env} {S : Sto} : ex G gi (.pass) ρ S = .next ρ S := by first | (rw [ex]; done) | (rw [ex]; rfl)
theorem x_never {ρ : Env} {S : Sto} : ex G gi (.never) ρ S = .bad := by first | (rw [ex]; done) | (rw [ex]; rfl)
theorem x_nil {ρ : Env} {S : Sto} : exs G gi [] ρ S = .next ρ S := by first | (rw [exs]; done) | (rw [exs]; rfl)
theorem x_cons {s : St} {r : List St} {ρ : Env} {S : Sto} : exs G gi (s :: r) ρ S = (ex G gi s ρ S).seq fun ρ S => exs G gi r ρ S := by first | (rw [exs]; done) | (rw [exs]; rfl)
theorem es_nil {ρ : Env} {S : Sto} : evs G gi [] ρ S = .ok [] S := by first | (rw [evs]; done) | (rw [evs]; rfl)
theorem es_cons {e : E} {es : List E} {ρ : Env} {S : Sto} : evs G gi (e :: es) ρ S = (ev G gi e ρ S).bind fun w S => (evs G gi es ρ S).bind fun ws S => .ok (w :: ws) S := by first | (rw [evs]; done) | (rw [evs]; rfl)
theorem eo_none {ρ : Env} {S : Sto} : evo G gi none ρ S = .ok none S := by first | (rw [evo]; done) | (rw [evo]; rfl)
theorem eo_some {e : E} {ρ : Env} {S : Sto} : evo G gi (some e) ρ S = (ev G gi e ρ S).bind fun x S => (match x with
    | .int i => .ok (some i) S
    | _ => .bad) := by first | (rw [evo]; done) | (rw [evo]; rfl)
theorem ec_none {ρ : Env} {S : Sto} : evc G gi none ρ S = .ok (.bool true) S := by first | (rw [evc]; done) | (rw [evc]; rfl)
theorem ec_some {e : E} {ρ : Env} {S : Sto} : evc G gi (some e) ρ S = ev G gi e ρ S := by first | (rw [evc]; done) | (rw [evc]; rfl)
theorem a_name {i : Nat} {d : D} {ρ : Env} {S : Sto} : asg G gi (.name i) d ρ S = if i < ρ.length then .next (ρ.set i (some d)) S else .bad := by first | (rw [asg]; done) | (rw [asg]; rfl)
theorem a_tup {ts : List T} {ds : List D} {ρ : Env} {S : Sto} : asg G gi (.tup ts) (.tuple ds) ρ S = if ts.length = ds.length then asgs G gi ts ds ρ S else .bad := by first | (rw [asg]; done) | (rw [asg]; rfl)
theorem a_sub {o i : E} {d : D} {ρ : Env} {S : Sto} : asg G gi (.sub o i) d ρ S = (ev G gi o ρ S).st fun x S => (ev G gi i ρ S).st fun y S => (match setD S x y d with
    | some S => .next ρ S
    | none => .bad) := by first | (rw [asg]; done) | (rw [asg]; rfl)
theorem as_nil {ρ : Env} {S : Sto} : asgs G gi [] [] ρ S = .next ρ S := by first | (rw [asgs]; done) | (rw [asgs]; rfl)
theorem as_cons {t : T} {ts : List T} {d : D} {ds : List D} {ρ : Env} {S : Sto} : asgs G gi (t :: ts) (d :: ds) ρ S = (asg G gi t d ρ S).seq fun ρ S => asgs G gi ts ds ρ S := by first | (rw [asgs]; done) | (rw [asgs]; rfl)
theorem p_name {i : Nat} {d : D} {ρ : Env} : putT (.name i) d ρ = if i < ρ.length then some (ρ.set i (some d)) else none := by first | (rw [putT]; done) | (rw [putT]; rfl)
theorem p_tup {ts : List Tg} {ds : List D} {ρ : Env} : putT (.tup ts) (.tuple ds) ρ = putTs ts ds ρ := by first | (rw [putT]; done) | (rw [putT]; rfl)
theorem ps_nil {ρ : Env} : putTs [] [] ρ = some ρ := by first | (rw [putTs]; done) | (rw [putTs]; rfl)
theorem ps_cons {t : Tg} {ts : List Tg} {d : D} {ds : List D} {ρ : Env} : putTs (t :: ts) (d :: ds) ρ = (match putT t d ρ with
    | some ρ' => putTs ts ds ρ'
    | none => none) := by first | (rw [putTs]; done) | (rw [putTs]; rfl)
/-- a comprehension over items that stand still -/
theorem ev_comp {β : Type} {r : Bool} {elt : E} {own : List Nat} {tg : Tg} {it : I} {cond : Option E} {ρ : Env} {S : Sto} {w : Wk} (xs : List β) (enc : β → D) (p : β → Bool) (f : β → D) (en : β → Env) (hi : evi G gi it ρ S = .ok w S) (hw : w.items = xs.map enc) (hok : w.ok S) (hn : (w.pr && isNm tg) = false)
    (h : ∀ x ∈ xs, putT tg (enc x) (wipe ρ own) = some (en x) ∧ evc G gi cond (en x) S = .ok (.bool (p x)) S ∧ (p x = true → ev G gi elt (en x) S = .ok (f x) S)) (hl : xs.length ≤ lim) :
    ev G gi (.comp r elt own tg it cond) ρ S = allocL r ((xs.filter p).map f) S := by
  rw [ev, hi]
  simp only [Out.bind_ok, hn]
  rw [hw, compL_map hok enc p f xs [] (fun x hx => ⟨_, h x hx⟩) (by simpa using hl)]
  simp
theorem ev_compF {β : Type} {elt : E} {own : List Nat} {tg : Tg} {it : I} {cond : Option E} {ρ : Env} {S : Sto} {w : Wk} (xs : List β) (enc : β → D) (p : β → Bool) (f : β → D) (en : β → Env) (hi : evi G gi it ρ S = .ok w S) (hw : w.items = xs.map enc) (hok : w.ok S) (hn : (w.pr && isNm tg) = false)
    (h : ∀ x ∈ xs, putT tg (enc x) (wipe ρ own) = some (en x) ∧ evc G gi cond (en x) S = .ok (.bool (p x)) S ∧ (p x = true → ev G gi elt (en x) S = .ok (f x) S)) (hl : xs.length ≤ lim) :
    ev G gi (.comp false elt own tg it cond) ρ S = .ok (.list ((xs.filter p).map f)) S := by
  rw [ev_comp xs enc p f en hi hw hok hn h hl]
  unfold allocL
  rw [if_pos (by rw [List.length_map]; exact Nat.le_trans (List.length_filter_le _ _) hl)]
  simp
theorem ei_seqT {e : E} {ρ : Env} {S : Sto} {ds : List D} (h : ev G gi e ρ S = .ok (.tuple ds) S) : evi G gi (.seq e) ρ S = .ok ⟨ds, [], false⟩ S := by
  rw [evi, h]; rfl
theorem ei_seqL {e : E} {ρ : Env} {S : Sto} {ds : List D} (h : ev G gi e ρ S = .ok (.list ds) S) : evi G gi (.seq e) ρ S = .ok ⟨ds, [], false⟩ S := by
  rw [evi, h]; rfl
theorem ei_range {e : E} {ρ : Env} {S : Sto} {i : Int} (h : ev G gi e ρ S = .ok (.int i) S) (c : -bigD / 4 ≤ i ∧ i < bigD / 4) : evi G gi (.range e) ρ S = .ok ⟨rangeL i, [], false⟩ S := by
  rw [evi, h]
  simp only [Out.bind_ok]
  rw [if_pos c]
theorem ei_enumT {e : E} {ρ : Env} {S : Sto} {ds : List D} (h : ev G gi e ρ S = .ok (.tuple ds) S) : evi G gi (.enum e) ρ S = .ok ⟨enumL 0 ds, [], true⟩ S := by
  rw [evi, h]; rfl
theorem ei_zipT {a b : E} {ρ : Env} {S : Sto} {ds es : List D} (h : ev G gi a ρ S = .ok (.tuple ds) S) (h2 : ev G gi b ρ S = .ok (.tuple es) S) : evi G gi (.zip a b) ρ S = .ok ⟨zipL ds es, [], true⟩ S := by
  rw [evi, h, Out.bind_ok, h2]; rfl
theorem x_for {tg : Tg} {it : I} {body : List St} {ρ : Env} {S S' : Sto} {w : Wk} (hi : evi G gi it ρ S = .ok w S') (hn : (w.pr && isNm tg) = false) : ex G gi (.for_ tg it body) ρ S = forL w.ok (putT tg) (fun ρ S => exs G gi body ρ S) w.items ρ S' := by
  rw [ex, hi]
  show (if (w.pr && isNm tg) = true then _ else _) = _
  rw [if_neg (by rw [hn]; exact Bool.false_ne_true)]
end
@[simp] theorem filter_true {β : Type} (xs : List β) : xs.filter (fun _ => true) = xs := List.filter_eq_self.mpr fun _ _ => rfl
theorem atI_nat {β : Type} (xs : List β) (i : Nat) : L2.atI xs (i : Int) = xs[i]? := by
  unfold L2.atI L2.ixN
  by_cases h : i < xs.length
  · simp [h]
  · simp [h]
@[simp] theorem atI_0 {β : Type} (xs : List β) : L2.atI xs 0 = xs[0]? := atI_nat xs 0
@[simp] theorem atI_1 {β : Type} (xs : List β) : L2.atI xs 1 = xs[1]? := atI_nat xs 1
@[simp] theorem atI_2 {β : Type} (xs : List β) : L2.atI xs 2 = xs[2]? := atI_nat xs 2
@[simp] theorem ixS_rf (S : Sto) (j : Nat) (i : Int) : ixS S (rf j) i = (objL S j).bind fun xs => L2.atI xs i := rfl
@[simp] theorem ixS_tup (S : Sto) (xs : List D) (i : Int) : ixS S (.tuple xs) i = L2.atI xs i := rfl
@[simp] theorem ixS_list (S : Sto) (xs : List D) (i : Int) : ixS S (.list xs) i = L2.atI xs i := rfl
@[simp] theorem ixS_scr (S : Sto) (xs : List D) (i : Int) : ixS S (scr xs) i = L2.atI xs i := rfl
@[simp] theorem lenD_rf (S : Sto) (j : Nat) : lenD S (rf j) = (objL S j).map fun xs => .int xs.length := rfl
@[simp] theorem lenD_tup (S : Sto) (xs : List D) : lenD S (.tuple xs) = some (.int xs.length) := rfl
@[simp] theorem lenD_list (S : Sto) (xs : List D) : lenD S (.list xs) = some (.int xs.length) := rfl
@[simp] theorem lenD_scr (S : Sto) (xs : List D) : lenD S (scr xs) = some (.int xs.length) := rfl
@[simp] theorem objL_app0 (S : Sto) (xs : List D) (T : Sto) : objL (S ++ .lst xs :: T) S.length = some xs := objL_of (by simp)
@[simp] theorem objL_app1 (S : Sto) (xs : List D) (o : O) (T : Sto) : objL (S ++ o :: .lst xs :: T) (S.length + 1) = some xs := objL_of (by simp [List.getElem?_append_right])
@[simp] theorem set_app0 (S : Sto) (a b : O) (T : Sto) : (S ++ a :: T).set S.length b = S ++ b :: T := by simp [List.set_append]
@[simp] theorem set_app1 (S : Sto) (a b c : O) (T : Sto) : (S ++ a :: b :: T).set (S.length + 1) c = S ++ a :: c :: T := by simp [List.set_append]
theorem ixN_nat {n i : Nat} (h : i < n) : L2.ixN n (i : Int) = some i := by
  unfold L2.ixN
  simp [h]
@[simp] theorem kdX_tup (xs : List D) : kdX (.tuple xs) = .tuple := rfl
@[simp] theorem kdX_list (xs : List D) : kdX (.list xs) = .list := rfl
@[simp] theorem kdX_rf (i : Nat) : kdX (rf i) = .list := rfl
@[simp] theorem kdX_str (x : Str) : kdX (.str x) = .str := rfl
theorem forL_next {ok : Sto → Prop} {put : D → Env → Option Env} {body : Env → Sto → SOut} {d : D} {ds : List D} {ρ ρ' : Env} {S : Sto} (ρ2 : Env) (S2 : Sto) (h1 : ok S) (h2 : put d ρ = some ρ') (h3 : body ρ' S = .next ρ2 S2) :
    forL ok put body (d :: ds) ρ S = forL ok put body ds ρ2 S2 := by
  simp only [forL]
  rw [if_pos h1, h2]
  simp only [h3, SOut.seq_next]
theorem forL_ret {ok : Sto → Prop} {put : D → Env → Option Env} {body : Env → Sto → SOut} {d : D} {ds : List D} {ρ ρ' : Env} {S : Sto} (x : D) (S2 : Sto) (h1 : ok S) (h2 : put d ρ = some ρ') (h3 : body ρ' S = .ret x S2) :
    forL ok put body (d :: ds) ρ S = .ret x S2 := by
  simp only [forL]
  rw [if_pos h1, h2]
  simp only [h3, SOut.seq_ret]
theorem forL_nil {ok : Sto → Prop} {put : D → Env → Option Env} {body : Env → Sto → SOut} {ρ : Env} {S : Sto} (h1 : ok S) : forL ok put body [] ρ S = .next ρ S := by
  simp only [forL]
  rw [if_pos h1]
@[simp] theorem tupD_rf (S : Sto) (j : Nat) : tupD S (rf j) = (objL S j).map .tuple := rfl
@[simp] theorem tupD_tup (S : Sto) (xs : List D) : tupD S (.tuple xs) = some (.tuple xs) := rfl
@[simp] theorem tupD_list (S : Sto) (xs : List D) : tupD S (.list xs) = some (.tuple xs) := rfl
end PL
end

section
set_option Elab.async false
set_option linter.all false
set_option maxRecDepth 100000
/-! PLZ: data that may be compared and shown. -/
namespace PL
open PySem
/-- of depth k and weight w at most, with short leaves -/
structure Nice (k w : Nat) (d : D) : Prop where
  plain : d.plain = true
  show_ : d.showable = true
  depth : d.depth ≤ k
  short : d.leavesShort 30 = true
  weight : d.weight ≤ w
theorem Nice.mono {k w k' w' : Nat} {d : D} (h : Nice k w d) (hk : k ≤ k') (hw : w ≤ w') : Nice k' w' d := ⟨h.plain, h.show_, Nat.le_trans h.depth hk, h.short, Nat.le_trans h.weight hw⟩
theorem Nice.eqOk {k w : Nat} {d : D} (h : Nice k w d) (hk : k ≤ 40 := by decide) : PL.eqOk d = true := by
  simp only [PL.eqOk, Bool.and_eq_true, decide_eq_true_eq]
  exact ⟨h.plain, Nat.le_trans h.depth hk⟩
mutual
theorem shp_of_plain : ∀ {d : D}, d.plain = true → shp d = true
  | .none, _ => rfl
  | .bool _, _ => rfl
  | .int _, _ => rfl
  | .str _, _ => rfl
  | .list xs, h => by
    simp only [PyData.plain] at h
    simp only [shp]
    exact shps_of_plain h
  | .tuple xs, h => by
    simp only [PyData.plain] at h
    simp only [shp]
    exact shps_of_plain h
  | .dict _, h => by simp [PyData.plain] at h
theorem shps_of_plain : ∀ {d : List D}, PyData.plainAll d = true → shps d = true
  | [], _ => rfl
  | d :: ds, h => by
    simp only [PyData.plainAll, Bool.and_eq_true] at h
    simp only [shps, shp_of_plain h.1, shps_of_plain h.2, Bool.and_self]
end
theorem Nice.showOk {k w : Nat} {d : D} (h : Nice k w d) (hk : k ≤ 40 := by decide) (hw : w ≤ 500000 := by decide) : PL.showOk d = true := by
  have e := PyData.shown_le 30 (by decide) d h.short
  have hw2 := h.weight
  simp only [PL.showOk, Bool.and_eq_true, decide_eq_true_eq]
  refine ⟨⟨⟨shp_of_plain h.plain, h.show_⟩, Nat.le_trans h.depth hk⟩, ?_⟩
  unfold lim
  omega
theorem nice_none : Nice 0 0 .none := ⟨rfl, rfl, Nat.le_refl _, rfl, Nat.le_refl _⟩
theorem nice_bool (b : Bool) : Nice 0 0 (.bool b) := ⟨rfl, rfl, Nat.le_refl _, rfl, Nat.le_refl _⟩
theorem nice_int {i : Int} (h : i.natAbs < 10 ^ 25) : Nice 0 84 (.int i) := by
  have l : i.natAbs.log2 < 84 := by
    by_cases z : i.natAbs = 0
    · rw [z]; decide
    · rw [Nat.log2_lt z]; exact Nat.lt_of_lt_of_le h (by decide)
  refine ⟨rfl, ?_, Nat.le_refl _, ?_, ?_⟩
  · simp only [PyData.showable, decide_eq_true_eq]
    omega
  · simp only [PyData.leavesShort, decide_eq_true_eq]
    have e := int_text_length_le10 (k := 25) (by decide) h
    show (Str.ofString (toString i)).length ≤ 30
    rw [ofString_length]
    omega
  · simp only [PyData.weight]
    split <;> omega
theorem nice_str {x : Str} (h : x.length ≤ 100) (hc : (x.cps.toList.all fun c => decide (c < 16 ^ 8)) = true) : Nice 0 100 (.str x) := ⟨rfl, rfl, Nat.le_refl _, by simp only [PyData.leavesShort]; exact hc, by simp only [PyData.weight]; exact h⟩
theorem nice_all {k w : Nat} : ∀ {xs : List D}, (∀ x ∈ xs, Nice k w x) → PyData.plainAll xs = true ∧ PyData.showableAll xs = true ∧ PyData.depthAll xs ≤ k ∧ PyData.leavesShortAll 30 xs = true ∧ PyData.weightAll xs ≤ xs.length * (w + 1)
  | [], _ => ⟨rfl, rfl, Nat.zero_le _, rfl, Nat.zero_le _⟩
  | x :: xs, h => by
    obtain ⟨h1, h2, h3, h4, h5⟩ := h x List.mem_cons_self
    obtain ⟨g1, g2, g3, g4, g5⟩ := nice_all fun y hy => h y (List.mem_cons_of_mem _ hy)
    have e : (xs.length + 1) * (w + 1) = xs.length * (w + 1) + (w + 1) := Nat.succ_mul ..
    refine ⟨by simp [PyData.plainAll, h1, g1], by simp [PyData.showableAll, h2, g2], ?_, by simp [PyData.leavesShortAll, h4, g4], ?_⟩
    · simp only [PyData.depthAll]; omega
    · simp only [PyData.weightAll, List.length_cons]; omega
theorem nice_tuple {k w n : Nat} {xs : List D} (h : ∀ x ∈ xs, Nice k w x) (hn : xs.length ≤ n) : Nice (k + 1) (n * (w + 1)) (.tuple xs) := by
  obtain ⟨g1, g2, g3, g4, g5⟩ := nice_all h
  have := Nat.mul_le_mul_right (w + 1) hn
  exact ⟨by simpa [PyData.plain] using g1, by simpa [PyData.showable] using g2, by simp only [PyData.depth]; omega, by simpa [PyData.leavesShort] using g4, by simp only [PyData.weight]; omega⟩
theorem nice_list {k w n : Nat} {xs : List D} (h : ∀ x ∈ xs, Nice k w x) (hn : xs.length ≤ n) : Nice (k + 1) (n * (w + 1)) (.list xs) := by
  obtain ⟨g1, g2, g3, g4, g5⟩ := nice_all h
  have := Nat.mul_le_mul_right (w + 1) hn
  exact ⟨by simpa [PyData.plain] using g1, by simpa [PyData.showable] using g2, by simp only [PyData.depth]; omega, by simpa [PyData.leavesShort] using g4, by simp only [PyData.weight]; omega⟩
theorem nice_ints {n : Nat} {xs : List Int} (h : ∀ x ∈ xs, x.natAbs < 10 ^ 25) (hn : xs.length ≤ n) : Nice 1 (n * 85) (.tuple (xs.map .int)) := nice_tuple (fun x hx => by
  obtain ⟨i, hi, rfl⟩ := List.mem_map.mp hx
  exact nice_int (h i hi)) (by simpa using hn)
@[simp] theorem val_tuple (S : Sto) (xs : List D) : val S (.tuple xs) = .tuple xs := rfl
@[simp] theorem val_list (S : Sto) (xs : List D) : val S (.list xs) = .list xs := rfl
@[simp] theorem val_int (S : Sto) (i : Int) : val S (.int i) = .int i := rfl
@[simp] theorem val_none (S : Sto) : val S .none = .none := rfl
@[simp] theorem val_bool (S : Sto) (b : Bool) : val S (.bool b) = .bool b := rfl
@[simp] theorem val_str (S : Sto) (x : Str) : val S (.str x) = .str x := rfl
theorem repr_of {S : Sto} {d : D} (h : showOk d = true) (hv : val S d = d) : reprD S d = some (.str d.shown) := by
  unfold reprD
  rw [hv, if_pos h]
theorem eqS (S : Sto) (x y : Str) : eqD S (.str x) (.str y) = some (decide (x = y)) := by
  have h1 : PL.eqOk (.str x) = true := rfl
  have h2 : PL.eqOk (.str y) = true := rfl
  have h3 : PyData.eqv (.str x) (.str y) = decide (x = y) := by rw [Bool.eq_iff_iff]; simp [PyData.eqv]
  unfold eqD
  simp only [val_str, h1, h2, h3, Bool.and_self, if_true]
end PL
end

section
set_option Elab.async false
set_option linter.all false
set_option maxRecDepth 100000
/-! PLZ2: what follows an outcome. -/
namespace PL
open PySem
def Ok {α : Type} (r : Out α) (Q : α → Sto → Prop) : Prop := match r with
  | .ok a S => Q a S
  | _ => False
section
variable {α β : Type}
@[simp] theorem Ok_ok (a : α) (S : Sto) (Q : α → Sto → Prop) : Ok (.ok a S) Q = Q a S := rfl
@[simp] theorem Ok_bad (Q : α → Sto → Prop) : Ok .bad Q = False := rfl
@[simp] theorem Ok_exc (x : Xn) (S : Sto) (Q : α → Sto → Prop) : Ok (.exc x S) Q = False := rfl
theorem Ok_bind (r : Out α) (f : α → Sto → Out β) (Q : β → Sto → Prop) : Ok (r.bind f) Q = Ok r fun a S => Ok (f a S) Q := by cases r <;> rfl
theorem Ok.mono {r : Out α} {Q Q' : α → Sto → Prop} (h : Ok r Q) (i : ∀ a S, Q a S → Q' a S) : Ok r Q' := by
  cases r with
  | ok a S => exact i a S h
  | exc x S => exact h
  | bad => exact h
theorem Ok.out {r : Out α} {Q : α → Sto → Prop} (h : Ok r Q) : ∃ a S, r = .ok a S ∧ Q a S := by
  cases r with
  | ok a S => exact ⟨a, S, rfl, h⟩
  | exc x S => exact h.elim
  | bad => exact h.elim
theorem Ok_ite {c : Prop} [Decidable c] {r r' : Out α} {Q : α → Sto → Prop} : Ok (if c then r else r') Q = if c then Ok r Q else Ok r' Q := by split <;> rfl
end
@[simp] theorem Ok_some (d : D) (S : Sto) (Q : D → Sto → Prop) : Ok (oret (some d) S) Q = Q d S := rfl
@[simp] theorem Ok_oret_none (S : Sto) (Q : D → Sto → Prop) : Ok (oret none S) Q = False := rfl
def OkS (r : SOut) (N : Env → Sto → Prop) (R : D → Sto → Prop) : Prop := match r with
  | .next ρ S => N ρ S
  | .ret d S => R d S
  | _ => False
@[simp] theorem OkS_next (ρ : Env) (S : Sto) (N : Env → Sto → Prop) (R : D → Sto → Prop) : OkS (.next ρ S) N R = N ρ S := rfl
@[simp] theorem OkS_ret (d : D) (S : Sto) (N : Env → Sto → Prop) (R : D → Sto → Prop) : OkS (.ret d S) N R = R d S := rfl
@[simp] theorem OkS_bad (N : Env → Sto → Prop) (R : D → Sto → Prop) : OkS .bad N R = False := rfl
@[simp] theorem OkS_exc (x : Xn) (S : Sto) (N : Env → Sto → Prop) (R : D → Sto → Prop) : OkS (.exc x S) N R = False := rfl
theorem OkS_seq (r : SOut) (f : Env → Sto → SOut) (N : Env → Sto → Prop) (R : D → Sto → Prop) : OkS (r.seq f) N R = OkS r (fun ρ S => OkS (f ρ S) N R) R := by cases r <;> rfl
theorem OkS_st {α : Type} (r : Out α) (f : α → Sto → SOut) (N : Env → Sto → Prop) (R : D → Sto → Prop) : OkS (r.st f) N R = Ok r fun a S => OkS (f a S) N R := by cases r <;> rfl
theorem OkS_ite {c : Prop} [Decidable c] {r r' : SOut} {N : Env → Sto → Prop} {R : D → Sto → Prop} : OkS (if c then r else r') N R = if c then OkS r N R else OkS r' N R := by split <;> rfl
theorem OkS.mono {r : SOut} {N N' : Env → Sto → Prop} {R R' : D → Sto → Prop} (h : OkS r N R) (i : ∀ ρ S, N ρ S → N' ρ S) (j : ∀ d S, R d S → R' d S) : OkS r N' R' := by
  cases r with
  | next ρ S => exact i ρ S h
  | ret d S => exact j d S h
  | exc x S => exact h
  | bad => exact h
/-- by a truth value -/
def tB {α : Type} (x : D) (a b c : α) : α := match x with
  | .bool true => a
  | .bool false => b
  | _ => c
@[simp] theorem tB_bool {α : Type} (q : Bool) (a b c : α) : tB (.bool q) a b c = if q = true then a else b := by cases q <;> rfl
def tN {α : Type} (x : D) (a b : α) : α := match x with
  | .none => a
  | _ => b
@[simp] theorem tN_none {α : Type} (a b : α) : tN .none a b = a := rfl
@[simp] theorem tN_int {α : Type} (i : Int) (a b : α) : tN (.int i) a b = b := rfl
@[simp] theorem tN_tuple {α : Type} (xs : List D) (a b : α) : tN (.tuple xs) a b = b := rfl
@[simp] theorem tN_bool {α : Type} (q : Bool) (a b : α) : tN (.bool q) a b = b := rfl
@[simp] theorem tN_str {α : Type} (x : Str) (a b : α) : tN (.str x) a b = b := rfl
@[simp] theorem tN_list {α : Type} (xs : List D) (a b : α) : tN (.list xs) a b = b := rfl
@[simp] theorem tN_rf {α : Type} (i : Nat) (a b : α) : tN (rf i) a b = b := rfl
def tZ {α : Type} (x : D) (f : Int → α) (b : α) : α := match x with
  | .int i => f i
  | _ => b
@[simp] theorem tZ_int {α : Type} (i : Int) (f : Int → α) (b : α) : tZ (.int i) f b = f i := rfl
section
variable {G : Calls} {gi : Str → Option Int} {ρ : Env} {S : Sto} {Q : D → Sto → Prop} {N : Env → Sto → Prop}
theorem w_var {i} : Ok (ev G gi (.var i) ρ S) Q = (match ρ[i]? with
    | some (some d) => Q d S
    | _ => False) := by rw [e_var]; cases ρ[i]? with
  | none => rfl
  | some o => cases o <;> rfl
theorem w_int {i} : Ok (ev G gi (.int i) ρ S) Q = Q (.int i) S := by rw [e_int]; rfl
theorem w_bl {i} : Ok (ev G gi (.bl i) ρ S) Q = Q (.bool i) S := by rw [e_bl]; rfl
theorem w_non : Ok (ev G gi .non ρ S) Q = Q .none S := by rw [e_non]; rfl
theorem w_str {i} : Ok (ev G gi (.str i) ρ S) Q = Q (.str i) S := by rw [e_str]; rfl
theorem w_gint {x} : Ok (ev G gi (.gint x) ρ S) Q = (match gi x with
    | some i => Q (.int i) S
    | none => False) := by rw [e_gint]; cases gi x <;> rfl
theorem w_tup {es} : Ok (ev G gi (.tup es) ρ S) Q = Ok (evs G gi es ρ S) fun ws S => ws.length ≤ lim ∧ Q (.tuple ws) S := by
  rw [e_tup, Ok_bind]; congr; funext ws S; rw [Ok_ite]; by_cases h : ws.length ≤ lim <;> simp [h]
theorem w_lst {r es} : Ok (ev G gi (.lst r es) ρ S) Q = Ok (evs G gi es ρ S) fun ws S => Ok (allocL r ws S) Q := by rw [e_lst, Ok_bind]
theorem w_allocF {xs : List D} : Ok (allocL false xs S) Q = (xs.length ≤ lim ∧ Q (.list xs) S) := by
  unfold allocL; rw [Ok_ite]; by_cases h : xs.length ≤ lim <;> simp [h]
theorem w_allocT {xs : List D} : Ok (allocL true xs S) Q = (xs.length ≤ lim ∧ Q (rf S.length) (S ++ [.lst xs])) := by
  unfold allocL; rw [Ok_ite]; by_cases h : xs.length ≤ lim <;> simp [h]
theorem w_oallo {r} {o : Option (List D)} : Ok (oallo r o S) Q = (match o with
    | some xs => Ok (allocL r xs S) Q
    | none => False) := by cases o <;> rfl
theorem w_dct {kvs} : Ok (ev G gi (.dct kvs) ρ S) Q = Q (.dict (kvs.map fun p => (.int p.1, .int p.2))) S := by rw [e_dct]; rfl
theorem w_op {o a b} : Ok (ev G gi (.op o a b) ρ S) Q = Ok (ev G gi a ρ S) fun x S => Ok (ev G gi b ρ S) fun y S => Ok (oret (opD S o x y) S) Q := by rw [e_op, Ok_bind]; simp only [Ok_bind]
theorem w_rep {a b} : Ok (ev G gi (.rep a b) ρ S) Q = Ok (ev G gi a ρ S) fun x S => Ok (ev G gi b ρ S) fun y S => Ok (repO S x y) Q := by rw [e_rep, Ok_bind]; simp only [Ok_bind]
theorem w_cat {a b} : Ok (ev G gi (.cat a b) ρ S) Q = Ok (ev G gi a ρ S) fun x S => Ok (ev G gi b ρ S) fun y S => Ok (catO S x y) Q := by rw [e_cat, Ok_bind]; simp only [Ok_bind]
theorem w_neg {a} : Ok (ev G gi (.neg a) ρ S) Q = Ok (ev G gi a ρ S) fun x S => tZ x (fun i => Q (.int (-i)) S) False := by
  rw [e_neg, Ok_bind]; congr; funext x S; cases x <;> rfl
theorem w_cm {c a b} : Ok (ev G gi (.cm c a b) ρ S) Q = Ok (ev G gi a ρ S) fun x S => Ok (ev G gi b ρ S) fun y S => Ok (oret ((cmD S c x y).map .bool) S) Q := by rw [e_cm, Ok_bind]; simp only [Ok_bind]
theorem w_ch {c d a b e} : Ok (ev G gi (.ch c d a b e) ρ S) Q = Ok (ev G gi a ρ S) fun x S => Ok (ev G gi b ρ S) fun y S => (match cmD S c x y with
    | some true => Ok (ev G gi e ρ S) fun z S => Ok (oret ((cmD S d y z).map .bool) S) Q
    | some false => Q (.bool false) S
    | none => False) := by
  rw [e_ch, Ok_bind]; simp only [Ok_bind]; congr; funext x S; congr; funext y S
  cases cmD S c x y with
  | none => rfl
  | some q => cases q with
    | true => exact Ok_bind ..
    | false => rfl
theorem w_isN {neg a} : Ok (ev G gi (.isN neg a) ρ S) Q = Ok (ev G gi a ρ S) fun x S => tN x (Q (.bool (!neg)) S) (Q (.bool neg) S) := by
  rw [e_isN, Ok_bind]; congr; funext x S; cases x <;> rfl
theorem w_and {a b} : Ok (ev G gi (.and a b) ρ S) Q = Ok (ev G gi a ρ S) fun x S => tB x (Ok (ev G gi b ρ S) Q) (Q (.bool false) S) False := by
  rw [e_and, Ok_bind]; congr; funext x S; cases x with
    | bool q => cases q <;> rfl
    | _ => rfl
theorem w_or {a b} : Ok (ev G gi (.or a b) ρ S) Q = Ok (ev G gi a ρ S) fun x S => tB x (Q (.bool true) S) (Ok (ev G gi b ρ S) Q) False := by
  rw [e_or, Ok_bind]; congr; funext x S; cases x with
    | bool q => cases q <;> rfl
    | _ => rfl
theorem w_not {a} : Ok (ev G gi (.not a) ρ S) Q = Ok (ev G gi a ρ S) fun x S => (match x with
    | .bool q => Q (.bool (!q)) S
    | _ => False) := by
  rw [e_not, Ok_bind]; congr; funext x S; cases x <;> rfl
theorem w_ite {c a b} : Ok (ev G gi (.ite c a b) ρ S) Q = Ok (ev G gi c ρ S) fun x S => tB x (Ok (ev G gi a ρ S) Q) (Ok (ev G gi b ρ S) Q) False := by
  rw [e_ite, Ok_bind]; congr; funext x S; cases x with
    | bool q => cases q <;> rfl
    | _ => rfl
theorem w_ix {a b} : Ok (ev G gi (.ix a b) ρ S) Q = Ok (ev G gi a ρ S) fun x S => Ok (ev G gi b ρ S) fun y S => Ok (oret (ixD S x y) S) Q := by rw [e_ix, Ok_bind]; simp only [Ok_bind]
theorem w_rev {a} : Ok (ev G gi (.rev a) ρ S) Q = Ok (ev G gi a ρ S) fun x S => Ok (oret (revD S x) S) Q := by rw [e_rev, Ok_bind]
def wo (G : Calls) (gi : Str → Option Int) (o : Option E) (ρ : Env) (S : Sto) (Q : Option Int → Sto → Prop) : Prop := match o with
  | none => Q none S
  | some e => Ok (ev G gi e ρ S) fun x S => tZ x (fun i => Q (some i) S) False
theorem wo_eq {o : Option E} {Q : Option Int → Sto → Prop} : Ok (evo G gi o ρ S) Q = wo G gi o ρ S Q := by
  cases o with
  | none => rw [eo_none]; rfl
  | some e => rw [eo_some, Ok_bind]; unfold wo; congr; funext x S; cases x <;> rfl
theorem wo_none {Q : Option Int → Sto → Prop} : wo G gi none ρ S Q = Q none S := rfl
theorem wo_some {e : E} {Q : Option Int → Sto → Prop} : wo G gi (some e) ρ S Q = Ok (ev G gi e ρ S) fun x S => tZ x (fun i => Q (some i) S) False := rfl
theorem w_sl {a lo hi} : Ok (ev G gi (.sl a lo hi) ρ S) Q = Ok (ev G gi a ρ S) fun x S => wo G gi lo ρ S fun l S => wo G gi hi ρ S fun h S => Ok (oret (slD S x l h) S) Q := by
  rw [e_sl, Ok_bind]; simp only [Ok_bind, wo_eq]
theorem w_bi {f es} : Ok (ev G gi (.bi f es) ρ S) Q = Ok (evs G gi es ρ S) fun ws S => Ok (biD f ws S) Q := by rw [e_bi, Ok_bind]
theorem w_isi {a t} : Ok (ev G gi (.isi a t) ρ S) Q = Ok (ev G gi a ρ S) fun x S => Ok (oret ((isiD S x t).map .bool) S) Q := by rw [e_isi, Ok_bind]
theorem w_call {f es} : Ok (ev G gi (.call f es) ρ S) Q = Ok (evs G gi es ρ S) fun ws S => Ok (G f ws S) Q := by rw [e_call, Ok_bind]
theorem w_fmt {e} : Ok (ev G gi (.fmt e) ρ S) Q = Ok (ev G gi e ρ S) fun x S => Ok (oret (fmtD x) S) Q := by rw [e_fmt, Ok_bind]
theorem w_fstr {es} : Ok (ev G gi (.fstr es) ρ S) Q = Ok (evf G gi es Str.empty ρ S) Q := by rw [e_fstr]
/-- a text -/
def tStr {α : Type} (x : D) (f : Str → α) (b : α) : α := match x with
  | .str y => f y
  | _ => b
@[simp] theorem tStr_str {α : Type} (y : Str) (f : Str → α) (b : α) : tStr (.str y) f b = f y := rfl
theorem wf_nil {acc} : Ok (evf G gi [] acc ρ S) Q = Q (.str acc) S := by rw [ef_nil]; rfl
theorem wf_cons {e es acc} : Ok (evf G gi (e :: es) acc ρ S) Q = Ok (ev G gi e ρ S) fun w S => tStr w (fun y => (acc ++ y).length ≤ lim ∧ Ok (evf G gi es (acc ++ y) ρ S) Q) False := by
  rw [ef_cons, Ok_bind]; congr; funext x S; cases x <;> try rfl
  rename_i y
  show Ok (if (acc ++ y).length ≤ lim then _ else _) Q = _
  rw [Ok_ite]; by_cases h : (acc ++ y).length ≤ lim <;> simp [h]
theorem w_fld {o c f} : Ok (ev G gi (.fld o c f) ρ S) Q = Ok (ev G gi o ρ S) fun x S => Ok (oret (fldD S x c f) S) Q := by rw [e_fld, Ok_bind]
theorem w_bm {o m es} : Ok (ev G gi (.bm o m es) ρ S) Q = Ok (ev G gi o ρ S) fun x S => kdD S m x = true ∧ Ok (evs G gi es ρ S) fun ws S => Ok (bmD m x ws S) Q := by
  rw [e_bm, Ok_bind]; congr; funext x S; rw [Ok_ite, Ok_bind]; by_cases h : kdD S m x = true <;> simp [h]
theorem w_sset {r e} : Ok (ev G gi (.sset r e) ρ S) Q = Ok (ev G gi e ρ S) fun x S => Ok (oallo r (sortedSetD S x) S) Q := by rw [e_sset, Ok_bind]
theorem w_own {o c s} : Ok (ev G gi (.own o c s) ρ S) Q = Ok (ev G gi o ρ S) fun x S => Ok (match (asRef x).bind (insD S) with
    | some (c', _) => if c' = c then (G (c ++ "." ++ s) [x] S).bind fun r S1 => (if ownR s r = true then (.ok r S1 : Out D) else .bad) else .bad
    | none => .bad) Q := by
  rw [e_own, Ok_bind]
  all_goals rfl
theorem w_lset {e} : Ok (ev G gi (.lset e) ρ S) Q = Ok (ev G gi e ρ S) fun x S => Ok (oret (lenSetD S x) S) Q := by rw [e_lset, Ok_bind]
theorem w_tupR {e} : Ok (ev G gi (.tupR e) ρ S) Q = Ok (ev G gi e ρ S) fun x S => tZ x (fun i => (0 ≤ i ∧ i ≤ 16777216) ∧ Q (.tuple (rangeL i)) S) False := by
  rw [e_tupR, Ok_bind]; congr; funext x S; cases x <;> try rfl
  rename_i i
  simp only [tZ_int]
  rw [Ok_ite]; by_cases h : 0 ≤ i ∧ i ≤ 16777216 <;> simp [h]
theorem w_never : Ok (ev G gi .never ρ S) Q = False := by rw [e_never]; rfl
theorem ws_nil {Q : List D → Sto → Prop} : Ok (evs G gi [] ρ S) Q = Q [] S := by rw [es_nil]; rfl
theorem ws_cons {e : E} {es : List E} {Q : List D → Sto → Prop} : Ok (evs G gi (e :: es) ρ S) Q = Ok (ev G gi e ρ S) fun w S => Ok (evs G gi es ρ S) fun ws S => Q (w :: ws) S := by
  rw [es_cons, Ok_bind]; simp only [Ok_bind, Ok_ok]
theorem w_comp {r elt own tg it cond} : Ok (ev G gi (.comp r elt own tg it cond) ρ S) Q = Ok (evi G gi it ρ S) fun w S => (w.pr && isNm tg) = false ∧ Ok (compL w.ok (fun d => putT tg d (wipe ρ own)) (fun ρ S => evc G gi cond ρ S) (fun ρ S => ev G gi elt ρ S) w.items [] S) fun ws S1 => Ok (allocL r ws S1) Q := by
  rw [ev, Ok_bind]; congr; funext w S; rw [Ok_ite, Ok_bind]
  by_cases h : (w.pr && isNm tg) = true
  · simp [h]
  · simp only [Bool.not_eq_true] at h
    simp [h]
theorem wc_none {ρ : Env} : Ok (evc G gi none ρ S) Q = Q (.bool true) S := by rw [ec_none]; rfl
theorem wc_some {e : E} {ρ : Env} : Ok (evc G gi (some e) ρ S) Q = Ok (ev G gi e ρ S) Q := by rw [ec_some]
theorem wi_seq {e : E} {Q : Wk → Sto → Prop} : Ok (evi G gi (.seq e) ρ S) Q = Ok (ev G gi e ρ S) fun x S => (match itemsD S x with
    | some w => Q w S
    | none => False) := by
  rw [evi, Ok_bind]; congr; funext x S; (first | (cases itemsD S x <;> rfl) | (cases seqD S x <;> rfl))
theorem wi_range {e : E} {Q : Wk → Sto → Prop} : Ok (evi G gi (.range e) ρ S) Q = Ok (ev G gi e ρ S) fun x S => tZ x (fun i => (-bigD / 4 ≤ i ∧ i < bigD / 4) ∧ Q ⟨rangeL i, [], false⟩ S) False := by
  rw [evi, Ok_bind]; congr; funext x S; cases x <;> try rfl
  rename_i i
  simp only [tZ_int]
  rw [Ok_ite]; by_cases h : -bigD / 4 ≤ i ∧ i < bigD / 4 <;> simp [h]
theorem wi_enum {e : E} {Q : Wk → Sto → Prop} : Ok (evi G gi (.enum e) ρ S) Q = Ok (ev G gi e ρ S) fun x S => (match seqD S x with
    | some ds => Q ⟨enumL 0 ds, heldD x ds, true⟩ S
    | none => False) := by
  rw [evi, Ok_bind]; congr; funext x S; (first | (cases itemsD S x <;> rfl) | (cases seqD S x <;> rfl))
theorem wi_zip {a b : E} {Q : Wk → Sto → Prop} : Ok (evi G gi (.zip a b) ρ S) Q = Ok (ev G gi a ρ S) fun x S => Ok (ev G gi b ρ S) fun y S => (match seqD S x, seqD S y with
    | some xs, some ys => (kdX x = kdX y ∨ kdX x = .tuple) ∧ Q ⟨zipL xs ys, heldD x xs ++ heldD y ys, true⟩ S
    | _, _ => False) := by
  rw [evi, Ok_bind]; simp only [Ok_bind]; congr; funext x S; congr; funext y S
  cases seqD S x with
  | none => rfl
  | some xs => cases seqD S y with
    | none => rfl
    | some ys =>
      refine Ok_ite.trans ?_
      by_cases h : kdX x = kdX y ∨ kdX x = .tuple
      · rw [if_pos h]
        exact propext ⟨fun q => ⟨h, q⟩, fun q => q.2⟩
      · rw [if_neg h]
        exact propext ⟨fun q => q.elim, fun q => h q.1⟩
variable {R : D → Sto → Prop}
theorem v_asg {t e} : OkS (ex G gi (.asg t e) ρ S) N R = Ok (ev G gi e ρ S) fun d S => OkS (asg G gi t d ρ S) N R := by rw [x_asg, OkS_st]
theorem v_expr {e} : OkS (ex G gi (.expr e) ρ S) N R = Ok (ev G gi e ρ S) fun _ S => N ρ S := by rw [x_expr, OkS_st]; rfl
theorem v_ret {e} : OkS (ex G gi (.ret e) ρ S) N R = Ok (ev G gi e ρ S) fun d S => R d S := by rw [x_ret, OkS_st]; rfl
theorem v_retN : OkS (ex G gi .retN ρ S) N R = R .none S := by rw [x_retN]; rfl
theorem v_ite {c a b} : OkS (ex G gi (.ite c a b) ρ S) N R = Ok (ev G gi c ρ S) fun x S => tB x (OkS (exs G gi a ρ S) N R) (OkS (exs G gi b ρ S) N R) False := by
  rw [x_ite, OkS_st]; congr; funext x S; cases x with
    | bool q => cases q <;> rfl
    | _ => rfl
theorem v_pass : OkS (ex G gi .pass ρ S) N R = N ρ S := by rw [x_pass]; rfl
theorem v_nil : OkS (exs G gi [] ρ S) N R = N ρ S := by rw [x_nil]; rfl
theorem v_cons {s : St} {r : List St} : OkS (exs G gi (s :: r) ρ S) N R = OkS (ex G gi s ρ S) (fun ρ S => OkS (exs G gi r ρ S) N R) R := by rw [x_cons, OkS_seq]
theorem v_one {s : St} : OkS (exs G gi [s] ρ S) N R = OkS (ex G gi s ρ S) N R := by rw [v_cons]; simp only [v_nil]
theorem v_for {tg it body} : OkS (ex G gi (.for_ tg it body) ρ S) N R = Ok (evi G gi it ρ S) fun w S => (w.pr && isNm tg) = false ∧ OkS (forL w.ok (putT tg) (fun ρ S => exs G gi body ρ S) w.items ρ S) N R := by
  rw [ex, OkS_st]; congr; funext w S; rw [OkS_ite]
  by_cases h : (w.pr && isNm tg) = true
  · simp [h]
  · simp only [Bool.not_eq_true] at h
    simp [h]
theorem va_name {i : Nat} {d : D} : OkS (asg G gi (.name i) d ρ S) N R = (i < ρ.length ∧ N (ρ.set i (some d)) S) := by
  rw [a_name, OkS_ite]; by_cases h : i < ρ.length <;> simp [h]
theorem va_tup {ts : List T} {ds : List D} : OkS (asg G gi (.tup ts) (.tuple ds) ρ S) N R = (ts.length = ds.length ∧ OkS (asgs G gi ts ds ρ S) N R) := by
  rw [a_tup, OkS_ite]; by_cases h : ts.length = ds.length <;> simp [h]
theorem va_sub {o i : E} {d : D} : OkS (asg G gi (.sub o i) d ρ S) N R = Ok (ev G gi o ρ S) fun x S => Ok (ev G gi i ρ S) fun y S => (match setD S x y d with
    | some S => N ρ S
    | none => False) := by
  rw [a_sub, OkS_st]; simp only [OkS_st]; congr; funext x S; congr; funext y S; cases setD S x y d <;> rfl
theorem vs_nil : OkS (asgs G gi [] [] ρ S) N R = N ρ S := by rw [as_nil]; rfl
theorem vs_cons {t : T} {ts : List T} {d : D} {ds : List D} : OkS (asgs G gi (t :: ts) (d :: ds) ρ S) N R = OkS (asg G gi t d ρ S) (fun ρ S => OkS (asgs G gi ts ds ρ S) N R) R := by rw [as_cons, OkS_seq]
/-! ### turns -/
theorem ok_for {ok : Sto → Prop} {put : D → Env → Option Env} {body : Env → Sto → SOut} (I : List D → Env → Sto → Prop) : ∀ {items : List D} {ρ : Env} {S : Sto}, I items ρ S → (∀ rest ρ S, I rest ρ S → ok S) →
    (∀ d ds ρ S, I (d :: ds) ρ S → ∃ ρ', put d ρ = some ρ' ∧ OkS (body ρ' S) (I ds) R) → (∀ ρ S, I [] ρ S → N ρ S) → OkS (forL ok put body items ρ S) N R
  | [], ρ, S, h, ho, hs, hn => by
    simp only [forL]
    rw [if_pos (ho _ _ _ h)]
    exact hn _ _ h
  | d :: ds, ρ, S, h, ho, hs, hn => by
    simp only [forL]
    rw [if_pos (ho _ _ _ h)]
    obtain ⟨ρ', e, k⟩ := hs _ _ _ _ h
    rw [e]
    simp only [OkS_seq]
    exact k.mono (fun ρ S h => ok_for I h ho hs hn) fun _ _ h => h
theorem ok_comp {ok : Sto → Prop} {put : D → Option Env} {cond elt : Env → Sto → Out D} {Q : List D → Sto → Prop} (J : List D → List D → Sto → Prop) : ∀ {items acc : List D} {S : Sto}, J items acc S → (∀ rest acc S, J rest acc S → ok S) →
    (∀ d ds acc S, J (d :: ds) acc S → ∃ ρ, put d = some ρ ∧ Ok (cond ρ S) fun b S1 => tB b (Ok (elt ρ S1) fun w S2 => acc.length < lim ∧ J ds (acc ++ [w]) S2) (J ds acc S1) False) → (∀ acc S, J [] acc S → Q acc S) → Ok (compL ok put cond elt items acc S) Q
  | [], acc, S, h, ho, hs, hn => by
    simp only [compL]
    rw [if_pos (ho _ _ _ h)]
    exact hn _ _ h
  | d :: ds, acc, S, h, ho, hs, hn => by
    simp only [compL]
    rw [if_pos (ho _ _ _ h)]
    obtain ⟨ρ, e, k⟩ := hs _ _ _ _ h
    rw [e]
    simp only
    obtain ⟨b, S1, e1, k⟩ := k.out
    rw [e1]
    cases b with
    | bool q =>
      cases q
      · exact ok_comp J (show J ds acc S1 from k) ho hs hn
      · obtain ⟨w, S2, e2, k1, k2⟩ := (show Ok (elt ρ S1) _ from k).out
        simp only [e2]
        rw [if_pos k1]
        exact ok_comp J k2 ho hs hn
    | _ => exact (show False from k).elim
theorem ok_while {cond : Env → Sto → Out D} {body : Env → Sto → SOut} (I : Nat → Env → Sto → Prop)
    (hs : ∀ k ρ S, I k ρ S → Ok (cond ρ S) fun x S1 => tB x (∃ j, k = j + 1 ∧ OkS (body ρ S1) (I j) R) (N ρ S1) False) : ∀ {f k : Nat} {ρ : Env} {S : Sto}, I k ρ S → k < f → OkS (whileL cond body f ρ S) N R
  | 0, k, ρ, S, h, hf => by omega
  | f + 1, k, ρ, S, h, hf => by
    unfold whileL
    rw [OkS_st]
    refine (hs k ρ S h).mono fun x S1 hx => ?_
    cases x with
    | bool q =>
      cases q
      · exact hx
      · obtain ⟨j, e, hb⟩ := (show ∃ j, k = j + 1 ∧ OkS (body ρ S1) (I j) R from hx)
        show OkS ((body ρ S1).seq _) N R
        rw [OkS_seq]
        exact hb.mono (fun ρ S h => ok_while I hs h (by omega)) fun _ _ h => h
    | _ => exact (show False from hx).elim
theorem v_while {c body} : OkS (ex G gi (.while_ c body) ρ S) N R = OkS (whileL (fun ρ S => ev G gi c ρ S) (fun ρ S => exs G gi body ρ S) wfuel ρ S) N R := by rw [ex]
theorem ok_run {F : Fn} {ws : List D} (hl : ws.length = F.np) (h : OkS (exs G gi F.body (ws.map some ++ List.replicate (F.nn - F.np) none) S) (fun _ S' => Ok (fin F.md S .none S') Q) fun d S' => Ok (fin F.md S d S') Q) : Ok (runF G gi F ws S) Q := by
  unfold runF
  rw [if_pos hl]
  revert h
  cases exs G gi F.body (ws.map some ++ List.replicate (F.nn - F.np) none) S <;> exact fun h => h
theorem ok_callS {fns : Str → Option Fn} {F : Fn} {f : Str} {n : Nat} {ws : List D} (h : fns f = some F) (hl : ws.length = F.np) (k : OkS (exs (callS gi fns n) gi F.body (ws.map some ++ List.replicate (F.nn - F.np) none) S) (fun _ S' => Ok (fin F.md S .none S') Q) fun d S' => Ok (fin F.md S d S') Q) : Ok (callS gi fns (n + 1) f ws S) Q := by
  rw [callS_fn h]
  exact ok_run hl k
end
end PL
end

section
set_option Elab.async false
set_option linter.all false
set_option maxRecDepth 100000
/-! PLZ3: data that may be shown, dicts of whole numbers too; cuts. -/
namespace PL
open PySem
/-- may be shown, of depth k at most; no number of an object in it -/
def vwB (k : Nat) (d : D) : Bool := shp d && (d.showable && (d.leavesShort 30 && (noRf d && decide (d.depth ≤ k))))
structure Vw (k : Nat) (d : D) : Prop where
  shp : PL.shp d = true
  show_ : d.showable = true
  short : d.leavesShort 30 = true
  nor : noRf d = true
  depth : d.depth ≤ k
theorem vw_of {k : Nat} {d : D} (h : vwB k d = true) : Vw k d := by
  unfold vwB at h
  simp only [Bool.and_eq_true, decide_eq_true_eq] at h
  exact ⟨h.1, h.2.1, h.2.2.1, h.2.2.2.1, h.2.2.2.2⟩
theorem Vw.mono {k k' : Nat} {d : D} (h : Vw k d) (l : k ≤ k') : Vw k' d := ⟨h.shp, h.show_, h.short, h.nor, Nat.le_trans h.depth l⟩
theorem Vw.showOk {k : Nat} {d : D} (h : Vw k d) (hw : d.weight ≤ 500000) (hk : k ≤ 40 := by decide) : PL.showOk d = true := by
  have e := PyData.shown_le 30 (by decide) d h.short
  simp only [PL.showOk, Bool.and_eq_true, decide_eq_true_eq]
  refine ⟨⟨⟨h.shp, h.show_⟩, Nat.le_trans h.depth hk⟩, ?_⟩
  unfold lim
  omega
theorem shps_all : ∀ xs : List D, shps xs = xs.all shp
  | [] => rfl
  | x :: xs => by simp [shps, shps_all xs]
theorem shows_all : ∀ xs : List D, PyData.showableAll xs = xs.all PyData.showable
  | [] => rfl
  | x :: xs => by simp [PyData.showableAll, shows_all xs]
theorem shorts_all (B : Nat) : ∀ xs : List D, PyData.leavesShortAll B xs = xs.all (PyData.leavesShort B)
  | [] => rfl
  | x :: xs => by simp [PyData.leavesShortAll, shorts_all B xs]
theorem noRfs_all : ∀ xs : List D, noRfs xs = xs.all noRf
  | [] => rfl
  | x :: xs => by simp [noRfs, noRfs_all xs]
theorem plains_all : ∀ xs : List D, PyData.plainAll xs = xs.all PyData.plain
  | [] => rfl
  | x :: xs => by simp [PyData.plainAll, plains_all xs]
theorem depths_le {k : Nat} : ∀ {xs : List D}, PyData.depthAll xs ≤ k ↔ ∀ x ∈ xs, x.depth ≤ k
  | [] => by simp [PyData.depthAll]
  | x :: xs => by
    simp only [PyData.depthAll, List.mem_cons, forall_eq_or_imp]
    rw [← depths_le (xs := xs)]
    omega
theorem vw_tuple {k : Nat} {xs : List D} (h : ∀ x ∈ xs, Vw k x) : Vw (k + 1) (.tuple xs) := by
  refine ⟨?_, ?_, ?_, ?_, ?_⟩
  · simp only [PL.shp, shps_all, List.all_eq_true]; exact fun x hx => (h x hx).shp
  · simp only [PyData.showable, shows_all, List.all_eq_true]; exact fun x hx => (h x hx).show_
  · simp only [PyData.leavesShort, shorts_all, List.all_eq_true]; exact fun x hx => (h x hx).short
  · simp only [noRf, noRfs_all, List.all_eq_true]; exact fun x hx => (h x hx).nor
  · have := depths_le.mpr fun x hx => (h x hx).depth
    simp only [PyData.depth]; omega
theorem vw_list {k : Nat} {xs : List D} (h : ∀ x ∈ xs, Vw k x) : Vw (k + 1) (.list xs) := by
  refine ⟨?_, ?_, ?_, ?_, ?_⟩
  · simp only [PL.shp, shps_all, List.all_eq_true]; exact fun x hx => (h x hx).shp
  · simp only [PyData.showable, shows_all, List.all_eq_true]; exact fun x hx => (h x hx).show_
  · simp only [PyData.leavesShort, shorts_all, List.all_eq_true]; exact fun x hx => (h x hx).short
  · simp only [noRf, noRfs_all, List.all_eq_true]; exact fun x hx => (h x hx).nor
  · have := depths_le.mpr fun x hx => (h x hx).depth
    simp only [PyData.depth]; omega
theorem Vw.item {k : Nat} {xs : List D} (h : Vw (k + 1) (.tuple xs)) : ∀ x ∈ xs, Vw k x := fun x hx => by
  obtain ⟨h1, h2, h3, h4, h5⟩ := h
  simp only [PL.shp, shps_all, List.all_eq_true] at h1
  simp only [PyData.showable, shows_all, List.all_eq_true] at h2
  simp only [PyData.leavesShort, shorts_all, List.all_eq_true] at h3
  simp only [noRf, noRfs_all, List.all_eq_true] at h4
  simp only [PyData.depth] at h5
  exact ⟨h1 x hx, h2 x hx, h3 x hx, h4 x hx, (depths_le.mp (by omega : PyData.depthAll xs ≤ k)) x hx⟩
theorem vw_int {i : Int} (h : i.natAbs < 10 ^ 25) : Vw 0 (.int i) := ⟨rfl, (nice_int h).show_, (nice_int h).short, rfl, Nat.le_refl _⟩
theorem vw_none : Vw 0 .none := ⟨rfl, rfl, rfl, rfl, Nat.le_refl _⟩
theorem vw_bool (b : Bool) : Vw 0 (.bool b) := ⟨rfl, rfl, rfl, rfl, Nat.le_refl _⟩
theorem Nice.vw {k w : Nat} {d : D} (h : Nice k w d) (n : noRf d = true) : Vw k d := ⟨shp_of_plain h.plain, h.show_, h.short, n, h.depth⟩
theorem int_str_short (i : Int) : ((Str.ofString (toString i)).cps.toList.all fun c => decide (c < 16 ^ 8)) = true := by
  rw [PyProof.Rows.signs_ofString, List.all_map]
  refine List.all_eq_true.mpr fun c _ => ?_
  have h := c.val.toNat_lt
  have e : c.toNat = c.val.toNat := rfl
  simp only [Function.comp_apply, decide_eq_true_eq, e]
  omega
/-! ### weights -/
theorem w_app : ∀ xs ys : List D, PyData.weightAll (xs ++ ys) = PyData.weightAll xs + PyData.weightAll ys
  | [], ys => by simp [PyData.weightAll]
  | x :: xs, ys => by simp only [List.cons_append, PyData.weightAll, w_app xs ys]; omega
theorem w_split (xs : List D) (i : Nat) : PyData.weightAll (xs.take i) + PyData.weightAll (xs.drop i) = PyData.weightAll xs := by
  rw [← w_app, List.take_append_drop]
theorem w_one (x : D) : PyData.weightAll [x] = x.weight + 1 := by simp [PyData.weightAll]
theorem wt_rev (xs : List D) : PyData.weightAll xs.reverse = PyData.weightAll xs := by
  induction xs with
  | nil => rfl
  | cons x xs ih =>
    rw [List.reverse_cons, w_app, w_one, ih]
    simp only [PyData.weightAll]
    omega
theorem w_at {xs : List D} {i : Nat} {x : D} (h : xs[i]? = some x) : PyData.weightAll (xs.take i) + (x.weight + 1) + PyData.weightAll (xs.drop (i + 1)) = PyData.weightAll xs := by
  have hi := (List.getElem?_eq_some_iff.mp h).1
  have e := w_split xs i
  have ed : xs.drop i = x :: xs.drop (i + 1) := by
    rw [List.drop_eq_getElem_cons hi]
    congr 1
    exact (List.getElem?_eq_some_iff.mp h).2
  rw [ed] at e
  simp only [PyData.weightAll] at e
  omega
theorem len_w : ∀ xs : List D, xs.length ≤ PyData.weightAll xs
  | [] => Nat.zero_le _
  | x :: xs => by have := len_w xs; simp only [List.length_cons, PyData.weightAll]; omega
theorem wt_tuple (xs : List D) : (PyData.tuple xs).weight = PyData.weightAll xs := by simp only [PyData.weight]
theorem wt_list (xs : List D) : (PyData.list xs).weight = PyData.weightAll xs := by simp only [PyData.weight]
theorem wt_int {i : Int} (h : i.natAbs < 10 ^ 25) : (PyData.int i).weight ≤ 84 := (nice_int h).weight
/-! ### cuts -/
theorem cut_to (xs : List D) (i : Nat) : cutD xs none (some (i : Int)) = xs.take i := by
  unfold cutD
  have e : HT.sIx xs.length 0 none = 0 := rfl
  rw [e, List.drop_zero, Nat.sub_zero]
  have e2 : HT.sIx xs.length xs.length (some (i : Int)) = min i xs.length := by
    unfold HT.sIx
    simp only
    split <;> omega
  rw [e2]
  by_cases h : i ≤ xs.length
  · rw [Nat.min_eq_left h]
  · rw [Nat.min_eq_right (by omega), List.take_length, List.take_of_length_le (by omega)]
theorem cut_from (xs : List D) (i : Nat) : cutD xs (some (i : Int)) none = xs.drop i := by
  unfold cutD
  have e : HT.sIx xs.length xs.length none = xs.length := rfl
  have e2 : HT.sIx xs.length 0 (some (i : Int)) = min i xs.length := by
    unfold HT.sIx
    simp only
    split <;> omega
  rw [e, e2]
  by_cases h : i ≤ xs.length
  · rw [Nat.min_eq_left h, List.take_of_length_le (by rw [List.length_drop]; omega)]
  · rw [Nat.min_eq_right (by omega), Nat.sub_self, List.drop_eq_nil_of_le (by omega : xs.length ≤ i), List.take_zero]
theorem cut_mid (xs : List D) (i m : Nat) : cutD xs (some (i : Int)) (some (m : Int)) = (xs.take m).drop i := by
  unfold cutD
  have e1 : ∀ z : Nat, HT.sIx xs.length z (some (i : Int)) = min i xs.length := fun z => by
    unfold HT.sIx
    simp only
    split <;> omega
  have e2 : ∀ z : Nat, HT.sIx xs.length z (some (m : Int)) = min m xs.length := fun z => by
    unfold HT.sIx
    simp only
    split <;> omega
  rw [e1, e2, List.drop_take]
  by_cases h : i ≤ xs.length
  · rw [Nat.min_eq_left h]
    by_cases h2 : m ≤ xs.length
    · rw [Nat.min_eq_left h2]
    · rw [Nat.min_eq_right (by omega), List.take_of_length_le (by rw [List.length_drop]; omega), List.take_of_length_le (by rw [List.length_drop]; omega)]
  · rw [Nat.min_eq_right (by omega : xs.length ≤ i), List.drop_eq_nil_of_le (Nat.le_refl _), List.drop_eq_nil_of_le (by omega : xs.length ≤ i)]
    simp
theorem cut_last (xs : List D) : cutD xs (some (-1)) none = xs.drop (xs.length - 1) := by
  unfold cutD
  have e : HT.sIx xs.length xs.length none = xs.length := rfl
  have e2 : HT.sIx xs.length 0 (some (-1)) = xs.length - 1 := by
    unfold HT.sIx
    simp only
    split <;> omega
  rw [e, e2, List.take_of_length_le (by rw [List.length_drop]; omega)]
end PL
end

local macro_rules | `(tactic| simp? [$xs,*]) => `(tactic| simp [PL.runF, PL.e_var, PL.e_int, PL.e_bl, PL.e_non, PL.e_str, PL.e_gint, PL.e_tup, PL.e_lst, PL.e_dct, PL.e_op, PL.e_cat, PL.e_rep, PL.e_neg, PL.e_cm, PL.e_ch, PL.e_isN, PL.e_isB, PL.e_and, PL.e_or, PL.e_not, PL.e_ite, PL.e_ix, PL.e_sl, PL.e_rev, PL.e_bi, PL.e_isi, PL.e_call, PL.e_new, PL.e_meth, PL.e_fld, PL.e_bm, PL.e_xat, PL.e_rpi, PL.e_fmt, PL.e_fstr, PL.ef_nil, PL.ef_cons, PL.e_frz, PL.e_said, PL.e_sset, PL.e_lset, PL.e_own, PL.e_tupR, PL.e_never, PL.x_asg, PL.x_expr, PL.x_ret, PL.x_retN, PL.x_ite, PL.x_raise, PL.x_raiseA, PL.x_tryN, PL.x_pass, PL.x_never, PL.x_nil, PL.x_cons, PL.es_nil, PL.es_cons, PL.eo_none, PL.eo_some, PL.ec_none, PL.ec_some, PL.a_name, PL.a_tup, PL.a_sub, PL.as_nil, PL.as_cons, PL.p_name, PL.p_tup, PL.ps_nil, PL.ps_cons, PL.isiD, PL.isi0, PL.cmD, PL.cmI, PL.biD, PL.bi1, PL.bi2, PL.biL, PL.ixD, PL.opD, PL.addD, PL.mulD, PL.int2, PL.wipe, PL.fin_pure1, PL.itemsD, PL.heldD, PL.isNm, PL.kdD, PL.bmD, PL.allD, PL.anyD, PL.allocL, $xs,*])
local macro_rules | `(tactic| dsimp? [$xs,*]) => `(tactic| simp [PL.w_var, PL.w_int, PL.w_bl, PL.w_non, PL.w_str, PL.w_gint, PL.w_tup, PL.w_lst, PL.w_allocF, PL.w_allocT, PL.w_oallo, PL.w_dct, PL.w_op, PL.w_cat, PL.w_rep, PL.w_neg, PL.w_cm, PL.w_ch, PL.w_isN, PL.w_and, PL.w_or, PL.w_not, PL.w_ite, PL.w_ix, PL.w_rev, PL.wo_none, PL.wo_some, PL.w_sl, PL.w_bi, PL.w_isi, PL.w_call, PL.w_fld, PL.w_bm, PL.w_sset, PL.w_lset, PL.w_fmt, PL.w_fstr, PL.wf_nil, PL.wf_cons, PL.w_tupR, PL.w_never, PL.ws_nil, PL.ws_cons, PL.w_comp, PL.wc_none, PL.wc_some, PL.wi_seq, PL.wi_range, PL.wi_enum, PL.wi_zip, PL.v_asg, PL.v_expr, PL.v_ret, PL.v_retN, PL.v_ite, PL.v_pass, PL.v_nil, PL.v_for, PL.v_while, PL.va_name, PL.va_tup, PL.va_sub, PL.vs_nil, PL.vs_cons, PL.p_name, PL.p_tup, PL.ps_nil, PL.ps_cons, PL.isiD, PL.isi0, PL.cmD, PL.cmI, PL.biD, PL.bi1, PL.bi2, PL.biL, PL.ixD, PL.opD, PL.addD, PL.mulD, PL.int2, PL.wipe, PL.itemsD, PL.heldD, PL.isNm, PL.kdD, PL.bmD, PL.allD, PL.anyD, PL.fin_pure1, PL.lim, $xs,*])

section
set_option Elab.async false
set_option linter.all false
set_option maxRecDepth 100000
set_option maxHeartbeats 1000000
namespace K10
open PySem PL
theorem lim_eq : lim = 16777216 := rfl
theorem ltD_int (i j : Int) : ltD (.int i) (.int j) = some (decide (i < j)) := by rw [ltD]
theorem eqOk_int (i : Int) : eqOk (.int i) = true := by simp [eqOk, PyData.plain, PyData.depth, depthMax]
theorem eqv_int (i j : Int) : PyData.eqv (.int i) (.int j) = decide (i = j) := by rw [Bool.eq_iff_iff]; simp [PyData.eqv]
theorem eqD_int (S : Sto) (i j : Int) : eqD S (.int i) (.int j) = some (decide (i = j)) := by
  have e : ∀ i : Int, val S (.int i) = .int i := fun _ => rfl
  unfold eqD
  rw [e, e, eqOk_int, eqOk_int, eqv_int]
  rfl
/-! ### the box -/
def SN (S : Sto) : Prop := ∀ n, S.all (refO n) = true
def B (S : Sto) (j : Nat) (a b : Int) : Sto := S.set j (.lst [.int a, .int b])
section
variable {S : Sto} {j k : Nat} {a b c d : Int}
theorem B_len : (B S j a b).length = S.length := by simp [B]
theorem B_objL (hj : j < S.length) : objL (B S j a b) j = some [.int a, .int b] := objL_of (by unfold B; rw [List.getElem?_set_self hj])
theorem B_app (hj : j < S.length) (T : Sto) : B S j a b ++ T = B (S ++ T) j a b := by unfold B; rw [List.set_append_left _ _ hj]
theorem B_set : (B S j a b).set j (.lst [.int c, .int d]) = B S j c d := by unfold B; rw [List.set_set]
theorem B_ne (h : k ≠ j) : objL (B S j a b) k = objL S k := by
  unfold objL B
  rw [List.getElem?_set_ne (Ne.symm h)]
theorem B_setne (h : k ≠ j) (o : O) : (B S j a b).set k o = B (S.set k o) j a b := by
  unfold B
  rw [List.set_comm _ _ (Ne.symm h)]
theorem B_takeA (hj : j < S.length) (T : Sto) : (B (S ++ T) j a b).take S.length = B S j a b := by
  rw [← B_app hj]
  have : S.length = (B S j a b).length := B_len.symm
  rw [this, List.take_left]
theorem B_take1 : (B S j a b).take S.length = B S j a b := by
  have : S.length = (B S j a b).length := B_len.symm
  rw [this, List.take_length]
theorem SN.B (h : SN S) : SN (B S j a b) := fun n => by
  refine List.all_eq_true.mpr fun o ho => ?_
  rcases List.mem_or_eq_of_mem_set ho with q | q
  · exact List.all_eq_true.mp (h n) o q
  · subst q; simp [refO]
theorem SN.app (h : SN S) {o : O} (ho : ∀ n, refO n o = true) : SN (S ++ [o]) := fun n => by
  rw [List.all_append, h n]
  simp [ho n]
end
def okB (a b : Int) : Prop := 0 ≤ a ∧ 0 ≤ b ∧ b < 1099511627776
theorem m_take (n : Nat) (S : Sto) (j : Nat) (hj : j < S.length) (sn : SN S) (a b m : Int) (h : okB a b) (m1 : 1 ≤ m) (m2 : m < 1073741824) :
    ∃ d a' b', okB a' b' ∧ 0 ≤ d ∧ d < m ∧ callS gi fns (n + 1) "_law_take" [rf j, .int m] (B S j a b) = .ok (.int d) (B S j a' b') := by
  obtain ⟨h1, h2, h3⟩ := h
  have m0 : 0 < m := by omega
  rw [callS_fn (F := f__law_take) (by kernel_rfl)]
  have ft : ∀ (a' b' d : Int), fin .trunc (B S j a b) (.int d) (B S j a' b') = .ok (.int d) (B S j a' b') := fun a' b' d => by
    rw [fin_trunc (by rw [B_len, B_len]; exact Nat.le_refl _) (by simp) (by rw [B_len, B_take1]; exact sn.B _), B_len, B_take1]
  have i0 : L2.ixN 2 0 = some 0 := ixN_nat (n := 2) (i := 0) (by omega)
  have i1 : L2.ixN 2 1 = some 1 := ixN_nat (n := 2) (i := 1) (by omega)
  by_cases q : 0 < a
  · refine ⟨a % m, a / m, b, ⟨Int.ediv_nonneg h1 (by omega), h2, h3⟩, Int.emod_nonneg _ (by omega), Int.emod_lt_of_pos _ m0, ?_⟩
    simp? [f__law_take, B_objL hj, q, m0, m2, setD, i0, B_set, ft]
  · have q1 := Int.emod_nonneg (b * 48271 + 11) (b := 2147483647) (by omega)
    have q2 := Int.emod_lt_of_pos (b * 48271 + 11) (b := 2147483647) (by omega)
    generalize hx : (b * 48271 + 11) % 2147483647 = x at q1 q2
    have q3 : 0 ≤ x / 1009 + 1 := by omega
    have q4 : x / 1009 + 1 < 4294967296 := by omega
    generalize hy : x / 1009 + 1 = y at q3 q4
    have q5 : 0 ≤ y * y := Int.mul_nonneg q3 q3
    have q6 : y * y < 18446744073709551616 := by
      have h1 : y ≤ 4294967295 := by omega
      have h2 := Int.mul_le_mul h1 h1 q3 (by omega)
      omega
    refine ⟨y * y * y % 2147483629 / 61 % m, a, x, ⟨h1, q1, by omega⟩, Int.emod_nonneg _ (by omega), Int.emod_lt_of_pos _ m0, ?_⟩
    have b1 : -bigD < b ∧ b < bigD := by unfold bigD; omega
    have b2 : -bigD < y ∧ y < bigD := by unfold bigD; omega
    have b3 : -bigD < y * y ∧ y * y < bigD := by unfold bigD; omega
    simp? [f__law_take, B_objL hj, q, m0, b1, hx, hy, b2, b3, setD, i1, B_set, ft]
theorem lm1 : 1 ≤ lim := by rw [lim_eq]; omega
theorem lm2 : 2 ≤ lim := by rw [lim_eq]; omega
theorem lm3 : 3 ≤ lim := by rw [lim_eq]; omega
theorem lm4 : 4 ≤ lim := by rw [lim_eq]; omega
theorem lm5 : 5 ≤ lim := by rw [lim_eq]; omega
theorem m_box (n : Nat) (ns : List Int) (k : Nat) (hk : k < 63) (S : Sto) : ∃ a b, okB a b ∧ callS gi fns (n + 1) "_law_box" [scr (ns.map .int), .int k] S = .ok (rf S.length) (S ++ [.lst [.int a, .int b]]) := by
  rw [callS_fn (F := f__law_box) (by kernel_rfl)]
  have b1 : -bigD < (6151 : Int) ∧ (6151 : Int) < bigD := by unfold bigD; omega
  have b2 : -bigD < (7919 : Int) ∧ (7919 : Int) < bigD := by unfold bigD; omega
  have bd : ∀ c : Int, okB ((if c < 0 then -c else c) / 2) (c % 1000003 + 7919 * k + 1) ∧ okB 0 (c % 2147483563 + 7919 * k + 1) := fun c => by
    have m1 := Int.emod_nonneg c (b := 1000003) (by omega)
    have m2 := Int.emod_lt_of_pos c (b := 1000003) (by omega)
    have m3 := Int.emod_nonneg c (b := 2147483563) (by omega)
    have m4 := Int.emod_lt_of_pos c (b := 2147483563) (by omega)
    exact ⟨⟨by split <;> omega, by omega, by omega⟩, by omega, by omega, by omega⟩
  by_cases q1 : k < ns.length
  · have e : ns[k]? = some ns[k] := List.getElem?_eq_getElem q1
    by_cases q : ns[k] % 2 = 0
    · refine ⟨_, _, (bd ns[k]).1, ?_⟩
      simp? [f__law_box, b1, eqOk_int, ltD_int, q1, atI_nat, e, eqD_int, q, absD, b2, lm2, fin]
    · refine ⟨_, _, (bd ns[k]).2, ?_⟩
      simp? [f__law_box, b1, eqOk_int, ltD_int, q1, atI_nat, e, eqD_int, q, absD, b2, lm2, fin]
  · have q2 : ¬ (k : Int) < ns.length := by omega
    by_cases q : (6151 * (k : Int) + 29) % 2 = 0
    · refine ⟨_, _, (bd (6151 * (k : Int) + 29)).1, ?_⟩
      simp? [f__law_box, b1, eqOk_int, ltD_int, q2, eqD_int, q, absD, b2, lm2, fin]
    · refine ⟨_, _, (bd (6151 * (k : Int) + 29)).2, ?_⟩
      simp? [f__law_box, b1, eqOk_int, ltD_int, q2, eqD_int, q, absD, b2, lm2, fin]
theorem B_fresh (S : Sto) (a b c d : Int) : S ++ [.lst [.int a, .int b]] = B (S ++ [.lst [.int c, .int d]]) S.length a b := by
  unfold B
  simp
theorem SN.box {S : Sto} (h : SN S) (a b : Int) : SN (S ++ [.lst [.int a, .int b]]) := h.app fun n => by simp [refO]
end K10
end

section
set_option Elab.async false
set_option linter.all false
set_option maxRecDepth 100000
set_option maxHeartbeats 1000000
namespace K10
open PySem PL
/-! ### the words of what is refused -/
def retOf : SOut → Option D
  | .ret d _ => some d
  | _ => none
theorem word_gen (n : Nat) (x : D) (w : Str) (h : retOf (exs (callS gi fns n) gi f__law_word.body [some x, none, none] []) = some (.str w)) : callS gi fns (n + 1) "_law_word" [x] [] = .ok (.str w) [] := by
  rw [callS_fn (F := f__law_word) (by kernel_rfl)]
  refine (if_pos rfl).trans ?_
  show (match exs (callS gi fns n) gi f__law_word.body [some x, none, none] [] with | .next _ S' => fin f__law_word.md [] .none S' | .ret d S' => fin f__law_word.md [] d S' | .exc x S' => .exc x S' | .bad => .bad) = _
  revert h
  cases exs (callS gi fns n) gi f__law_word.body [some x, none, none] [] with
  | ret d T =>
    intro h
    have e : d = .str w := Option.some.inj h
    subst e
    exact fin_pure (S := []) rfl rfl
  | _ => exact fun h => by cases h
def tblX : List (Str × Str) := [("lesson", "NoLesson"), ("book", "NoBook"), ("party", "NoParty"), ("person", "NoPerson"), ("day", "NoDay"), ("hour", "NoHour"), ("card", "NoCard"), ("cards", "NoCards"), ("comings", "NoComings"), ("number", "NoNumber"), ("gone", "Gone"), ("off", "Off"), ("there", "There"), ("many", "TooMany"), ("deed", "NoDeed"), ("text", "NoText")]
theorem words (n : Nat) : ∀ p ∈ tblX, callS gi fns (n + 1) "_law_word" [exD p.2] [] = .ok (.str (Str.ofString "! " ++ p.1)) [] := by
  unfold tblX
  refine List.forall_mem_cons.mpr ⟨word_gen n _ _ (by kernel_rfl), ?_⟩
  refine List.forall_mem_cons.mpr ⟨word_gen n _ _ (by kernel_rfl), ?_⟩
  refine List.forall_mem_cons.mpr ⟨word_gen n _ _ (by kernel_rfl), ?_⟩
  refine List.forall_mem_cons.mpr ⟨word_gen n _ _ (by kernel_rfl), ?_⟩
  refine List.forall_mem_cons.mpr ⟨word_gen n _ _ (by kernel_rfl), ?_⟩
  refine List.forall_mem_cons.mpr ⟨word_gen n _ _ (by kernel_rfl), ?_⟩
  refine List.forall_mem_cons.mpr ⟨word_gen n _ _ (by kernel_rfl), ?_⟩
  refine List.forall_mem_cons.mpr ⟨word_gen n _ _ (by kernel_rfl), ?_⟩
  refine List.forall_mem_cons.mpr ⟨word_gen n _ _ (by kernel_rfl), ?_⟩
  refine List.forall_mem_cons.mpr ⟨word_gen n _ _ (by kernel_rfl), ?_⟩
  refine List.forall_mem_cons.mpr ⟨word_gen n _ _ (by kernel_rfl), ?_⟩
  refine List.forall_mem_cons.mpr ⟨word_gen n _ _ (by kernel_rfl), ?_⟩
  refine List.forall_mem_cons.mpr ⟨word_gen n _ _ (by kernel_rfl), ?_⟩
  refine List.forall_mem_cons.mpr ⟨word_gen n _ _ (by kernel_rfl), ?_⟩
  refine List.forall_mem_cons.mpr ⟨word_gen n _ _ (by kernel_rfl), ?_⟩
  refine List.forall_mem_cons.mpr ⟨word_gen n _ _ (by kernel_rfl), ?_⟩
  exact fun _ z => nomatch z
theorem word_plain (n : Nat) : callS gi fns (n + 1) "_law_word" [exD "ClubError"] [] = .ok (.str "! none of them") [] := word_gen n _ _ (by kernel_rfl)
theorem word_at (n : Nat) : ∀ i : Nat, i < 24 → callS gi fns (n + 1) "_law_word" [exA "NotDone" (i : Int)] [] = .ok (.str (Str.ofString "! not done " ++ Str.ofString (toString (i : Int)))) []
  | 0, _ => word_gen n _ _ (by kernel_rfl)
  | 1, _ => word_gen n _ _ (by kernel_rfl)
  | 2, _ => word_gen n _ _ (by kernel_rfl)
  | 3, _ => word_gen n _ _ (by kernel_rfl)
  | 4, _ => word_gen n _ _ (by kernel_rfl)
  | 5, _ => word_gen n _ _ (by kernel_rfl)
  | 6, _ => word_gen n _ _ (by kernel_rfl)
  | 7, _ => word_gen n _ _ (by kernel_rfl)
  | 8, _ => word_gen n _ _ (by kernel_rfl)
  | 9, _ => word_gen n _ _ (by kernel_rfl)
  | 10, _ => word_gen n _ _ (by kernel_rfl)
  | 11, _ => word_gen n _ _ (by kernel_rfl)
  | 12, _ => word_gen n _ _ (by kernel_rfl)
  | 13, _ => word_gen n _ _ (by kernel_rfl)
  | 14, _ => word_gen n _ _ (by kernel_rfl)
  | 15, _ => word_gen n _ _ (by kernel_rfl)
  | 16, _ => word_gen n _ _ (by kernel_rfl)
  | 17, _ => word_gen n _ _ (by kernel_rfl)
  | 18, _ => word_gen n _ _ (by kernel_rfl)
  | 19, _ => word_gen n _ _ (by kernel_rfl)
  | 20, _ => word_gen n _ _ (by kernel_rfl)
  | 21, _ => word_gen n _ _ (by kernel_rfl)
  | 22, _ => word_gen n _ _ (by kernel_rfl)
  | 23, _ => word_gen n _ _ (by kernel_rfl)
  | i + 24, h => absurd h (by omega)
/-! ### a text is no lesson -/
theorem m_at_last_no (n : Nat) (t : Str) (S : Sto) : callS gi fns (n + 6) "at_last" [.str t, .tuple []] S = .exc ⟨"NoLesson", none⟩ S := by
  have e1 : callS gi fns (n + 2) "is_lesson" [.str t] S = .ok (.bool false) S := by
    rw [callS_fn (F := f_is_lesson) (by kernel_rfl)]
    simp? [f_is_lesson]
  have e2 : callS gi fns (n + 3) "need_lesson" [.str t] S = .exc ⟨"NoLesson", none⟩ S := by
    rw [callS_fn (F := f_need_lesson) (by kernel_rfl)]
    simp? [f_need_lesson, e1]
  have e3 : callS gi fns (n + 4) "first_wrong" [.str t, .tuple []] S = .exc ⟨"NoLesson", none⟩ S := by
    rw [callS_fn (F := f_first_wrong) (by kernel_rfl)]
    simp? [f_first_wrong, e2]
  have e4 : callS gi fns (n + 5) "need_done" [.str t, .tuple []] S = .exc ⟨"NoLesson", none⟩ S := by
    rw [callS_fn (F := f_need_done) (by kernel_rfl)]
    simp? [f_need_done, e3]
  rw [callS_fn (F := f_at_last) (by kernel_rfl)]
  simp? [f_at_last, e4]
/-! ### the drawn text -/
theorem lim_p : 0 < lim := by rw [lim_eq]; omega
theorem strsOf_map : ∀ xs : List Str, strsOf (xs.map .str) = some xs
  | [] => rfl
  | x :: xs => by
    rw [List.map_cons]
    simp only [strsOf, strsOf_map xs, Option.map_some]
theorem ev_join {G : Calls} {gi : Str → Option Int} {e1 : E} {ρ : PL.Env} {S T : Sto} {xs : List Str} {z : Str} (he : ev G gi e1 ρ S = .ok (.list (xs.map .str)) T) (hl : (xs.map (·.length)).sum + xs.length * z.length ≤ lim) : ev G gi (.bm (.str z) .join [e1]) ρ S = .ok (.str (Txt.join z xs)) T := by
  rw [e_bm, e_str]
  simp only [Out.bind_ok]
  rw [if_pos (by simp [kdD])]
  simp only [es_cons, es_nil, he, Out.bind_ok, bmD, bi1, seqD_list, Option.bind_some, strsOf_map, hl, if_true, oret_some]
abbrev lE (s : D) (sg : Str) (w k : D) (j : Nat) (x5 x6 x7 x8 x9 x10 x11 x12 : Option D) : PL.Env := [some s, some (.str sg), some w, some k, some (rf j), x5, x6, x7, x8, x9, x10, x11, x12]
def tkE : E := .ix (.var 1) (.call "_law_take" [.var 4, .bi .len [.var 1]])
theorem tx_comp (n : Nat) (S : Sto) (j : Nat) (hj : j < S.length) (sn : SN S) {s : D} {sg : Str} {w k : D} {x5 x6 x7 x8 x9 x10 x11 x12 : Option D} (h1 : 1 ≤ sg.length) (h2 : sg.length ≤ 1000) (ok : Sto → Prop) (hok : ∀ T, ok T) : ∀ (its : List D) (acc : List Str) (a b : Int), okB a b → acc.length + its.length ≤ 1000 →
    ∃ (xs : List Str) (a' b' : Int), okB a' b' ∧ xs.length = its.length ∧ (∀ x ∈ xs, x.length = 1) ∧ compL ok (fun d => putT (.name 12) d (wipe (lE s sg w k j x5 x6 x7 x8 x9 x10 x11 x12) [12])) (fun ρ S => evc (callS gi fns (n + 1)) gi none ρ S) (fun ρ S => ev (callS gi fns (n + 1)) gi tkE ρ S) its (acc.map .str) (B S j a b)
      = .ok ((acc ++ xs).map .str) (B S j a' b')
  | [], acc, a, b, h, _ => ⟨[], a, b, h, rfl, fun x hx => by simp at hx, by simp [compL, hok]⟩
  | it :: its, acc, a, b, h, hl => by
    have hl' : acc.length + (its.length + 1) ≤ 1000 := by simpa using hl
    obtain ⟨d, a1, b1, k1, u1, v1, e1⟩ := m_take n S j hj sn a b sg.length h (by omega) (by omega)
    obtain ⟨i, rfl⟩ := Int.eq_ofNat_of_zero_le u1
    have hi : i < sg.cps.toList.length := by
      have : sg.cps.toList.length = sg.length := by simp [Str.length]
      omega
    have e3 : L2.atI sg.cps.toList (i : Int) = some sg.cps.toList[i] := by
      rw [atI_nat]
      exact List.getElem?_eq_getElem hi
    obtain ⟨xs, a', b', z1, z2, z3, ih⟩ := tx_comp n S j hj sn (s := s) (w := w) (k := k) (x5 := x5) (x6 := x6) (x7 := x7) (x8 := x8) (x9 := x9) (x10 := x10) (x11 := x11) (x12 := x12) h1 h2 ok hok its (acc ++ [⟨#[sg.cps.toList[i]]⟩]) a1 b1 k1 (by simp; omega)
    refine ⟨⟨#[sg.cps.toList[i]]⟩ :: xs, a', b', z1, by simp [z2], fun x hx => ?_, ?_⟩
    · rcases List.mem_cons.mp hx with q | q
      · subst q; rfl
      · exact z3 x q
    have hlt : acc.length < lim := by rw [lim_eq]; omega
    have sgl : sg.length ≤ lim := by rw [lim_eq]; omega
    obtain ⟨c, hc⟩ : ∃ c, sg.cps.toList[i] = c := ⟨_, rfl⟩
    rw [hc] at ih e3 ⊢
    have e2 : ev (callS gi fns (n + 1)) gi tkE (lE s sg w k j x5 x6 x7 x8 x9 x10 x11 (some it)) (B S j a b) = .ok (.str ⟨#[c]⟩) (B S j a1 b1) := by
      unfold tkE
      rw [e_ix, e_var]
      simp only [List.getElem?_cons_zero, List.getElem?_cons_succ, Out.bind_ok]
      have el : ev (callS gi fns (n + 1)) gi (.bi .len [.var 1]) (lE s sg w k j x5 x6 x7 x8 x9 x10 x11 (some it)) (B S j a b) = .ok (.int sg.length) (B S j a b) := by
        simp? [lenD, sgl]
      have ec : ev (callS gi fns (n + 1)) gi (.call "_law_take" [.var 4, .bi .len [.var 1]]) (lE s sg w k j x5 x6 x7 x8 x9 x10 x11 (some it)) (B S j a b) = .ok (.int (i : Int)) (B S j a1 b1) := by
        rw [e_call, es_cons, e_var]
        simp only [List.getElem?_cons_zero, List.getElem?_cons_succ, Out.bind_ok]
        rw [es_cons, el]
        simp only [Out.bind_ok, es_nil, e1]
      rw [ec]
      simp only [Out.bind_ok, ixD, ixS]
      rw [if_pos sgl, e3]
      rfl
    simp only [compL]
    rw [if_pos (hok _)]
    have ep : putT (.name 12) it (wipe (lE s sg w k j x5 x6 x7 x8 x9 x10 x11 x12) [12]) = some (lE s sg w k j x5 x6 x7 x8 x9 x10 x11 (some it)) := rfl
    rw [ep]
    simp only [evc]
    rw [e2]
    simp only [List.length_map]
    rw [if_pos hlt]
    have e4 : acc.map PyData.str ++ [PyData.str ⟨#[c]⟩] = (acc ++ [(⟨#[c]⟩ : Str)]).map PyData.str := by simp
    simp only [evc] at ih
    rw [e4, ih]
    simp
end K10
end

section
set_option Elab.async false
set_option linter.all false
set_option maxRecDepth 100000
set_option maxHeartbeats 1000000
namespace K10
open PySem PL
/-! ### the law: its parts -/
def sgn : Str := " !\"#$&'()*+,-./0123456789:;<=>?@ABCDEFGHIJKLMNOPQRSTUVWXYZ[\\]^_`abcdefghijklmnopqrstuvwxyz{|}~
"
def b0 : St := .asg (.name 4) (.call "_law_box" [.var 0, .var 3])
def b1 : St := .asg (.name 5) (.bm (.str "") .join [.comp false (.ix (.var 1) (.call "_law_take" [.var 4, .bi .len [.var 1]])) [12] (.name 12) (.range (.call "_law_take" [.var 4, .int 11])) none])
def b2 : St := .asg (.name 6) (.lst false [.mkx "NoLesson" (.var 5), .mkx "NoBook" (.var 5), .mkx "NoParty" (.var 5), .mkx "NoPerson" (.var 5), .mkx "NoDay" (.var 5), .mkx "NoHour" (.var 5), .mkx "NoCard" (.var 5)])
def b3 : St := .asg (.name 6) (.op .add (.var 6) (.lst false [.mkx "NoCards" (.var 5), .mkx "NoComings" (.var 5), .mkx "NoNumber" (.var 5), .mkx "Gone" (.var 5), .mkx "Off" (.var 5), .mkx "There" (.var 5)]))
def b4 : St := .for_ (.tup [.name 8, .name 9]) (.zip (.var 2) (.op .add (.var 6) (.lst false [.mkx "TooMany" (.var 5), .mkx "NoDeed" (.var 5), .mkx "NoText" (.var 5)]))) [.ite (.or (.cm .ne (.calA "_law_word" [.var 9]) (.op .add (.str "! ") (.var 8))) (.not (.isi (.var 9) (.exc "ClubError")))) [.ret (.bl false)] []]
def b5 : St := .asg (.name 7) (.call "_law_take" [.var 4, .int 24])
def b6 : St := .asg (.tup [.name 10, .name 11]) (.tup [.mkxA "NotDone" (.var 7), .mkx "ClubError" (.var 5)])
def b7 : St := .ite (.or (.cm .ne (.calA "_law_word" [.var 10]) (.op .add (.str "! not done ") (.bi .str [.var 7]))) (.not (.isi (.var 10) (.exc "ClubError")))) [.ret (.bl false)] []
def b8 : St := .ite (.or (.cm .ne (.calA "_law_word" [.var 11]) (.str "! none of them")) (.not (.isi (.var 11) (.exc "ValueError")))) [.ret (.bl false)] []
def b9 : St := .ite (.cm .ne (.said (.call "at_last" [.var 5, .tup []])) (.str "! lesson")) [.ret (.bl false)] []
def rb : List St := [b0, b1, b2, b3, b4, b5, b6, b7, b8, b9]
def a1 : St := .asg (.name 2) (.lst false [.str "lesson", .str "book", .str "party", .str "person", .str "day", .str "hour", .str "card", .str "cards", .str "comings", .str "number", .str "gone", .str "off"])
def a2 : St := .asg (.name 2) (.op .add (.var 2) (.lst false [.str "there", .str "many", .str "deed", .str "text"]))
theorem lw_is : f_law.body = [.asg (.name 1) (.str sgn), a1, a2, .for_ (.name 3) (.range (.bi .max2 [.int 1, .bi .min2 [.bi .len [.var 0], .int 4]])) rb, .ret (.bl true)] := rfl
def wb : List St := [.ite (.or (.cm .ne (.calA "_law_word" [.var 9]) (.op .add (.str "! ") (.var 8))) (.not (.isi (.var 9) (.exc "ClubError")))) [.ret (.bl false)] []]

section
variable {G : Calls} {N : PL.Env → Sto → Prop} {R : D → Sto → Prop}
theorem or_ff {a b : E} {ρ : PL.Env} {S S1 S2 : Sto} (h1 : ev G gi a ρ S = .ok (.bool false) S1) (h2 : ev G gi b ρ S1 = .ok (.bool false) S2) : ev G gi (.or a b) ρ S = .ok (.bool false) S2 := by
  rw [e_or, h1]
  simp only [Out.bind_ok, h2]
theorem not_t {a : E} {ρ : PL.Env} {S S1 : Sto} (h : ev G gi a ρ S = .ok (.bool true) S1) : ev G gi (.not a) ρ S = .ok (.bool false) S1 := by
  rw [e_not, h]
  rfl
theorem ite_f {c : E} {t : List St} {ρ : PL.Env} {S S1 : Sto} (h : ev G gi c ρ S = .ok (.bool false) S1) (k : N ρ S1) : OkS (ex G gi (.ite c t []) ρ S) N R := by
  rw [v_ite, h]
  simp only [Ok_ok, tB_bool, Bool.false_eq_true, if_false]
  rw [v_nil]
  exact k
theorem vn {i : Nat} {e : E} {ρ : PL.Env} {S S' : Sto} {d : D} (h : ev G gi e ρ S = .ok d S') (hi : i < ρ.length) (k : N (ρ.set i (some d)) S') : OkS (ex G gi (.asg (.name i) e) ρ S) N R := by
  rw [v_asg, h]
  simp only [Ok_ok]
  rw [va_name]
  exact ⟨hi, k⟩
theorem ev_ne {a b : E} {ρ : PL.Env} {S1 S2 S3 : Sto} {x y : Str} (e : x = y) (h1 : ev G gi a ρ S1 = .ok (.str x) S2) (h2 : ev G gi b ρ S2 = .ok (.str y) S3) : ev G gi (.cm .ne a b) ρ S1 = .ok (.bool false) S3 := by
  subst e
  rw [e_cm, h1, Out.bind_ok, h2]
  simp only [Out.bind_ok, cmD, eqS, decide_true, Option.map_some, Bool.not_true, oret_some]
theorem calA1 {f : Str} {a : E} {ρ : PL.Env} {S : Sto} {x : D} {w : Str} (h : ev G gi a ρ S = .ok x S) (hx : refB 0 x = true) (e : G f [x] [] = .ok (.str w) []) : ev G gi (.calA f [a]) ρ S = .ok (.str w) S := by
  rw [e_calA, es_cons, h, Out.bind_ok, es_nil]
  have r : refBs 0 [x] = true := by simp [refBs, hx]
  simp only [Out.bind_ok, r, if_true, e]
  rfl
theorem isiX {a : E} {ρ : PL.Env} {S : Sto} {x : D} {c z : Str} (h : ev G gi a ρ S = .ok x S) (hx : asEx x = some c) (hz : xsub c z = true) : ev G gi (.isi a (.exc z)) ρ S = .ok (.bool true) S := by
  rw [e_isi, h, Out.bind_ok]
  simp only [isiD, hx, Option.map_some, hz, oret_some]
theorem for_step {ok : Sto → Prop} {put : D → PL.Env → Option PL.Env} {body : PL.Env → Sto → SOut} {d : D} {ds : List D} {ρ ρ' : PL.Env} {S : Sto} (ho : ok S) (ep : put d ρ = some ρ') (h : OkS (body ρ' S) (fun ρ S => OkS (forL ok put body ds ρ S) N R) R) : OkS (forL ok put body (d :: ds) ρ S) N R := by
  simp only [forL]
  rw [if_pos ho, ep]
  simp only [OkS_seq]
  exact h
theorem for_end {ok : Sto → Prop} {put : D → PL.Env → Option PL.Env} {body : PL.Env → Sto → SOut} {ρ : PL.Env} {S : Sto} (ho : ok S) (h : N ρ S) : OkS (forL ok put body [] ρ S) N R := by
  simp only [forL]
  rw [if_pos ho]
  exact h
end
def wsV : D := .list (tblX.map fun p => .str p.1)
def itm : List D := tblX.map fun p => .tuple [.str p.1, exD p.2]
theorem tbl_len : ∀ p ∈ tblX, p.1.length ≤ 20 := by decide +kernel
theorem b2_len : (Str.ofString "! ").length ≤ 20 := by decide +kernel
theorem b3_len : (Str.ofString "! not done ").length ≤ 20 := by decide +kernel
theorem sgn_len : 1 ≤ sgn.length ∧ sgn.length ≤ 1000 := by decide +kernel
theorem lmk {k : Nat} (h : k ≤ 1000) : k ≤ lim := by rw [lim_eq]; omega
section
variable {G : Calls} {N : PL.Env → Sto → Prop} {R : D → Sto → Prop} {n : Nat} {S : Sto} {s k : D} {j : Nat} {x5 x6 x7 x8 x9 x10 x11 x12 : Option D}
theorem wb_ok (hG : G = callS gi fns (n + 13)) {ok : Sto → Prop} (how : ok S) : ∀ (ps : List (Str × Str)) (x8 x9 : Option D), (∀ p ∈ ps, p ∈ tblX) → (∀ x8 x9, N (lE s sgn wsV k j x5 x6 x7 x8 x9 x10 x11 x12) S) →
    OkS (forL ok (putT (.tup [.name 8, .name 9])) (fun ρ S => exs G gi wb ρ S) (ps.map fun p => .tuple [.str p.1, exD p.2]) (lE s sgn wsV k j x5 x6 x7 x8 x9 x10 x11 x12) S) N R
  | [], x8, x9, hp, hN => for_end how (hN x8 x9)
  | p :: ps, x8, x9, hp, hN => by
    have hm := hp p List.mem_cons_self
    have hw : G "_law_word" [exD p.2] [] = .ok (.str (Str.ofString "! " ++ p.1)) [] := by rw [hG]; exact words (n + 12) p hm
    have hl := tbl_len p hm
    have h2 := b2_len
    rw [List.map_cons]
    refine for_step how (ρ' := lE s sgn wsV k j x5 x6 x7 (some (.str p.1)) (some (exD p.2)) x10 x11 x12) (by first | rfl | simp? []) ?_
    have g := wb_ok hG how ps (some (.str p.1)) (some (exD p.2)) (fun q hq => hp q (List.mem_cons_of_mem _ hq)) hN
    have a1 := calA1 (a := .var 9) (ρ := lE s sgn wsV k j x5 x6 x7 (some (.str p.1)) (some (exD p.2)) x10 x11 x12) (S := S) (by simp only [e_var]; rfl) rfl hw
    have a2 : ev G gi (.op .add (.str "! ") (.var 8)) (lE s sgn wsV k j x5 x6 x7 (some (.str p.1)) (some (exD p.2)) x10 x11 x12) S = .ok (.str (Str.ofString "! " ++ p.1)) S := by
      rw [e_op, e_str]
      simp only [e_var, List.getElem?_cons_zero, List.getElem?_cons_succ, Out.bind_ok, opD, addD]
      rw [if_pos (lmk (by omega))]
      rfl
    have a3 : ev G gi (.isi (.var 9) (.exc "ClubError")) (lE s sgn wsV k j x5 x6 x7 (some (.str p.1)) (some (exD p.2)) x10 x11 x12) S = .ok (.bool true) S := isiX (c := p.2) (by simp only [e_var]; rfl) rfl (by simp [xsub])
    unfold wb
    rw [v_one]
    exact ite_f (or_ff (ev_ne rfl a1 a2) (not_t a3)) g
theorem rb_ok (hG : G = callS gi fns (n + 13)) (ns : List Int) (sn : SN S) {k : Nat} (hk : k < 63) {x4 : Option D} (hN : ∀ T x4 x5 x6 x7 x8 x9 x10 x11 x12, SN T → N [some (scr (ns.map .int)), some (.str sgn), some wsV, some (.int k), x4, x5, x6, x7, x8, x9, x10, x11, x12] T) :
    OkS (exs G gi rb [some (scr (ns.map .int)), some (.str sgn), some wsV, some (.int k), x4, x5, x6, x7, x8, x9, x10, x11, x12] S) N R := by
  obtain ⟨a, b, hb, e⟩ := m_box (n + 12) ns k hk S
  have e' : G "_law_box" [scr (ns.map .int), .int k] S = .ok (rf S.length) (S ++ [.lst [.int a, .int b]]) := by rw [hG]; exact e
  obtain ⟨S1, hS1⟩ : ∃ S1, S ++ [O.lst [.int 0, .int 0]] = S1 := ⟨_, rfl⟩
  have sn1 : SN S1 := by rw [← hS1]; exact sn.box 0 0
  have hj : S.length < S1.length := by rw [← hS1]; simp
  rw [B_fresh S a b 0 0, hS1] at e'
  generalize S.length = j at hj e'
  obtain ⟨d, a1, b1, k1, u1, v1, e1⟩ := m_take (n + 12) S1 j hj sn1 a b 11 hb (by omega) (by omega)
  have hdl : (rangeL d).length ≤ 10 := by simp [rangeL]; omega
  obtain ⟨xs, a2, b2, k2, z2, z3, hh⟩ := tx_comp (n + 12) S1 j hj sn1 (s := scr (ns.map .int)) (sg := sgn) (w := wsV) (k := .int k) (x5 := x5) (x6 := x6) (x7 := x7) (x8 := x8) (x9 := x9) (x10 := x10) (x11 := x11) (x12 := x12) sgn_len.1 sgn_len.2 (Wk.ok ⟨rangeL d, [], false⟩) (fun T => by simp) (rangeL d) [] a1 b1 k1 (by simp; omega)
  obtain ⟨d3, a3, b3, k3, u3, v3, e3⟩ := m_take (n + 12) S1 j hj sn1 a2 b2 24 k2 (by omega) (by omega)
  obtain ⟨i, rfl⟩ := Int.eq_ofNat_of_zero_le u3
  have e1' : G "_law_take" [rf j, .int 11] (B S1 j a b) = .ok (.int d) (B S1 j a1 b1) := by rw [hG]; exact e1
  have e3' : G "_law_take" [rf j, .int 24] (B S1 j a2 b2) = .ok (.int (i : Int)) (B S1 j a3 b3) := by rw [hG]; exact e3
  have hh' : compL (Wk.ok ⟨rangeL d, [], false⟩) (fun d => putT (.name 12) d (wipe (lE (scr (ns.map .int)) sgn wsV (.int k) j x5 x6 x7 x8 x9 x10 x11 x12) [12])) (fun ρ S => evc G gi none ρ S) (fun ρ S => ev G gi tkE ρ S) (rangeL d) [] (B S1 j a1 b1) = .ok (xs.map .str) (B S1 j a2 b2) := by rw [hG]; exact hh
  have wi : G "_law_word" [exA "NotDone" (i : Int)] [] = .ok (.str (Str.ofString "! not done " ++ Str.ofString (toString (i : Int)))) [] := by rw [hG]; exact word_at (n + 12) i (by omega)
  have wp : G "_law_word" [exD "ClubError"] [] = .ok (.str "! none of them") [] := by rw [hG]; exact word_plain (n + 12)
  have wl : G "_law_word" [exD "NoLesson"] [] = .ok (.str "! lesson") [] := by
    rw [hG]
    exact word_gen (n + 12) _ _ (by kernel_rfl)
  have al : ∀ t T, G "at_last" [.str t, .tuple []] T = .exc ⟨"NoLesson", none⟩ T := fun t T => by rw [hG]; exact m_at_last_no (n + 7) t T
  have hB : B S1 j a b = B S1 j a b := rfl
  have snB : ∀ a b, SN (B S1 j a b) := fun a b => sn1.B
  unfold rb
  -- the box
  rw [v_cons]
  refine vn (d := rf j) (S' := B S1 j a b) ?_ (by simp) ?_
  · rw [e_call]
    simp only [es_cons, es_nil, e_var, List.getElem?_cons_zero, List.getElem?_cons_succ, Out.bind_ok, e']
  show OkS (exs G gi _ (lE (scr (ns.map .int)) sgn wsV (.int k) j x5 x6 x7 x8 x9 x10 x11 x12) (B S1 j a b)) _ _
  -- the text
  obtain ⟨t, ht⟩ : ∃ t, Txt.join (Str.ofString "") xs = t := ⟨_, rfl⟩
  have ei : evi G gi (.range (.call "_law_take" [.var 4, .int 11])) (lE (scr (ns.map .int)) sgn wsV (.int k) j x5 x6 x7 x8 x9 x10 x11 x12) (B S1 j a b) = .ok ⟨rangeL d, [], false⟩ (B S1 j a1 b1) := by
    rw [evi, e_call, es_cons, e_var]
    simp only [List.getElem?_cons_zero, List.getElem?_cons_succ, Out.bind_ok, es_cons, es_nil, e_int, e1']
    rw [if_pos (by unfold bigD; omega)]
  have ec : ev G gi (.comp false tkE [12] (.name 12) (.range (.call "_law_take" [.var 4, .int 11])) none) (lE (scr (ns.map .int)) sgn wsV (.int k) j x5 x6 x7 x8 x9 x10 x11 x12) (B S1 j a b) = .ok (.list (xs.map .str)) (B S1 j a2 b2) := by
    rw [ev, ei]
    simp only [Out.bind_ok]
    rw [if_neg (by simp), hh']
    simp only [Out.bind_ok, allocL, List.length_map]
    rw [if_pos (lmk (by omega)), if_neg (by simp)]
  have et : ev G gi (.bm (.str "") .join [.comp false tkE [12] (.name 12) (.range (.call "_law_take" [.var 4, .int 11])) none]) (lE (scr (ns.map .int)) sgn wsV (.int k) j x5 x6 x7 x8 x9 x10 x11 x12) (B S1 j a b) = .ok (.str t) (B S1 j a2 b2) := by
    rw [← ht]
    refine ev_join ec ?_
    have z0 : (Str.ofString "").length = 0 := by decide +kernel
    have hs : (xs.map (·.length)).sum ≤ xs.length := by
      have : ∀ ys : List Str, (∀ x ∈ ys, x.length = 1) → (ys.map (·.length)).sum = ys.length := fun ys => by
        induction ys with
        | nil => intro _; rfl
        | cons y ys ih => intro h; simp [h y List.mem_cons_self, ih fun x hx => h x (List.mem_cons_of_mem _ hx)]; omega
      rw [this xs z3]
      exact Nat.le_refl _
    rw [z0, lim_eq]
    omega
  rw [v_cons]
  refine vn et (by simp) ?_
  show OkS (exs G gi _ (lE (scr (ns.map .int)) sgn wsV (.int k) j (some (.str t)) x6 x7 x8 x9 x10 x11 x12) (B S1 j a2 b2)) _ _
  -- what is made
  have mk : ∀ (c : Str) (ρ : PL.Env) (T : Sto), ρ[5]? = some (some (.str t)) → ev G gi (.mkx c (.var 5)) ρ T = .ok (exD c) T := fun c ρ T h => by
    rw [e_mkx, e_var, h]
    rfl
  generalize B S1 j a2 b2 = T2 at e3'
  have m7 : ∀ x6, ev G gi (.lst false [.mkx "NoLesson" (.var 5), .mkx "NoBook" (.var 5), .mkx "NoParty" (.var 5), .mkx "NoPerson" (.var 5), .mkx "NoDay" (.var 5), .mkx "NoHour" (.var 5), .mkx "NoCard" (.var 5)]) (lE (scr (ns.map .int)) sgn wsV (.int k) j (some (.str t)) x6 x7 x8 x9 x10 x11 x12) T2 = .ok (.list [exD "NoLesson", exD "NoBook", exD "NoParty", exD "NoPerson", exD "NoDay", exD "NoHour", exD "NoCard"]) T2 := fun x6 => by
    rw [e_lst]
    simp only [es_cons, es_nil, mk _ (lE (scr (ns.map .int)) sgn wsV (.int k) j (some (.str t)) x6 x7 x8 x9 x10 x11 x12) T2 rfl, Out.bind_ok]
    unfold allocL
    rw [if_pos (lmk (by simp)), if_neg (by simp)]
  rw [v_cons]
  refine vn (m7 x6) (by simp) ?_
  show OkS (exs G gi _ (lE (scr (ns.map .int)) sgn wsV (.int k) j (some (.str t)) (some (.list [exD "NoLesson", exD "NoBook", exD "NoParty", exD "NoPerson", exD "NoDay", exD "NoHour", exD "NoCard"])) x7 x8 x9 x10 x11 x12) T2) _ _
  have m6 : ∀ x6, ev G gi (.lst false [.mkx "NoCards" (.var 5), .mkx "NoComings" (.var 5), .mkx "NoNumber" (.var 5), .mkx "Gone" (.var 5), .mkx "Off" (.var 5), .mkx "There" (.var 5)]) (lE (scr (ns.map .int)) sgn wsV (.int k) j (some (.str t)) x6 x7 x8 x9 x10 x11 x12) T2 = .ok (.list [exD "NoCards", exD "NoComings", exD "NoNumber", exD "Gone", exD "Off", exD "There"]) T2 := fun x6 => by
    rw [e_lst]
    simp only [es_cons, es_nil, mk _ (lE (scr (ns.map .int)) sgn wsV (.int k) j (some (.str t)) x6 x7 x8 x9 x10 x11 x12) T2 rfl, Out.bind_ok]
    unfold allocL
    rw [if_pos (lmk (by simp)), if_neg (by simp)]
  rw [v_cons]
  refine vn (d := .list [exD "NoLesson", exD "NoBook", exD "NoParty", exD "NoPerson", exD "NoDay", exD "NoHour", exD "NoCard", exD "NoCards", exD "NoComings", exD "NoNumber", exD "Gone", exD "Off", exD "There"]) (S' := T2) ?_ (by simp) ?_
  · rw [e_op, e_var]
    simp only [List.getElem?_cons_zero, List.getElem?_cons_succ, Out.bind_ok]
    rw [m6]
    simp only [Out.bind_ok, opD, addD, lstD_list]
    rw [if_pos (lmk (by simp))]
    rfl
  show OkS (exs G gi _ (lE (scr (ns.map .int)) sgn wsV (.int k) j (some (.str t)) (some (.list [exD "NoLesson", exD "NoBook", exD "NoParty", exD "NoPerson", exD "NoDay", exD "NoHour", exD "NoCard", exD "NoCards", exD "NoComings", exD "NoNumber", exD "Gone", exD "Off", exD "There"])) x7 x8 x9 x10 x11 x12) T2) _ _
  obtain ⟨m13, hm13⟩ : ∃ m : List D, [exD "NoLesson", exD "NoBook", exD "NoParty", exD "NoPerson", exD "NoDay", exD "NoHour", exD "NoCard", exD "NoCards", exD "NoComings", exD "NoNumber", exD "Gone", exD "Off", exD "There"] = m := ⟨_, rfl⟩
  rw [hm13]
  have m3 : ev G gi (.lst false [.mkx "TooMany" (.var 5), .mkx "NoDeed" (.var 5), .mkx "NoText" (.var 5)]) (lE (scr (ns.map .int)) sgn wsV (.int k) j (some (.str t)) (some (.list m13)) x7 x8 x9 x10 x11 x12) T2 = .ok (.list [exD "TooMany", exD "NoDeed", exD "NoText"]) T2 := by
    rw [e_lst]
    simp only [es_cons, es_nil, mk _ (lE (scr (ns.map .int)) sgn wsV (.int k) j (some (.str t)) (some (.list m13)) x7 x8 x9 x10 x11 x12) T2 rfl, Out.bind_ok]
    unfold allocL
    rw [if_pos (lmk (by simp)), if_neg (by simp)]
  have m16 : ev G gi (.op .add (.var 6) (.lst false [.mkx "TooMany" (.var 5), .mkx "NoDeed" (.var 5), .mkx "NoText" (.var 5)])) (lE (scr (ns.map .int)) sgn wsV (.int k) j (some (.str t)) (some (.list m13)) x7 x8 x9 x10 x11 x12) T2 = .ok (.list (tblX.map fun p => exD p.2)) T2 := by
    rw [e_op, e_var]
    simp only [List.getElem?_cons_zero, List.getElem?_cons_succ, Out.bind_ok]
    rw [m3]
    simp only [Out.bind_ok, opD, addD, lstD_list]
    rw [← hm13, if_pos (lmk (by simp))]
    rfl
  have iz : evi G gi (.zip (.var 2) (.op .add (.var 6) (.lst false [.mkx "TooMany" (.var 5), .mkx "NoDeed" (.var 5), .mkx "NoText" (.var 5)]))) (lE (scr (ns.map .int)) sgn wsV (.int k) j (some (.str t)) (some (.list m13)) x7 x8 x9 x10 x11 x12) T2 = .ok ⟨tblX.map fun p => .tuple [.str p.1, exD p.2], [], true⟩ T2 := by
    rw [evi, e_var]
    simp only [List.getElem?_cons_zero, List.getElem?_cons_succ, Out.bind_ok]
    rw [m16]
    rfl
  rw [v_cons]
  unfold b4
  rw [v_for, iz]
  refine ⟨rfl, ?_⟩
  refine wb_ok hG (fun p hp => by cases hp) tblX x8 x9 (fun p hp => hp) fun x8 x9 => ?_
  -- a place
  rw [v_cons]
  refine vn (d := .int (i : Int)) (S' := B S1 j a3 b3) ?_ (by simp) ?_
  · rw [e_call]
    simp only [es_cons, es_nil, e_var, e_int, List.getElem?_cons_zero, List.getElem?_cons_succ, Out.bind_ok, e3']
  show OkS (exs G gi _ (lE (scr (ns.map .int)) sgn wsV (.int k) j (some (.str t)) (some (.list m13)) (some (.int i)) x8 x9 x10 x11 x12) (B S1 j a3 b3)) _ _
  have snT := snB a3 b3
  generalize B S1 j a3 b3 = T3 at snT
  have p2 : ev G gi (.tup [.mkxA "NotDone" (.var 7), .mkx "ClubError" (.var 5)]) (lE (scr (ns.map .int)) sgn wsV (.int k) j (some (.str t)) (some (.list m13)) (some (.int i)) x8 x9 x10 x11 x12) T3 = .ok (.tuple [exA "NotDone" i, exD "ClubError"]) T3 := by
    rw [e_tup, es_cons, e_mkxA, e_var]
    simp only [List.getElem?_cons_zero, List.getElem?_cons_succ, Out.bind_ok]
    rw [es_cons, mk _ _ _ rfl]
    simp only [Out.bind_ok, es_nil, List.length_cons, List.length_nil]
    rw [if_pos (lmk (by omega))]
  rw [v_cons]
  unfold b6
  rw [v_asg, p2]
  simp only [Ok_ok]
  rw [va_tup]
  refine ⟨rfl, ?_⟩
  dsimp? []
  show OkS (exs G gi _ (lE (scr (ns.map .int)) sgn wsV (.int k) j (some (.str t)) (some (.list m13)) (some (.int i)) x8 x9 (some (exA "NotDone" i)) (some (exD "ClubError")) x12) T3) _ _
  obtain ⟨ρ, hρ⟩ : ∃ ρ, lE (scr (ns.map .int)) sgn wsV (.int k) j (some (.str t)) (some (.list m13)) (some (.int i)) x8 x9 (some (exA "NotDone" i)) (some (exD "ClubError")) x12 = ρ := ⟨_, rfl⟩
  have v10 : ev G gi (.var 10) ρ T3 = .ok (exA "NotDone" i) T3 := by rw [← hρ]; simp only [e_var]; rfl
  have v11 : ev G gi (.var 11) ρ T3 = .ok (exD "ClubError") T3 := by rw [← hρ]; simp only [e_var]; rfl
  have v7 : ev G gi (.var 7) ρ T3 = .ok (.int i) T3 := by rw [← hρ]; simp only [e_var]; rfl
  have v5 : ev G gi (.var 5) ρ T3 = .ok (.str t) T3 := by rw [← hρ]; simp only [e_var]; rfl
  have g : N ρ T3 := by rw [← hρ]; exact hN T3 _ _ _ _ _ _ _ _ _ snT
  rw [hρ]
  have c1 := calA1 v10 rfl wi
  have sl : (Str.ofString (toString (i : Int))).length ≤ 20 := by
    have : ∀ i : Fin 24, (Str.ofString (toString ((i.val : Nat) : Int))).length ≤ 20 := by decide +kernel
    exact this ⟨i, by omega⟩
  have lg : ((i : Int)).natAbs.log2 < 1920 := by
    have : ∀ i : Fin 24, ((i.val : Nat) : Int).natAbs.log2 < 1920 := by decide +kernel
    exact this ⟨i, by omega⟩
  have c2 : ev G gi (.op .add (.str "! not done ") (.bi .str [.var 7])) ρ T3 = .ok (.str (Str.ofString "! not done " ++ Str.ofString (toString (i : Int)))) T3 := by
    have h3 := b3_len
    rw [e_op, e_str]
    simp only [Out.bind_ok]
    rw [e_bi, es_cons, v7]
    simp only [Out.bind_ok, es_nil, biD, bi1, strD]
    rw [if_pos lg]
    simp only [oret_some, Out.bind_ok, opD, addD]
    rw [if_pos (lmk (by omega))]
    rfl
  have c3 : ev G gi (.isi (.var 10) (.exc "ClubError")) ρ T3 = .ok (.bool true) T3 := isiX (c := "NotDone") v10 rfl (by simp [xsub])
  have c4 := calA1 v11 rfl wp
  have c5 : ev G gi (.isi (.var 11) (.exc "ValueError")) ρ T3 = .ok (.bool true) T3 := isiX (c := "ClubError") v11 rfl (by simp [xsub])
  have c6 : ev G gi (.said (.call "at_last" [.var 5, .tup []])) ρ T3 = .ok (.str "! lesson") T3 := by
    rw [e_said, e_call, es_cons, v5]
    simp only [Out.bind_ok]
    rw [es_cons, e_tup, es_nil]
    simp only [Out.bind_ok]
    rw [if_pos (show ([] : List D).length ≤ lim from Nat.zero_le _)]
    simp only [Out.bind_ok, es_nil, al]
    simp only [exV_none, wl]
  rw [v_cons]
  refine ite_f (or_ff (ev_ne rfl c1 c2) (not_t c3)) ?_
  rw [v_cons]
  refine ite_f (or_ff (ev_ne rfl c4 e_str) (not_t c5)) ?_
  rw [v_one]
  exact ite_f (ev_ne rfl c6 e_str) g
end
theorem T (ns : List Int) : ∃ S', callS gi fns 14 "law" [scr (ns.map .int)] [] = .ok (.bool true) S' := by
  suffices h : PL.Ok (callS gi fns 14 "law" [scr (ns.map .int)] []) fun d _ => d = .bool true by
    obtain ⟨d, S', e, rfl⟩ := h.out
    exact ⟨S', e⟩
  refine ok_callS (F := f_law) (by kernel_rfl) rfl ?_
  rw [lw_is, v_cons]
  obtain ⟨G, hG⟩ : ∃ G, G = callS gi fns (0 + 13) := ⟨_, rfl⟩
  have hG' : callS gi fns 13 = G := hG.symm
  rw [hG']
  show OkS (ex G gi _ [some (scr (ns.map .int)), none, none, none, none, none, none, none, none, none, none, none, none] []) _ _
  refine vn (d := .str sgn) e_str (by simp) ?_
  show OkS (exs G gi _ [some (scr (ns.map .int)), some (.str sgn), none, none, none, none, none, none, none, none, none, none, none] []) _ _
  rw [v_cons]
  refine vn (d := .list [.str "lesson", .str "book", .str "party", .str "person", .str "day", .str "hour", .str "card", .str "cards", .str "comings", .str "number", .str "gone", .str "off"]) (S' := []) ?_ (by simp) ?_
  · rw [e_lst]
    simp only [es_cons, es_nil, e_str, Out.bind_ok]
    unfold allocL
    rw [if_pos (lmk (by simp)), if_neg (by simp)]
  show OkS (exs G gi _ [some (scr (ns.map .int)), some (.str sgn), some (.list [.str "lesson", .str "book", .str "party", .str "person", .str "day", .str "hour", .str "card", .str "cards", .str "comings", .str "number", .str "gone", .str "off"]), none, none, none, none, none, none, none, none, none, none] []) _ _
  rw [v_cons]
  refine vn (d := wsV) (S' := []) ?_ (by simp) ?_
  · have l4 : ∀ ρ : PL.Env, ev G gi (.lst false [.str "there", .str "many", .str "deed", .str "text"]) ρ [] = .ok (.list [.str "there", .str "many", .str "deed", .str "text"]) [] := fun ρ => by
      rw [e_lst]
      simp only [es_cons, es_nil, e_str, Out.bind_ok]
      unfold allocL
      rw [if_pos (lmk (by simp)), if_neg (by simp)]
    rw [e_op, e_var]
    simp only [List.getElem?_cons_zero, List.getElem?_cons_succ, Out.bind_ok]
    rw [l4]
    simp only [Out.bind_ok, opD, addD, lstD_list]
    rw [if_pos (lmk (by simp))]
    rfl
  show OkS (exs G gi _ [some (scr (ns.map .int)), some (.str sgn), some wsV, none, none, none, none, none, none, none, none, none, none] []) _ _
  rw [v_cons]
  obtain ⟨r, hr, r1, r2⟩ : ∃ r : Nat, (r : Int) = (if (if (4 : Int) < ns.length then (4 : Int) else ns.length) > 1 then (if (4 : Int) < ns.length then (4 : Int) else ns.length) else 1) ∧ 1 ≤ r ∧ r ≤ 4 := by
    refine ⟨(if (if (4 : Int) < ns.length then (4 : Int) else ns.length) > 1 then (if (4 : Int) < ns.length then (4 : Int) else ns.length) else 1).toNat, ?_, ?_, ?_⟩ <;> (split <;> split <;> omega)
  have em : ∀ Q, PL.Ok (ev G gi (.bi .max2 [.int 1, .bi .min2 [.bi .len [.var 0], .int 4]]) [some (scr (ns.map .int)), some (.str sgn), some wsV, none, none, none, none, none, none, none, none, none, none] []) Q = Q (.int (r : Int)) [] := fun Q => by
    rw [hr]
    dsimp? []
  rw [v_for, wi_range, em]
  refine ⟨by unfold bigD; omega, rfl, ?_⟩
  refine ok_for (fun rest ρ S => SN S ∧ (∀ d ∈ rest, ∃ k : Nat, k < 63 ∧ d = .int k) ∧ ∃ x3 x4 x5 x6 x7 x8 x9 x10 x11 x12, ρ = [some (scr (ns.map .int)), some (.str sgn), some wsV, x3, x4, x5, x6, x7, x8, x9, x10, x11, x12]) ⟨fun _ => rfl, fun d hd => ?_, _, _, _, _, _, _, _, _, _, _, rfl⟩ (fun rest ρ S h => by simp) ?_ ?_
  · obtain ⟨i, hi, rfl⟩ := List.mem_map.mp hd
    have := List.mem_range.mp hi
    exact ⟨i, by omega, rfl⟩
  · rintro d rest ρ S ⟨sn, hk, x3, x4, x5, x6, x7, x8, x9, x10, x11, x12, rfl⟩
    obtain ⟨k, k3, rfl⟩ := hk d List.mem_cons_self
    refine ⟨_, by simp? []; rfl, ?_⟩
    refine rb_ok (n := 0) hG ns sn k3 fun T y4 y5 y6 y7 y8 y9 y10 y11 y12 snT => ?_
    exact ⟨snT, fun d hd => hk d (List.mem_cons_of_mem _ hd), _, _, _, _, _, _, _, _, _, _, rfl⟩
  · rintro ρ S ⟨sn, _, x3, x4, x5, x6, x7, x8, x9, x10, x11, x12, rfl⟩
    rw [v_one]
    dsimp? []
    have e := fin_pure (S := []) (S' := S) (d := .bool true) rfl (by simp)
    show PL.Ok (fin .pure [] (.bool true) S) _
    rw [e]
    rfl
theorem law_holds : PySem.Challenge.rw_tenturns_k10_classes_of_refusals.Holds := holds fun ns _ => T ns
end K10
end

section
set_option linter.all false
theorem PySem.Challenge.cw_tenturns_k10_classes_of_refusals_holds : PySem.Challenge.rw_tenturns_k10_classes_of_refusals.Holds := by
  exact K10.law_holds
end
